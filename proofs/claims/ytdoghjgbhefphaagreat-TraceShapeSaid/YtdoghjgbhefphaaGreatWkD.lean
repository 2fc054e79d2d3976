/-
 Whether pictures are alike (package morainelaw11). Proves nothing of any one statement.
-/
import Derived.Test.YtdoghjgbhefphaaGreatWkB
import Derived.Test.YtdoghjgbhefphaaGreatLx
set_option linter.unusedVariables false
set_option linter.unusedSimpArgs false
namespace Go.Proofs.YtdoghjgbhefphaaGreat
open Go

theorem KnRow.at'{H:Array Obj}{B:Option Addr}{n c:Nat}{ks:List Kn}{rb:List Nat}(h:KnRow H B n c ks rb){i:Nat}(hi:i<ks.length): ∃(a:Addr) (v:KV),B=some a/\hat H (a.add (i*3))=some (.int .i64 ks[i].kind)/\hat H ((a.add (i*3)).add 1)=some (.slice v.wB ks[i].ws.length v.wC)/\hat H ((a.add (i*3)).add 2)=some (.slice v.iB ks[i].is.length v.iC)/\SrcAt H v.wB (wvs ks[i].ws)/\SrcAt H v.iB (ivs ks[i].is)/\ks[i].ws.length=ks[i].is.length/\ks[i].ws.length<=1000000:=by
 obtain⟨kvs,h1,h2,h3⟩:=h.row
 have hi':i<kvs.length:=by omega
 obtain⟨a,ha,_,hr⟩:=h2.elem KV.cells_len (by decide) hi'
 have k:=h3 i hi' hi
 have hr':=hr
 simp only[KV.cells,RowAt,and_true,addr_add2]at hr'
 refine⟨a,kvs[i],ha,?_,?_,?_,k.w,k.i,k.len⟩
 ·rw[<-k.kind];exact hr'.1
 ·rw[<-k.wN,addr_add2];exact hr'.2.1
 ·rw[<-k.iN,addr_add2];exact hr'.2.2
theorem src_u{H:Array Obj}{B:Option Addr}{xs:List Int}(h:SrcAt H B (wvs xs)){i:Nat}(hi:i<xs.length): ∃a,B=some a/\hat H (a.add (i*1))=some (.int .u64 xs[i]):=by
 cases B with
 | none=>rw[SrcAt_none]at h;simp[wvs]at h;subst h;simp at hi
 | some a=>
  refine⟨a,rfl,?_⟩
  have:=rowAt_hat (show RowAt H a 0 _ from h) i (.int .u64 xs[i]) (by simp[wvs,hi])
  rw[Nat.zero_add]at this;rw[Nat.mul_one];exact this
theorem take_eq_succ{α:Type}{a b:List α}{i:Nat}(h:a.take i=b.take i)(ha:i<a.length)(hb:i<b.length)(e:a[i]=b[i]):a.take (i+1)=b.take (i+1):=by
 rw[List.take_succ_eq_append_getElem ha,List.take_succ_eq_append_getElem hb,h,e]
set_option maxRecDepth 100000 in
theorem alike_c{H:Array Obj}{aB bB:Option Addr}{aN aC bN bC:Nat}{xs ys:List Kn}{ra rb:List Nat}(A:KnRow H aB aN aC xs ra)(B:KnRow H bB bN bC ys rb)(hl:aN<=10000000):
  morainelaw11_alike.C aB aN aC bB bN bC H (λv H'=>v=.bool (decide (xs=ys))/\H'=H):=by
 refine HC.via λR hR=>morainelaw11_alike.link ?_
 unfold morainelaw11_alike.pt
 have no:xs≠ys->R (.bool false) H:=λh=>hR _ _ ⟨by rw[decide_eq_false h],rfl⟩
 have hA:=A.n
 have hB:=B.n
 by_cases hlen:(aN:Int)=(bN:Int)
 case neg=>rw[if_neg hlen];exact no (λe=>hlen (by rw[hA,hB,e]))
 rw[if_pos hlen]
 refine⟨λi A'=>(0<=i/\i<=xs.length)/\xs.take i.toNat=ys.take i.toNat/\A'=H,λi _=>(xs.length-i).toNat,⟨by omega,by simp,rfl⟩,?_⟩
 rintro i H1 ⟨hi,ht,rfl⟩
 by_cases hlt:i< (aN:Int)
 case neg=>
  rw[if_neg hlt]
  rw[List.take_of_length_le (by omega),List.take_of_length_le (by omega)]at ht
  exact hR _ _ ⟨by rw[decide_eq_true ht],rfl⟩
 rw[if_pos hlt]
 have hia:i.toNat<xs.length:=by omega
 have hib:i.toNat<ys.length:=by omega
 obtain⟨a,va,rfl,p1,p2,p3,p4,p5,p6,p7⟩:=A.at' hia
 obtain⟨b,vb,rfl,q1,q2,q3,q4,q5,q6,q7⟩:=B.at' hib
 have hne:xs[i.toNat]≠ys[i.toNat]->xs≠ys:=λh e=>h (by subst e;rfl)
 have bi:(0:Int)<=i/\i< (aN:Int):=⟨hi.1,hlt⟩
 have bj:(0:Int)<=i/\i< (bN:Int):=⟨hi.1,by omega⟩
 refine⟨a,rfl,bi,_,p1,b,rfl,bj,_,q1,?_⟩
 generalize hka:xs[i.toNat]=ka at*
 generalize hkb:ys[i.toNat]=kb at*
 by_cases hk:ka.kind=kb.kind
 case neg=>rw[if_neg hk];exact no (hne (λe=>hk (by rw[e])))
 rw[if_pos hk]
 refine⟨bi,_,_,_,p2,bj,_,_,_,q2,?_⟩
 by_cases hw:(ka.ws.length:Int)=(kb.ws.length:Int)
 case neg=>rw[if_neg hw];exact no (hne (λe=>hw (by rw[e])))
 rw[if_pos hw]
 refine⟨λk A'=>(0<=k/\k<=ka.ws.length)/\ka.ws.take k.toNat=kb.ws.take k.toNat/\ka.is.take k.toNat=kb.is.take k.toNat/\A'=H1,λk _=>(ka.ws.length-k).toNat,⟨by omega,by simp,by simp,rfl⟩,?_⟩
 rintro k H2 ⟨hkr,ht1,ht2,rfl⟩
 refine⟨bi,_,_,_,p2,?_⟩
 by_cases hkl:k< (ka.ws.length:Int)
 case neg=>
  rw[if_neg hkl]
  rw[List.take_of_length_le (by omega),List.take_of_length_le (by omega)]at ht1 ht2
  have he:ka=kb:=by
   cases ka;cases kb
   simp only[Kn.mk.injEq]at*
   exact⟨hk,ht1,ht2⟩
  have hd:((xs.length:Int)-(i+1)).toNat< ((xs.length:Int)-i).toNat:=by omega
  rw[w64 (n:=i+1) (by omega)]
  refine⟨⟨by omega,?_,rfl⟩,hd⟩
  rw[show(i+1).toNat=i.toNat+1 by omega]
  exact take_eq_succ ht hia hib (by rw[hka,hkb,he])
 rw[if_pos hkl]
 have k1:k.toNat<ka.ws.length:=by omega
 have k2:k.toNat<kb.ws.length:=by omega
 have k3:k.toNat<ka.is.length:=by omega
 have k4:k.toNat<kb.is.length:=by omega
 obtain⟨a1,r1,s1⟩:=src_u p4 k1
 obtain⟨a2,r2,s2⟩:=src_u q4 k2
 obtain⟨a3,r3,s3⟩:=src_int p5 k3
 obtain⟨a4,r4,s4⟩:=src_int q5 k4
 refine⟨bi,_,_,_,p2,a1,r1,⟨by omega,hkl⟩,_,s1,bj,_,_,_,q2,a2,r2,⟨by omega,by omega⟩,_,s2,?_⟩
 by_cases hww:ka.ws[k.toNat]=kb.ws[k.toNat]
 case neg=>rw[if_neg hww];exact no (hne (λe=>hww (by subst e;rfl)))
 rw[if_pos hww]
 refine⟨bi,_,_,_,p3,a3,r3,⟨by omega,by omega⟩,_,s3,bj,_,_,_,q3,a4,r4,⟨by omega,by omega⟩,_,s4,?_⟩
 by_cases hii:ka.is[k.toNat]=kb.is[k.toNat]
 case neg=>rw[if_neg hii];exact no (hne (λe=>hii (by subst e;rfl)))
 rw[if_pos hii]
 have hd:((ka.ws.length:Int)-(k+1)).toNat< ((ka.ws.length:Int)-k).toNat:=by omega
 rw[w64 (n:=k+1) (by omega)]
 refine⟨⟨by omega,?_,?_,rfl⟩,hd⟩<;>rw[show(k+1).toNat=k.toNat+1 by omega]
 ·exact take_eq_succ ht1 k1 k2 hww
 ·exact take_eq_succ ht2 k3 k4 hii
end Go.Proofs.YtdoghjgbhefphaaGreat
