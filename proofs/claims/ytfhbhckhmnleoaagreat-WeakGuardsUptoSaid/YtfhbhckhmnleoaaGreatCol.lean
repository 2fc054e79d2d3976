/-
 Contracts of the document's answer for words (moraineref01), said of integers. Proves nothing of any one statement.
-/
import Derived.Test.YtfhbhckhmnleoaaGreatWord
import Derived.Test.YtfhbhckhmnleoaaGreatFweak
import Derived.Test.YtfhbhckhmnleoaaGreatMvH
import Derived.Test.YtfhbhckhmnleoaaGreatGcB
import Derived.Test.YtfhbhckhmnleoaaGreatWords
set_option linter.unusedVariables false
set_option linter.unusedSimpArgs false
namespace Go.Proofs.YtfhbhckhmnleoaaGreat
open Go
variable{H:zV}
theorem rh{n:Nat}(hn:n<64):bZ.C n H (λv b=>v=vu (2 ^ n)/\Ext H b):=by
 refine HC.via λR d=>bZ.link ?_
 unfold bZ.pt zY
 refine⟨λx i b=> ∃k:Nat,i=k/\k<=n/\x=2 ^ k/\b=H,λx i _=>(n-i).toNat,⟨0,rfl,by omega,rfl,rfl⟩,?_⟩
 rintro x i f ⟨k,rfl,hk,rfl,rfl⟩
 by_cases a:(k:Int)<n
 ·rw[if_pos a]
  have e:(2:Nat) ^ (k+1)<=2 ^ 63:=Nat.pow_le_pow_right (by decide) (by omega)
  have c:((2 ^ (k+1):Nat):Int)=(2:Int) ^ k*2:=by rw[<-Int.pow_succ];simp
  have g:(0:Int)<2 ^ k:=Int.pow_pos (by decide)
  rw[w64 (by omega),wu64 (by omega)]
  exact⟨⟨k+1,by omega,by omega,by rw[Int.pow_succ],rfl⟩,by show((n:Int)-(k+1)).toNat< ((n:Int)-k).toNat;omega⟩
 ·rw[if_neg a]
  have:k=n:=by omega
  subst this
  exact d _ _ ⟨rfl,Ext.refl _⟩
theorem jH{b:Nat}{i:Array Value}{T:TypeId}{R:zk}{d:zV}{k t a x m:Int}(w:H[b]?=some (.cells i T (0,0)))(hn:i.size=5)(p:Ext d H)(e:d.size<=b)
  (h: ∀f,Ext d f->R (.agg #[vi k,vi t,vi a,vi x,vu m]) f):
  aN H ⟨b,0,none⟩ 0 5/\ ∀c:zV,c=aV H ⟨b,0,none⟩ [vi k,vi t,vi a,vi x,vu m] 0->
   ∃j n g o l:Int,aP c ⟨b,0,none⟩ 0 [vi j,vi n,vi g,vi o,vu l]/\R (.agg #[vi j,vi n,vi g,vi o,vu l]) c:=by
 obtain⟨q,r⟩:=boxed (vs:=[vi k,vi t,vi a,vi x,vu m]) (H1:=H) w hn rfl
 refine⟨q,λc v=>?_⟩
 obtain⟨s,u⟩:=r c v
 exact⟨k,t,a,x,m,s,h c (u d p e)⟩
def OfIs(w k t a x m:Int):Prop:=
 (w % 8=0/\k=1/\t=0/\a=0/\x=signed w / 8/\m=0)\/
 ((w % 8=1\/w % 8=2\/w % 8=3\/w % 8=6)/\w / 8<65536/\k=2/\t=w % 8/\a=w / 8/\x=0/\m=0)\/
 (w % 8=4/\w / 8 % 32<7/\w / 256=0/\k=3/\t=0/\a=w / 8 % 32/\x=0/\m=0)\/
 (w % 8=4/\w / 8 % 32=7/\jq (w / 256)=true/\k=4/\t=0/\a=w / 256/\x=0/\m=0)\/
 (w % 8=5/\(1<=w / 8 % 32/\w / 8 % 32<=13/\w / 256 % 256<=62)/\k=5/\t=w / 8 % 32/\a=w / 256 % 256/\x=0/\m=w / 65536)\/
 (mayW w=false/\k=0/\t=0/\a=0/\x=0/\m=0)
theorem qE{c:Int}(P:aC c):cT.C c H (λv i=> ∃k t a x m:Int,v=.agg #[vi k,vi t,vi a,vi x,vu m]/\OfIs c k t a x m/\Ext H i):=by
 refine HC.via λR o=>cT.link ?_
 unfold cT.pt zY
 intro b I N M
 have j:Ext H I:=Ext.push' M
 have l:=aO N M
 have d:H.size<=b:=by omega
 have W:IntKind.wrap .i64 (Int.tmod c 8)=c % 8:=by rw[gU P.1,w64 (by omega)]
 have X:IntKind.wrap .u64 (Int.tdiv c 8)=c / 8:=by rw[hX P.1,wu64 (by omega)]
 have Y:IntKind.wrap .i64 (Int.tmod (c / 8) 32)=c / 8 % 32:=by rw[gU (by omega),w64 (by omega)]
 have Z:IntKind.wrap .u64 (Int.tdiv (c / 8) 32)=c / 256:=by rw[hX (by omega),wu64 (by omega)];omega
 have t5:IntKind.wrap .i64 (Int.tmod (c / 256) 256)=c / 256 % 256:=by rw[gU (by omega),w64 (by omega)]
 have t6:IntKind.wrap .u64 (Int.tdiv (c / 256) 256)=c / 65536:=by rw[hX (by omega),wu64 (by omega)];omega
 simp only[W,X,Y,Z,t5,t6]
 by_cases u:c % 8=0
 ·rw[if_pos u]
  refine HC.mono (rh (n:=60) (by decide)) ?_
  rintro _ H2 ⟨rfl,r⟩
  refine⟨_,rfl,?_⟩
  have F:(2:Int) ^ 60=1152921504606846976:=by decide
  have G:(2:Int) ^ 61=2305843009213693952:=by decide
  rw[F]
  by_cases Q:c / 8>=1152921504606846976
  ·rw[if_pos Q]
   refine HC.mono (rh (n:=61) (by decide)) ?_
   rintro _ H3 ⟨rfl,L⟩
   refine⟨_,rfl,?_⟩
   rw[G,wu64 (n:=2305843009213693952-c / 8) (by omega),w64 (n:=2305843009213693952-c / 8) (by omega),w64 (n:=0-(2305843009213693952-c / 8)) (by omega)]
   refine jH ((r.trans L).get l) rfl ((j.trans r).trans L) d λi f=>o _ _ ⟨_,_,_,_,_,rfl,.inl ⟨u,rfl,rfl,rfl,?_,rfl⟩,f⟩
   unfold signed
   rw[if_pos (by omega)]
   omega
  ·rw[if_neg Q]
   rw[w64 (n:=c / 8) (by omega)]
   refine jH (r.get l) rfl (j.trans r) d λi f=>o _ _ ⟨_,_,_,_,_,rfl,.inl ⟨u,rfl,rfl,rfl,?_,rfl⟩,f⟩
   unfold signed
   rw[if_neg (by omega)]
 rw[if_neg u]
 refine⟨λs i=>i=I/\s=decide (c % 8=1\/c % 8=2\/c % 8=3\/c % 8=6),?_,?_⟩
 ·by_cases A:c % 8=1
  ·rw[if_pos A];exact⟨rfl,by simp[A]⟩
  rw[if_neg A]
  by_cases B:c % 8=2
  ·rw[if_pos B];exact⟨rfl,by simp[B]⟩
  rw[if_neg B]
  by_cases D:c % 8=3
  ·rw[if_pos D];exact⟨rfl,by simp[D]⟩
  rw[if_neg D]
  refine⟨rfl,?_⟩
  rw[Bool.eq_iff_iff];simp;omega
 rintro s J ⟨rfl,rfl⟩
 have e: ∀(hm:mayW c=false),aN J (Addr.mk b 0 none) 0 5/\ ∀z:zV,z=aV J (Addr.mk b 0 none) [vi 0,vi 0,vi 0,vi 0,vu 0] 0->
   ∃S U K V T:Int,aP z (Addr.mk b 0 none) 0 [vi S,vi U,vi K,vi V,vu T]/\R (.agg #[vi S,vi U,vi K,vi V,vu T]) z:=λhm=>
  jH l rfl j d λi f=>o _ _ ⟨_,_,_,_,_,rfl,.inr (.inr (.inr (.inr (.inr ⟨hm,rfl,rfl,rfl,rfl,rfl⟩)))),f⟩
 by_cases y:c % 8=1\/c % 8=2\/c % 8=3\/c % 8=6
 ·rw[if_pos (zX y)]
  by_cases g:c / 8<65536
  ·rw[if_pos g,w64 (n:=c / 8) (by omega)]
   exact jH l rfl j d λi f=>o _ _ ⟨_,_,_,_,_,rfl,.inr (.inl ⟨y,g,rfl,rfl,rfl,rfl,rfl⟩),f⟩
  ·rw[if_neg g]
   exact e (by rw[mY y];simpa using g)
 rw[if_neg (by simpa using y)]
 by_cases p:c % 8=4
 ·rw[if_pos p]
  by_cases q:c / 8 % 32<7/\c / 256=0
  ·rw[if_pos (by simp[q])]
   exact jH l rfl j d λi f=>o _ _ ⟨_,_,_,_,_,rfl,.inr (.inr (.inl ⟨p,q.1,q.2,rfl,rfl,rfl,rfl,rfl⟩)),f⟩
  rw[if_neg (by simpa using q)]
  by_cases g:c / 8 % 32=7/\jq (c / 256)=true
  ·have N:c / 256<=1114111:=by have:=g.2;unfold jq at this;simp at this;exact this.1
   rw[if_pos (by have:=g.2;unfold jq at this;simp at this;simp[g.1,this]),w64 (n:=c / 256) (by omega)]
   exact jH l rfl j d λi f=>o _ _ ⟨_,_,_,_,_,rfl,.inr (.inr (.inr (.inl ⟨p,g.1,g.2,rfl,rfl,rfl,rfl,rfl⟩))),f⟩
  ·rw[if_neg (by intro h;simp at h;exact g ⟨h.1.1,by unfold jq;simp;exact⟨h.1.2,h.2⟩⟩)]
   refine e ?_
   rw[qh p]
   by_cases E:c / 8 % 32=7
   ·rw[if_pos E]
    have: ¬jq (c / 256)=true:=λh=>g ⟨E,h⟩
    simpa using this
   ·rw[if_neg E]
    rw[decide_eq_false_iff_not]
    intro h
    exact q (by omega)
 rw[if_neg p]
 by_cases w:c % 8=5
 ·rw[if_pos w]
  by_cases O:1<=c / 8 % 32/\c / 8 % 32<=13/\c / 256 % 256<=62
  ·rw[if_pos (by simp;omega)]
   exact jH l rfl j d λi f=>o _ _ ⟨_,_,_,_,_,rfl,.inr (.inr (.inr (.inr (.inl ⟨w,O,rfl,rfl,rfl,rfl,rfl⟩)))),f⟩
  ·rw[if_neg (by simp;omega)]
   exact e (by rw[sI w];simpa using O)
 rw[if_neg w]
 exact e (sJ (by omega))
variable{d:List Int}{H:zV}{i:Int}
theorem OfIs.none{w k t a x m:Int}(h:OfIs w k t a x m):k=0 ↔ mayW w=false:=by
 unfold OfIs at h
 unfold mayW
 rcases h with h | h | h | h | h | h
 ·rw[if_pos h.1];exact⟨λe=>by omega,λe=>by simp at e⟩
 ·rw[if_neg (by omega),if_pos h.1,zX h.2.1];exact⟨λe=>by omega,λe=>by simp at e⟩
 ·rw[if_neg (by omega),if_neg (by omega),if_pos h.1,if_neg (by omega),zX (by omega)];exact⟨λe=>by omega,λe=>by simp at e⟩
 ·rw[if_neg (by omega),if_neg (by omega),if_pos h.1,if_pos h.2.1,h.2.2.1];exact⟨λe=>by omega,λe=>by simp at e⟩
 ·rw[if_neg (by omega),if_neg (by omega),if_neg (by omega),if_pos h.1,zX h.2.1];exact⟨λe=>by omega,λe=>by simp at e⟩
 ·exact⟨λ_=>h.1,λ_=>h.2.1⟩
theorem tO(x:Nat)(e:x<2 ^ 64):x &&& (2 ^ 64-8)=x / 8*8:=by
 have b:(2 ^ 64-8:Nat)=(2 ^ 61-1)<<<3:=by decide
 have c:x / 8*8=(x>>>3)<<<3:=by rw[Nat.shiftRight_eq_div_pow,Nat.shiftLeft_eq]
 rw[b,c]
 refine Nat.eq_of_testBit_eq λi=>?_
 rw[Nat.testBit_and,Nat.testBit_shiftLeft,Nat.testBit_shiftLeft,Nat.testBit_shiftRight,Nat.testBit_two_pow_sub_one]
 by_cases a:3<=i
 ·rw[show 3+(i-3)=i by omega]
  by_cases d:i<64
  ·simp[a,show i-3<61 by omega]
  ·have:x.testBit i=false:=Nat.testBit_lt_two_pow (Nat.lt_of_lt_of_le e (Nat.pow_le_pow_right (by decide) (by omega)))
   simp[this]
 ·simp[a]
theorem oh(a:aC i):jl .u64 i 7=i / 8*8:=by
 unfold jl
 have e:(~~~BitVec.ofInt IntKind.u64.bits 7:BitVec IntKind.u64.bits).toNat=2 ^ 64-8:=by decide
 rw[BitVec.toNat_and,e,iy a.1 a.2,tO _ (by have:=a.1;have:=a.2;omega),wu64 (by have:=a.1;have:=a.2;omega)]
 have:=a.1
 omega
def valW(W Of:Int)(mw:List Int):Int:=if 0<Of/\0<mw.length then mw.getD ((Of-1) % mw.length).toNat 0 else if(W % 8=0\/W % 8=4)/\mayW W=true then W else W / 8*8
theorem kG{W Of:Int}(a:aC W)(hm: ∀w∈d,aC w):aC (valW W Of d):=by
 unfold valW
 by_cases h:0<Of/\0<d.length
 ·rw[if_pos h]
  have b:((Of-1) % d.length).toNat<d.length:=by
   have:=Int.emod_nonneg (Of-1) (show(d.length:Int)≠0 by omega)
   have:=Int.emod_lt_of_pos (Of-1) (show(0:Int)<d.length by omega)
   omega
  rw[getD_at b];exact hm _ (List.getElem_mem _)
 ·rw[if_neg h]
  split
  ·exact a
  ·have:=a.1;have:=a.2;constructor<;>omega
theorem kz{W Of:Int}{p:zW}{n c:Nat}(G:aC W)(Y:I64 Of)(z:Own H 28 1 p n c (wvs d)):bH.C W Of p n c H (λv o=>v=vu (valW W Of d)/\Ext H o):=by
 refine HC.via λR i=>bH.link ?_
 unfold bH.pt zY
 intro b E S w
 have r:Ext H E:=Ext.push' w
 have I:=aO S w
 have hn:n=d.length:=by have:=z.len;simpa[wvs]using this.symm
 subst hn
 refine⟨Of,by rw[addr_add_mk,aK I];rfl,?_⟩
 by_cases h:0<Of/\0<d.length
 ·rw[if_pos (by simp only[Bool.and_eq_true,decide_eq_true_eq];omega)]
  have e:Int.tmod (IntKind.wrap .i64 (Of-1)) (d.length:Int)=(Of-1) % d.length:=by rw[w64 (by omega),gU (by omega)]
  have u:=Int.emod_nonneg (Of-1) (show(d.length:Int)≠0 by omega)
  have P:=Int.emod_lt_of_pos (Of-1) (show(0:Int)<d.length by omega)
  have N:valW W Of d=d.getD ((Of-1) % d.length).toNat 0:=by unfold valW;rw[if_pos h]
  rw[N]at i
  have hk:((Of-1) % d.length).toNat<d.length:=by omega
  obtain⟨a,Q,y⟩:=(z.ext r).at (j:=((Of-1) % d.length).toNat) (v:=vu (d.getD ((Of-1) % d.length).toNat 0)) (by rw[getD_at hk];simp[wvs,hk])
  refine⟨Of,by rw[addr_add_mk,aK I];rfl,by omega,a,Q,by rw[e];exact⟨u,P⟩,_,by rw[e,Nat.mul_one];exact y,i _ _ ⟨rfl,r⟩⟩
 rw[if_neg (by simp only[Bool.and_eq_true,decide_eq_true_eq];omega)]
 have N:valW W Of d=if(W % 8=0\/W % 8=4)/\mayW W=true then W else W / 8*8:=by unfold valW;rw[if_neg h]
 rw[N]at i
 have f: ∀o,Ext E o->hat o (Addr.mk b 0 none)=some (vu W):=λo e=>e.hat (by rw[aK I];rfl)
 have L:iand .u64 W 7=W % 8:=lR 3 (by decide) G 7 (by decide)
 have s:(W % 8=0\/W % 8=4)-> ∃x:Int,hat E (Addr.mk b 0 none)=some (vu x)/\
   cT.C x E (λv q=> ∃g:Int,∃A:Int,∃V:Int,∃X:Int,∃l:Int,v=.agg #[vi g,vi A,vi V,vi X,vu l]/\
    if g=0 then(∃B:Int,hat q (Addr.mk b 0 none)=some (vu B)/\R (vu (jl .u64 B 7)) q)
    else∃D:Int,hat q (Addr.mk b 0 none)=some (vu D)/\R (vu D) q):=λU=>by
  refine⟨W,f _ (Ext.refl _),?_⟩
  refine HC.mono (qE G) ?_
  rintro v q ⟨k,t,a,x,m,rfl,M,F⟩
  refine⟨k,t,a,x,m,rfl,?_⟩
  have hn:=M.none
  by_cases hk:k=0
  ·rw[if_pos hk]
   have K:=hn.1 hk
   rw[if_neg (λO=>by rw[K]at O;exact absurd O.2 (by decide))]at i
   exact⟨W,f _ F,by rw[oh G];exact i _ _ ⟨rfl,r.trans F⟩⟩
  ·rw[if_neg hk]
   have K:mayW W=true:=by
    cases T:mayW W with
    | true=>rfl
    | false=>exact absurd (hn.2 T) hk
   rw[if_pos ⟨U,K⟩]at i
   exact⟨W,f _ F,i _ _ ⟨rfl,r.trans F⟩⟩
 refine⟨W,f _ (Ext.refl _),?_⟩
 rw[L]
 by_cases u:W % 8=0
 ·rw[if_pos u];exact s (.inl u)
 rw[if_neg u]
 by_cases J:W % 8=4
 ·rw[if_pos J];exact s (.inr J)
 rw[if_neg J]
 rw[if_neg (by omega)]at i
 exact⟨W,f _ (Ext.refl _),by rw[oh G];exact i _ _ ⟨rfl,r⟩⟩
theorem kH{m:Mem}{b:Int->Nat}{W Of:Int}(hm: ∀w∈d,Good m b w):Good m b (valW W Of d):=by
 have a: ∀v:Int,v % 8=0\/v % 8=4->Good m b v:=λv h=>⟨by omega,λe=>by unfold isTag at e;omega⟩
 unfold valW
 by_cases h:0<Of/\0<d.length
 ·rw[if_pos h]
  have c:((Of-1) % d.length).toNat<d.length:=by
   have:=Int.emod_nonneg (Of-1) (show(d.length:Int)≠0 by omega)
   have:=Int.emod_lt_of_pos (Of-1) (show(0:Int)<d.length by omega)
   omega
  rw[getD_at c];exact hm _ (List.getElem_mem _)
 ·rw[if_neg h]
  by_cases q:(W % 8=0\/W % 8=4)/\mayW W=true
  ·rw[if_pos q];exact a W q.1
  ·rw[if_neg q];exact a _ (.inl (by omega))
theorem rP{s:Sl jc}{p:zW}{n c:Nat}(A:SlOK 2 gI maxLen H s)(I:Own H 28 1 p n c (wvs d)):
  cP.C s.p s.n s.c p n c H (λv l=> ∃q x k,v=vs q x k/\x=((s.xs.take 62).map λv=>valW v.w v.ofv d).length/\x<=62/\Own l 28 1 q x k (wvs ((s.xs.take 62).map λv=>valW v.w v.ofv d))/\Ext H l/\ ∀i,i∈blks q->H.size<=i):=by
 refine HC.via λR S=>cP.link ?_
 unfold cP.pt zY
 have L:=A.len
 refine⟨λq m k i l=>(0<=i/\i<=s.n/\i<=62)/\m=i.toNat/\Own l 28 1 q m k (wvs ((s.xs.take i.toNat).map λv=>valW v.w v.ofv d))/\Ext H l/\ ∀j,j∈blks q->H.size<=j,λ_ _ _ i _=>(62-i).toNat,⟨by omega,rfl,by simpa using iB,Ext.refl _,by simp⟩,?_⟩
 rintro q m k i X ⟨W,rfl,F,o,J⟩
 by_cases g:i< (s.n:Int)/\i<62
 case neg=>
  rw[if_neg (by simpa using g)]
  have e:s.xs.take i.toNat=s.xs.take 62:=by
   by_cases Q:i<62
   ·rw[List.take_of_length_le (by omega),List.take_of_length_le (by omega)]
   ·rw[show i.toNat=62 by omega]
  have K:((s.xs.take i.toNat).map λv=>valW v.w v.ofv d).length=i.toNat:=by rw[List.length_map,List.length_take];omega
  rw[e]at F K
  exact S _ _ ⟨q,_,k,rfl,K.symm,by omega,F,o,J⟩
 rw[if_pos (by simpa using g)]
 have f:i.toNat<s.xs.length:=by omega
 obtain⟨a,T,u⟩:=A.row i.toNat f
 refine⟨a,T,⟨W.1,g.1⟩,_,_,o.rowAt u,?_⟩
 have t:=A.each _ (List.getElem_mem f)
 refine HC.mono (kz (wf_u64 t.w) (wf_i64 t.ofv) (I.ext o)) ?_
 rintro _ M ⟨rfl,z⟩
 refine⟨_,rfl,λb N U r=>?_⟩
 have B:Ext M N:=Ext.push' r
 rw[w64 (n:=i+1) (by omega)]
 have V:(62-(i+1)).toNat< (62-i).toNat:=by omega
 refine fU (ys:=wvs [valW s.xs[i.toNat].w s.xs[i.toNat].ofv d]) ((F.ext z).ext B) (gK (aO U r) _ 0 0 (λj D=>by
  simp only[wvs,List.map_cons,List.map_nil,List.length_cons,List.length_nil]at D
  obtain rfl:j=0:=by omega
  rfl)) (by simp[wvs]) (jB _) rfl (by omega) ?_
 intro Z Y O G P E
 have y:Ext H O:=((o.trans z).trans B).fr_trans P J
 refine⟨⟨by omega,by omega,?_,y,λj D=>?_⟩,V⟩
 ·rw[show(i+1).toNat=i.toNat+1 by omega,List.take_succ_eq_append_getElem f,List.map_append]
  simpa[wvs]using G
 ·rcases E j D with h | h
  ·exact J j h
  ·have:=((o.trans z).trans B).size;omega
theorem px(x:Int):0<=iand .i64 x 65535/\iand .i64 x 65535<=65535:=by
 unfold iand
 have h:(BitVec.ofInt IntKind.i64.bits x &&& BitVec.ofInt IntKind.i64.bits 65535).toNat<=65535:=by
  rw[BitVec.toNat_and]
  exact Nat.le_trans Nat.and_le_right (by decide)
 rw[w64 (by omega)]
 omega
theorem sS:dG.C i H (λv f=> ∃k:Int,v=vi k/\(k=1\/k=5\/k=2)/\Ext H f):=by
 refine HC.via λR e=>dG.link ?_
 unfold dG.pt
 intro b g j a
 have c:Ext H g:=Ext.push' a
 have d:=aO j a
 have l:=px i
 rw[gU l.1]
 generalize iand .i64 i 65535=y at*
 refine⟨by omega,?_⟩
 rcases(show(y % 3).toNat=0\/(y % 3).toNat=1\/(y % 3).toNat=2 by omega)with h | h | h
 ·rw[h];exact⟨1,by rw[addr_add_mk,aK d];rfl,e _ _ ⟨1,rfl,.inl rfl,c⟩⟩
 ·rw[h];exact⟨5,by rw[addr_add_mk,aK d];rfl,e _ _ ⟨5,rfl,.inr (.inl rfl),c⟩⟩
 ·rw[h];exact⟨2,by rw[addr_add_mk,aK d];rfl,e _ _ ⟨2,rfl,.inr (.inr rfl),c⟩⟩
structure Went (H H':zV) (b:Blk) (x:Hp) (sz:Int->Nat) (x':Hp) (sz':Int->Nat):Prop where
 view:View H' (some ⟨b.h,0,none⟩) (some (b,x'))
 inv:Inv x'.sp sz'
 lift:Lift x.sp.mem sz x'.sp.mem sz'
 cf:x'.sp.cf=x.sp.cf
 fr:Fr [b.sp,b.m,b.s] H H'
theorem Went.ext{c:zV}{b:Blk}{x:Hp}{a:Int->Nat}(V:View H (some ⟨b.h,0,none⟩) (some (b,x)))(I:Inv x.sp a)(e:Ext H c):Went H c b x a x a:=⟨V.ext e,I,Lift.refl _ _,rfl,e.fr⟩
theorem Went.trans{B C:zV}{b:Blk}{x y z:Hp}{f g h:Int->Nat}(p:Went H B b x f y g)(q:Went B C b y g z h):Went H C b x f z h:=⟨q.view,q.inv,p.lift.trans q.lift,q.cf.trans p.cf,p.fr.trans q.fr⟩
theorem tP{s:Sp}(q:SpOK s){b:Int}(m:b=tagK i)(p: ∀w∈d,aC w)(h:(s.put i b d).2.2=0): ¬s.mem.used ((s.put i b d).2.1 / 8)/\isTag (s.put i b d).2.1:=by
 have n:b=1\/b=2\/b=3:=by
  rw[m];unfold tagK
  split
  ·exact .inl rfl
  split
  ·exact .inr (.inl rfl)
  ·exact .inr (.inr rfl)
 by_cases f:(s.alloc 0 i d.length).2.2=0
 case neg=>
  have e:s.put i b d=(s,0,(s.alloc 0 i d.length).2.2):=by unfold Sp.put;rw[if_neg f]
  rw[e]at h;exact absurd h f
 have c:=lg f
 obtain⟨a,k,l,t,r,j,_⟩:=Sp.put_ok q c (show b=1\/b=2\/b=3\/b=6 by omega) p f
 have hn:1<=d.length:=by have:=c.2;omega
 have g:=l.not_in (x:=a)
 rw[k]
 show ¬s.mem.used ((a*8+b) / 8)/\isTag (a*8+b)
 rw[show(a*8+b) / 8=a by omega]
 exact⟨λo=>g o ⟨by omega,by omega⟩,by unfold isTag;omega⟩
structure Act (H H':zV) (b:Blk) (x:Hp) (sz:Int->Nat) (mB:zW) (made:List Int) (x':Hp) (sz':Int->Nat) (B':zW) (c':Nat) (made':List Int):Prop where
 view:View H' (some ⟨b.h,0,none⟩) (some (b,x'))
 inv:Inv x'.sp sz'
 cf:x'.sp.cf=x.sp.cf
 fr:Fr ([b.sp,b.m,b.s]++blks mB) H H'
 own:Own H' 28 1 B' made'.length c' (wvs made')
 good: ∀w∈made',aC w/\Good x'.sp.mem sz' w
 len:made'.length<=made.length+1
 blk: ∀j∈blks B',j∈blks mB\/H.size<=j
 news:made'=made\/ ∃w,made'=made++[w]/\w ∉ made/\isTag w
variable{d:Blk}{i:Int->Nat}{H o:zV}{j:Hp}{k:List Int}{u v:Int}
theorem tQ(h:isTag (valW u v k)):valW u v k∈k:=by
 unfold valW at h⊢
 by_cases q:0<v/\0<k.length
 ·rw[if_pos q]
  have a:((v-1) % k.length).toNat<k.length:=by
   have:=Int.emod_nonneg (v-1) (show(k.length:Int)≠0 by omega)
   have:=Int.emod_lt_of_pos (v-1) (show(0:Int)<k.length by omega)
   omega
  rw[getD_at a];exact List.getElem_mem _
 ·rw[if_neg q]at h
  by_cases r:(u % 8=0\/u % 8=4)/\mayW u=true
  ·rw[if_pos r]at h
   unfold isTag at h
   omega
  ·rw[if_neg r]at h
   unfold isTag at h
   omega
theorem ny{x:Hp}{b:Int->Nat}{w i v:Int}(I:Inv x.sp b)(N:aC w)(s:Good x.sp.mem b w)(J:aC v)(m:Good x.sp.mem b v)(M:i=0\/i=1)(V:View o (some ⟨d.h,0,none⟩) (lE (some (d,x)) w i v))(f:Fr (own (some (d,x))) H o): ∃C,Went H o d x b C b/\Mv x.sp.mem b C.sp.mem b (λu=>u=w) True:=by
 have e:lE (some (d,x)) w i v=some (d,x.setMem (if x.sp.mem.isPair w then(x.sp.mem.store (w / 8+i) v).1 else x.sp.mem)):=rfl
 rw[e]at V
 refine⟨x.setMem (if x.sp.mem.isPair w then(x.sp.mem.store (w / 8+i) v).1 else x.sp.mem),?_⟩
 by_cases l:x.sp.mem.isPair w
 ·rw[if_pos l]at V⊢
  have t:=rL l
  have y:=rO t
  obtain⟨q,j⟩:=s.2 y
  have G:=(qD t).1 l
  have p:x.sp.mem.kAt (w / 8)<=1:=by
   unfold tagK at j
   by_cases z:x.sp.mem.kAt (w / 8)=0
   ·rw[z];decide
   ·rw[if_neg z]at j
    by_cases A:x.sp.mem.kAt (w / 8)=1
    ·rw[A];decide
    ·rw[if_neg A]at j;exact absurd j G
  obtain⟨O,L⟩:=I.sound.two _ q p
  have g:i.toNat<b (w / 8):=by omega
  have c:=I.sound.usedAt q g (λk=>(I.ok.mem.seg k).n.2)
  rw[show((i.toNat:Nat):Int)=i by omega]at c
  obtain⟨D,K,F⟩:=I.store (x:=w / 8+i) J m (λa r hk e=>by
   have:x.sp.mem.kAt a=x.sp.mem.kAt (w / 8):=by rw[<-e];unfold Mem.kAt;rw[c.2.1]
   omega)
  have B:=Mv.store (v:=v) (E:=True) (λa r=>(I.sound.used a r).1) y s g (λ_ h=>by omega)
  rw[show w / 8+((i.toNat:Nat):Int)=w / 8+i by omega]at B
  exact⟨⟨V,D,K,F,f⟩,B⟩
 ·rw[if_neg l]at V⊢
  exact⟨⟨V,I,Lift.refl _ _,rfl,f⟩,.refl⟩
theorem rQ{x:Hp}{g:Int->Nat}{w k i v:Int}(I:Inv x.sp g)(R:aC w)(A:Good x.sp.mem g w)(O:aC v)(p:Good x.sp.mem g v)(V:View o (some ⟨d.h,0,none⟩) (setO (some (d,x)) w k i v))(f:Fr (own (some (d,x))) H o): ∃F,Went H o d x g F g/\Mv x.sp.mem g F.sp.mem g (λu=>u=w) (k≠10):=by
 have e:setO (some (d,x)) w k i v=some (d,x.setMem (if x.sp.mem.fieldE w k i=0 then(x.sp.mem.store (w / 8+1+i) v).1 else x.sp.mem)):=rfl
 rw[e]at V
 refine⟨x.setMem (if x.sp.mem.fieldE w k i=0 then(x.sp.mem.store (w / 8+1+i) v).1 else x.sp.mem),?_⟩
 by_cases b:x.sp.mem.fieldE w k i=0
 ·rw[if_pos b]at V⊢
  have N:=b
  unfold Mem.fieldE at b
  by_cases m: ¬x.sp.mem.isObj w\/x.sp.mem.typ w≠k
  ·rw[if_pos m]at b;exact absurd b (by decide)
  rw[if_neg m]at b
  by_cases K:i<0\/x.sp.mem.len w<=i
  ·rw[if_pos K]at b;exact absurd b (by decide)
  have s:x.sp.mem.isObj w:=Decidable.not_not.1 λq=>m (.inl q)
  have L:=s.1.2.1
  have B:isTag w:=.inr (.inr L)
  obtain⟨z,l⟩:=A.2 B
  have r:2<=x.sp.mem.kAt (w / 8):=by
   have:=(I.ok.mem.seg (w / 8 / 64).toNat).kind
   have e:x.sp.mem.kAt (w / 8)=(x.sp.mem.seg (w / 8 / 64).toNat).kind:=rfl
   unfold tagK at l
   by_cases y:x.sp.mem.kAt (w / 8)=0
   ·rw[if_pos y]at l;omega
   ·rw[if_neg y]at l
    by_cases C:x.sp.mem.kAt (w / 8)=1
    ·rw[if_pos C]at l;omega
    ·rw[e]at y C⊢;omega
  obtain⟨S,T,U⟩:=I.sound.obj _ z r
  have Q:x.sp.mem.len w=hn (x.sp.mem.get (w / 8)):=by unfold Mem.len;rw[if_pos s]
  have c:=I.sound.within z (i:=(1+i).toNat) (by omega) (by omega)
  rw[show w / 8+(((1+i).toNat:Nat):Int)=w / 8+1+i by omega]at c
  obtain⟨G,P,J⟩:=I.store (x:=w / 8+1+i) O p (λa n hk e=>by rw[e]at c;exact n c)
  have t:x.sp.mem.typ w=k:=Decidable.not_not.1 λq=>m (.inr q)
  have j:x.sp.mem.typ w=hk (x.sp.mem.get (w / 8)):=by unfold Mem.typ;rw[if_pos s]
  have D:=Mv.store (w:=w) (i:=(1+i).toNat) (v:=v) (E:=k≠10) (λa n=>(I.sound.used a n).1) B A (by omega) (λM _=>⟨by rw[<-j,t];exact M,by omega⟩)
  rw[show w / 8+(((1+i).toNat:Nat):Int)=w / 8+1+i by omega]at D
  exact⟨⟨V,G,P,J,f⟩,D⟩
 ·rw[if_neg b]at V⊢
  exact⟨⟨V,I,Lift.refl _ _,rfl,f⟩,.refl⟩
set_option maxRecDepth 100000 in
theorem sU{q:Int->Nat}{ai:Int}(V:View H (some ⟨d.h,0,none⟩) (some (d,j)))(I:Inv j.sp q)(a:aC u)(E:Good j.sp.mem q u)(s:aC ai)(p:Good j.sp.mem q ai):
  dT.C (some ⟨d.h,0,none⟩) u v ai H (λah M=>(∃k:Int,ah=vi k)/\ ∃g,Went H M d j q g q/\Mv j.sp.mem q g.sp.mem q (λah=>ah=u) True):=by
 refine HC.via λR x=>dT.link ?_
 unfold dT.pt
 have b: ∀{A:zV} {k:Int},Ext H A->R (vi k) A:=λ{A k} e=>x _ _ ⟨⟨k,rfl⟩,j,Went.ext V I e,.refl⟩
 refine HC.mono (kZ V a) ?_
 rintro _ H1 ⟨rfl,w⟩
 refine⟨_,rfl,?_⟩
 by_cases F:(decide ((mof (some (d,j))).isPair u) && (iand .i64 (iand .i64 v 65535) 1==0))=true
 ·rw[if_pos F]
  refine HC.mono (oE (V.ext w) a s) ?_
  rintro _ H2 ⟨rfl,P,f2⟩
  obtain⟨g,W,K⟩:=ny (i:=0) I a E s p (.inl rfl) P f2
  exact⟨_,rfl,x _ _ ⟨⟨_,rfl⟩,g,(Went.ext V I w).trans W,K⟩⟩
 rw[if_neg F]
 refine HC.mono (kZ (V.ext w) a) ?_
 rintro _ H3 ⟨rfl,S⟩
 have c:=w.trans S
 refine⟨_,rfl,?_⟩
 by_cases G:decide ((mof (some (d,j))).isPair u)=true
 ·rw[if_pos G]
  refine HC.mono (lF (V.ext c) a s) ?_
  rintro _ H4 ⟨rfl,Q,f4⟩
  obtain⟨g,W,K⟩:=ny (i:=1) I a E s p (.inr rfl) Q f4
  exact⟨_,rfl,x _ _ ⟨⟨_,rfl⟩,g,(Went.ext V I c).trans W,K⟩⟩
 rw[if_neg G]
 refine HC.mono (iV (V.ext c) a) ?_
 rintro _ H5 ⟨rfl,T⟩
 have l:=c.trans T
 refine⟨_,rfl,?_⟩
 by_cases J:(mof (some (d,j))).typ u=0
 ·rw[if_pos J];exact b l
 rw[if_neg J]
 refine HC.mono (lW (V.ext l) a) ?_
 rintro _ H6 ⟨rfl,U⟩
 have m:=l.trans U
 refine⟨_,rfl,?_⟩
 by_cases y:(mof (some (d,j))).len u=0
 ·rw[if_pos y];exact b m
 rw[if_neg y]
 refine HC.mono (iV (V.ext m) a) ?_
 rintro _ H7 ⟨rfl,X⟩
 have n:=m.trans X
 refine⟨_,rfl,?_⟩
 by_cases L:(mof (some (d,j))).typ u=2
 ·rw[if_pos L];exact b n
 rw[if_neg L]
 refine HC.mono (iV (V.ext n) a) ?_
 rintro _ H8 ⟨rfl,Y⟩
 have o:=n.trans Y
 refine⟨_,rfl,?_⟩
 by_cases r:(mof (some (d,j))).typ u=10
 ·rw[if_pos r];exact b o
 rw[if_neg r]
 refine HC.mono (iV (V.ext o) a) ?_
 rintro _ H9 ⟨rfl,Z⟩
 have t:=o.trans Z
 refine⟨_,rfl,?_⟩
 refine HC.mono (lW (V.ext t) a) ?_
 rintro _ N ⟨rfl,B⟩
 have f:=t.trans B
 refine⟨_,rfl,y,?_⟩
 have hr:=px v
 have a3:=j.sp.mem.len_rng u
 have a2:(mof (some (d,j))).len u=j.sp.mem.len u:=rfl
 have a4:=Int.emod_nonneg (iand .i64 v 65535) y
 have a5:=Int.emod_lt_of_pos (iand .i64 v 65535) (show 0< (mof (some (d,j))).len u by omega)
 refine HC.mono (n9 (V.ext f) a (by rw[gU hr.1];omega) s) ?_
 rintro _ O ⟨rfl,z,D⟩
 obtain⟨g,W,K⟩:=rQ I a E s p z D
 exact⟨_,rfl,x _ _ ⟨⟨_,rfl⟩,g,(Went.ext V I f).trans W,K.mono (λ_ _ h=>h) (λ_=>r)⟩⟩
theorem l7(I:Inv j.sp i)(e:0<=u/\u<=3)(m:v=tagK u)(n: ∀w∈k,aC w)(x:u<=1->k.length=2)(t:2<=u-> ∃b c,k=b::c/\gJ b/\rawK (hk b)=u/\hn b=c.length)
  (s:u≠3-> ∀w∈k,Good j.sp.mem i w) (V:View o (some ⟨d.h,0,none⟩) (putO (some (d,j)) u v k)) (f:Fr (own (some (d,j))) H o):
  ∃g a,Went H o d j i g a/\Mv j.sp.mem i g.sp.mem a (λ_=>False) (2<=u-> ∀b c,k=b::c->hk b=10->hn b=2/\c=[20,20])/\((putR (some (d,j)) u v k).2=0->aC (putR (some (d,j)) u v k).1/\Good g.sp.mem a (putR (some (d,j)) u v k).1/\ ¬j.sp.mem.used ((putR (some (d,j)) u v k).1 / 8)/\isTag (putR (some (d,j)) u v k).1):=by
 obtain⟨a,p,y,l,r,q⟩:=I.putM e m n x t s
 exact⟨{j with sp:=(j.sp.put u v k).1},a,⟨V,p,y,r,f⟩,q,λh=>⟨(l h).1,(l h).2,tP I.ok m n h⟩⟩
theorem nz{kind:Int}(I:Inv j.sp i)(b:1<=kind/\kind<=13)(G: ∀w∈k,aC w)(E:k.length<=62)(D: ∀w∈k,Good j.sp.mem i w)(V:View o (some ⟨d.h,0,none⟩) (jC (some (d,j)) kind 0 k))(f:Fr (own (some (d,j))) H o):
  ∃m a,Went H o d j i m a/\Mv j.sp.mem i m.sp.mem a (λ_=>False) (kind=10->k=[20,20])/\((ix (some (d,j)) kind 0 k).2=0->aC (ix (some (d,j)) kind 0 k).1/\Good m.sp.mem a (ix (some (d,j)) kind 0 k).1/\ ¬j.sp.mem.used ((ix (some (d,j)) kind 0 k).1 / 8)/\isTag (ix (some (d,j)) kind 0 k).1):=by
 have x:jC (some (d,j)) kind 0 k=putO (some (d,j)) (rawK kind) 3 ((0*65536+k.length*256+kind*8+5)::k):=by
  unfold jC;rw[if_neg (λq=>q ⟨b,by decide⟩),if_neg (by omega)]
 have y:ix (some (d,j)) kind 0 k=putR (some (d,j)) (rawK kind) 3 ((0*65536+k.length*256+kind*8+5)::k):=by
  unfold ix;rw[if_neg (λq=>q ⟨b,by decide⟩),if_neg (by omega)]
 rw[x]at V
 rw[y]
 obtain⟨s,t,u,N⟩:=na (kind:=kind) (more:=0) (n:=k.length) b ⟨by decide,by decide⟩ E
 have M:rawK kind=2\/rawK kind=3:=by unfold rawK;split<;>omega
 have r: ∀w∈((0*65536+k.length*256+kind*8+5:Int)::k),aC w:=λw c=>by
  rcases List.mem_cons.1 c with rfl | h
  ·exact⟨by omega,by omega⟩
  ·exact G w h
 have p: ∀w∈((0*65536+k.length*256+kind*8+5:Int)::k),Good j.sp.mem i w:=λw c=>by
  rcases List.mem_cons.1 c with rfl | h
  ·have:=s.1
   exact⟨by omega,λF=>by unfold isTag at F;omega⟩
  ·exact D w h
 obtain⟨m,a,z,A,B⟩:=l7 I (show 0<=rawK kind/\rawK kind<=3 by omega) (by unfold tagK;rw[if_neg (by omega),if_neg (by omega)]) r (λh=>by omega) (λ_=>⟨_,k,rfl,s,by rw[t],u⟩) (λ_=>p) V f
 exact⟨m,a,z,A.mono (λ_ _ h=>h) (λC _ L K e g=>by
  obtain⟨v,J⟩:=List.cons.inj e
  rw[<-v,t]at g
  have l:=C g
  rw[<-v,<-J,l]
  refine⟨?_,rfl⟩
  have:=u
  rw[l]at this;exact this),B⟩
set_option maxRecDepth 100000 in
theorem rR{a:jK}{L:zW}{U:Nat}(V:View H (some ⟨d.h,0,none⟩) (some (d,j)))(I:Inv j.sp i)(aT:j.sp.cf<4611686018427387904)(F:Own H 28 1 L k.length U (wvs k))(hd: ∀bX∈blks L,bX ∉ d.all)
  (M: ∀w∈k,aC w/\Good j.sp.mem i w) (hl:k.length<=1000000000) (hA:jK.OK maxLen H a):
  cI.C (some ⟨d.h,0,none⟩) a.dov a.kind a.n a.x.w a.x.ofv a.y.w a.y.ofv a.l.p a.l.n a.l.c L k.length U H (λv H'=> ∃(X:zW) (P:Nat) (x:List Int) (r:Hp) (b:Int->Nat),v=vs X x.length P/\Act H H' d j i L k r b X P x/\Mv j.sp.mem i r.sp.mem b (· ∈k) True/\(∀w∈x,w∈k\/ ¬j.sp.mem.used (w / 8))/\Lift j.sp.mem i r.sp.mem b):=by
 refine HC.via λR hR=>cI.link ?_
 unfold cI.pt
 intro bO H1 az a5
 have e1:Ext H H1:=Ext.push' a5
 have g1:=aO az a5
 have a8: ∀bX∈blks L,bX ∉ [d.sp,d.m,d.s]:=λbX B q=>hd bX B (by simp at q;simp[Blk.all];omega)
 have b4:=hA.x
 have b5:=hA.y
 have iw: ∀(v:jc),gI.ok maxLen H v->aC v.w/\I64 v.ofv:=λv h=>⟨wf_u64 h.w,wf_i64 h.ofv⟩
 obtain⟨xw,xo⟩:=iw _ b4
 obtain⟨yw,yo⟩:=iw _ b5
 have gw: ∀w∈k,aC w:=λw h=>(M w h).1
 have gg: ∀w∈k,Good j.sp.mem i w:=λw h=>(M w h).2
 refine⟨a.x.w,a.x.ofv,⟨by rw[addr_add_mk,addr_add_mk,aK g1];rfl,by rw[addr_add_mk,addr_add_mk,aK g1];rfl,trivial⟩,a.y.w,a.y.ofv,⟨by rw[addr_add_mk,addr_add_mk,aK g1];rfl,by rw[addr_add_mk,addr_add_mk,aK g1];rfl,trivial⟩,?_⟩
 refine HC.mono (kz xw xo (F.ext e1)) ?_
 rintro _ H2 ⟨rfl,e2⟩
 have g2:=e2.get g1
 refine⟨_,rfl,⟨by rw[addr_add_mk,addr_add_mk,aK g2];rfl,by rw[addr_add_mk,addr_add_mk,aK g2];rfl,trivial⟩,?_⟩
 refine HC.mono (kz yw yo (F.ext (e1.trans e2))) ?_
 rintro _ H3 ⟨rfl,e3⟩
 have g3:=e3.get g2
 have D:=(e1.trans e2).trans e3
 have bZ:=kG xw (Of:=a.x.ofv) gw
 have ag:=kH (W:=a.x.w) (Of:=a.x.ofv) gg
 have bw:=kG yw (Of:=a.y.ofv) gw
 have bg:=kH (W:=a.y.w) (Of:=a.y.ofv) gg
 have ai:isTag (valW a.x.w a.x.ofv k)->valW a.x.w a.x.ofv k∈k:=λh=>tQ h
 generalize valW a.x.w a.x.ofv k=va at*
 generalize valW a.y.w a.y.ofv k=vb at*
 have V3:=V.ext D
 have hc:pi (some (d,j)):=Sp.cf_count I.ok aT
 have bz:=F.lt
 have bL:=D.size
 have W3:Went H H3 d j i j i:=Went.ext V I D
 have aa: ∀{A:zV},Fr [d.sp,d.m,d.s] H A->Own A 28 1 L k.length U (wvs k):=λ{A} f=>F.keep f a8
 have o: ∀{A:zV} {r:Hp} {b:Int->Nat},Went H A d j i r b->Mv j.sp.mem i r.sp.mem b (· ∈k) True->R (vs L k.length U) A:=λ{A r b} W K=>
  hR _ _ ⟨L,U,k,r,b,rfl,⟨W.view,W.inv,W.cf,W.fr.mono (λbX B _=>List.mem_append_left _ B),aa W.fr,λw h=>⟨(M w h).1,W.lift _ (M w h).2⟩,by omega,λbX B=> .inl B,.inl rfl⟩,K,λw h=> .inl h,W.lift⟩
 have G: ∀{A:zV} {r:Hp} {b:Int->Nat} (w:Int),Went H A d j i r b->Mv j.sp.mem i r.sp.mem b (· ∈k) True->aC w->Good r.sp.mem b w-> ¬j.sp.mem.used (w / 8)/\isTag w-> ∀(a1:Nat) (Y:zV),a1=A.size->Y=A.push (.cells #[vu w] 28)->
   fE 1 28 8 [vu 0] L k.length U (some (Addr.mk a1 0 none)) 1 Y (λap al O=>R (vs ap (k.length+1) al) O):=λ{A r b} w W K hw aZ J bP Y aL a7=>by
  have Q:Ext A Y:=Ext.push' a7
  refine fU (ys:=wvs [w]) ((aa W.fr).ext Q) (gK (aO aL a7) _ 0 0 (λbX B=>by
   simp only[wvs,List.map_cons,List.map_nil,List.length_cons,List.length_nil]at B
   obtain rfl:bX=0:=by omega
   rfl)) rfl (jB _) rfl (by omega) ?_
  intro X P O b3 S b1
  have zA:=W.fr.size
  have z5:=Q.size
  have E:(k++[w]).length=k.length+1:=by simp
  have V5:=W.view.ext Q
  have Z:View O (some ⟨d.h,0,none⟩) (some (d,r)):=by
   obtain⟨-,hp,ok⟩:=V5.inv
   exact .real (hp.keep S (λbW hi=>hd bW hi)) ok
  have:=hR (.slice X (k++[w]).length P) O ⟨X,P,k++[w],r,b,rfl,⟨Z,W.inv,W.cf,((W.fr.trans Q.fr).mono (λbX B _=>List.mem_append_left _ B)).trans (S.mono (λbX B _=>List.mem_append_right _ B)),by rw[E];simpa[wvs]using b3,λv T=>?_,by rw[E];exact Nat.le_refl _,λbX B=>?_,.inr ⟨w,rfl,λhm=>J.1 (I.sound.used _ ((M w hm).2.2 J.2).1).1,J.2⟩⟩,K,λv T=>(List.mem_append.1 T).elim (λq=> .inl q) (λq=>by simp at q;rw[q];exact .inr J.1),W.lift⟩
  ·rw[E]at this;exact this
  ·rcases List.mem_append.1 T with q | q
   ·exact⟨(M v q).1,W.lift _ (M v q).2⟩
   ·simp at q;rw[q];exact⟨hw,aZ⟩
  ·rcases b1 bX B with q | q
   ·exact .inl q
   ·exact .inr (by omega)
 refine⟨_,rfl,a.dov,by rw[aK g3];rfl,?_⟩
 by_cases h0:a.dov=0
 ·rw[if_pos h0]
  refine HC.mono (nf V3 bZ bw hc) ?_
  rintro _ N ⟨rfl,V4,f4⟩
  obtain⟨r,b,W4,K0,t⟩:=l7 I (by decide) rfl (λw e=>by simp at e;rcases e with rfl | rfl<;>assumption) (λ_=>rfl) (λh=>by omega) (λ_ w e=>by simp at e;rcases e with rfl | rfl<;>assumption) V4 f4
  have K:=K0.mono (ws':=(· ∈k)) (E':=True) (λ_ _ h=>absurd h id) (λ_ h=>by omega)
  refine⟨_,_,rfl,?_⟩
  have W:=W3.trans W4
  by_cases g:(putR (some (d,j)) 0 1 [va,vb]).2=0
  ·rw[if_pos g];exact G _ W K (t g).1 (t g).2.1 (t g).2.2
  ·rw[if_neg g];exact o W K
 rw[if_neg h0]
 by_cases h1:a.dov=1
 ·rw[if_pos h1]
  refine HC.mono (ng V3 bZ bw hc) ?_
  rintro _ N ⟨rfl,V4,f4⟩
  obtain⟨r,b,W4,K0,t⟩:=l7 I (by decide) rfl (λw e=>by simp at e;rcases e with rfl | rfl<;>assumption) (λ_=>rfl) (λh=>by omega) (λ_ w e=>by simp at e;rcases e with rfl | rfl<;>assumption) V4 f4
  have K:=K0.mono (ws':=(· ∈k)) (E':=True) (λ_ _ h=>absurd h id) (λ_ h=>by omega)
  refine⟨_,_,rfl,?_⟩
  have W:=W3.trans W4
  by_cases g:(putR (some (d,j)) 1 2 [va,vb]).2=0
  ·rw[if_pos g];exact G _ W K (t g).1 (t g).2.1 (t g).2.2
  ·rw[if_neg g];exact o W K
 rw[if_neg h1]
 by_cases h2:a.dov=2
 ·rw[if_pos h2]
  refine⟨a.kind,by rw[addr_add_mk,aK g3];rfl,a.l.p,a.l.n,a.l.c,by rw[addr_add_mk,aK g3];rfl,?_⟩
  refine HC.mono sS ?_
  rintro _ N ⟨bY,rfl,hk,e4⟩
  have g4:=e4.get g3
  refine⟨_,rfl,⟨by rw[addr_add_mk,addr_add_mk,aK g4];rfl,trivial⟩,?_⟩
  have z:=D.trans e4
  refine HC.mono (rP (SlOK.ext hA.l z) (F.ext z)) ?_
  rintro _ Y ⟨q,n',P,rfl,b0,bf,b2,Q,hq⟩
  refine⟨_,_,_,rfl,?_⟩
  have a2:=z.trans Q
  have a9: ∀w∈(a.l.xs.take 62).map (λv=>valW v.w v.ofv k),aC w:=λw e=>by
   obtain⟨v,T,rfl⟩:=List.mem_map.1 e
   exact kG (wf_u64 (hA.l.each v (List.mem_of_mem_take T)).w) gw
  have aU: ∀w∈(a.l.xs.take 62).map (λv=>valW v.w v.ofv k),Good j.sp.mem i w:=λw e=>by
   obtain⟨v,T,rfl⟩:=List.mem_map.1 e
   exact kH gg
  generalize (a.l.xs.take 62).map (λv=>valW v.w v.ofv k)=ws at*
  refine HC.mono (j9 (ws:=ws) (V.ext a2) b2.src b0 a9 (by omega) (by decide) hc (by omega)) ?_
  rintro _ O ⟨rfl,Z,S⟩
  obtain⟨r,b,W6,K0,t⟩:=nz I (by omega) a9 (by omega) aU Z S
  have K:=K0.mono (ws':=(· ∈k)) (E':=True) (λ_ _ h=>absurd h id) (λ_ h=>by omega)
  refine⟨_,_,rfl,?_⟩
  have W:=(Went.ext V I a2).trans W6
  by_cases g:(ix (some (d,j)) bY 0 ws).2=0
  ·rw[if_pos g];exact G _ W K (t g).1 (t g).2.1 (t g).2.2
  ·rw[if_neg g];exact o W K
 rw[if_neg h2]
 by_cases h3:a.dov=3
 ·rw[if_pos h3]
  refine⟨a.n,by rw[addr_add_mk,aK g3];rfl,?_⟩
  refine HC.mono (sU V3 I bZ ag bw bg) ?_
  rintro _ N ⟨⟨bY,rfl⟩,r,W4,K4⟩
  exact⟨_,rfl,o (W3.trans W4) (K4.mono (λu ht hu=>by rw[hu]at ht⊢;exact ai ht) (λ_=>trivial))⟩
 rw[if_neg h3]
 by_cases h4:a.dov=4
 ·rw[if_pos h4]
  intro br N aS a6
  have e4:Ext H3 N:=Ext.push' a6
  have z:=D.trans e4
  have ab: ∀w∈([20,20]:List Int),aC w:=λw h=>by simp at h;rw[h];decide
  have aw: ∀w∈([20,20]:List Int),Good j.sp.mem i w:=λw h=>by simp at h;rw[h];exact⟨by decide,λht=>absurd ht (by decide)⟩
  refine HC.mono (j9 (ws:=[20,20]) (V.ext z) (show gc N (some ⟨br,0,none⟩) (wvs [20,20])from iO (vs:=[vu 20,vu 20]) (aO aS a6)) rfl ab (by decide) (by decide) hc (by decide)) ?_
  rintro _ O ⟨rfl,Z,S⟩
  obtain⟨r,b,W6,K0,t⟩:=nz I (by decide) ab (by decide) aw Z S
  have K:=K0.mono (ws':=(· ∈k)) (E':=True) (λ_ _ h=>absurd h id) (λ_ _=>rfl)
  refine⟨_,_,rfl,?_⟩
  have W:=(Went.ext V I z).trans W6
  by_cases g:(ix (some (d,j)) 10 0 [20,20]).2=0
  ·rw[if_pos g];exact G _ W K (t g).1 (t g).2.1 (t g).2.2
  ·rw[if_neg g];exact o W K
 rw[if_neg h4]
 exact o W3 .refl
variable{d:Mem}
@[irreducible] def tops:Nat:=65536
theorem ri:tops=65536:=by unfold tops;rfl
def Mem.cnt(m:Mem)(p:Int->Bool):Nat:=(List.range tops).countP λx:Nat=>decide (m.used x) && p x
theorem Mem.words_to(m:Mem)(d:aX m)(a:List Int): ∀k,k<=m.limit->m.sumN (m.takenTo a k)=((List.range (64*k)).countP λx:Nat=>decide (m.used x) && decide (a=[]\/m.gAt x∈a):Nat)
 | 0,_=>rfl
 | k+1,h=>by
  have hn:=(d.seg k).n
  have p:=(d.seg k).taken
  rw[Mem.takenTo_succ,pp,Mem.words_to m d a k (by omega),show 64*(k+1)=64*k+64 by omega,List.range_add,List.countP_append,List.countP_map]
  have e: ∀i:Nat,i<64->((decide (m.used ((64*k+i:Nat):Int)) && decide (a=[]\/m.gAt ((64*k+i:Nat):Int)∈a))=(decide (0< (m.seg k).taken/\(a=[]\/(m.seg k).gen∈a)) && inR 0 (m.seg k).n.toNat i)):=λi c=>by
   have f:(((64*k+i:Nat):Int) / 64).toNat=k:=by omega
   have g:((64*k+i:Nat):Int) % 64=i:=by omega
   have l:m.gAt ((64*k+i:Nat):Int)=(m.seg k).gen:=by unfold Mem.gAt;rw[f]
   have o:m.used ((64*k+i:Nat):Int) ↔ 0< (m.seg k).taken/\(i:Int)< (m.seg k).n:=by
    unfold Mem.used Mem.has
    rw[f,g]
    exact⟨λq=>⟨by omega,by omega⟩,λq=>⟨by omega,⟨by omega,by omega,by omega⟩,by omega⟩⟩
   rw[Bool.eq_iff_iff]
   unfold inR
   simp only[Bool.and_eq_true,decide_eq_true_eq]
   rw[o,l]
   exact⟨λq=>⟨⟨q.1.1,q.2⟩,by omega,by omega⟩,λq=>⟨⟨q.1.1,by omega⟩,q.1.2⟩⟩
  have j:(List.range 64).countP ((λx:Nat=>decide (m.used x) && decide (a=[]\/m.gAt x∈a)) ∘ λx=>64*k+x)=if 0< (m.seg k).taken/\(a=[]\/(m.seg k).gen∈a)then(m.seg k).n.toNat else 0:=by
   rw[List.countP_congr (q:=λi=>decide (0< (m.seg k).taken/\(a=[]\/(m.seg k).gen∈a)) && inR 0 (m.seg k).n.toNat i) (λi c=>by
    rw[List.mem_range]at c
    show((decide (m.used ((64*k+i:Nat):Int)) && decide (a=[]\/m.gAt ((64*k+i:Nat):Int)∈a))=true) ↔ _
    rw[e i c])]
   by_cases b:0< (m.seg k).taken/\(a=[]\/(m.seg k).gen∈a)
   ·rw[if_pos b]
    simp only[zX b,Bool.true_and]
    exact lf (by omega) 64 _ (by omega)
   ·rw[if_neg b]
    simp only[zQ b,Bool.false_and]
    exact List.countP_eq_zero.2 (λ_ _=>by simp)
  rw[j]
  by_cases b:0< (m.seg k).taken/\(a=[]\/(m.seg k).gen∈a)
  ·rw[if_pos b,if_pos b]
   simp[Mem.sumN];omega
  ·rw[if_neg b,if_neg b]
   simp[Mem.sumN]
theorem Mem.words_cnt(b:aX d)(a:List Int):d.words a=(d.cnt λx=>decide (a=[]\/d.gAt x∈a):Nat):=by
 unfold Mem.words Mem.cnt
 have f:=b.lim
 rw[Mem.words_to d b a _ (Nat.le_refl _)]
 congr 1
 have g:=ri
 rw[show tops=64*d.limit+(tops-64*d.limit)by omega]
 refine(ky _ _ _ (λi c e=>?_)).symm
 rw[Bool.and_eq_false_iff]
 left
 refine zQ λq=>?_
 have:=q.2.1.2.1
 omega
def Mem.above(m:Mem)(g:Int):Nat:=m.cnt λx=>decide (g<m.gAt x)
theorem cU.all{l:List Nat}(h:cU d [] l)(a:aX d){k:Int}(hk:d.has k):k.toNat∈l:=by
 refine h.perm.mem_iff.2 ?_
 unfold Mem.takenTo
 rw[List.mem_filter,List.mem_range]
 obtain⟨b,c,e⟩:=hk
 have:=(a.seg k.toNat).taken
 refine⟨by omega,?_⟩
 simp
 omega
structure Alls (m:Mem) (all:List Int):Prop where
 nodup:all.Nodup
 good: ∀w∈all,aC w/\m.sizeOf w≠0
theorem rS{w:Int}(h:d.sizeOf w≠0):fC w:=by
 unfold Mem.sizeOf at h
 by_cases b:d.isPair w
 ·rcases b.1 with q | q<;>exact q.1
 ·rw[if_neg b]at h
  by_cases a:d.isObj w
  ·exact a.1.1
  ·rw[if_neg a]at h;exact absurd rfl h
theorem Alls.len{c:List Int}(h:Alls d c):c.length<=524288:=by
 have e:=kF (λ_=>1) 524288 c h.nodup (λa g=>by
  obtain⟨j,k⟩:=h.good a g
  have:=(rS k).2
  exact⟨j.1,by show a+1<=524288;omega⟩) (λa _ b _ i=>by show a+1<=b;omega)
 have f:(c.map λ_=>1).sum=c.length:=by
  induction c with
  | nil=>rfl
  | cons a l _=>simp[List.map_const'];omega
 rw[f]at e
 rw[e]
 exact Nat.le_trans List.countP_le_length (by rw[List.length_range];exact Nat.le_refl _)
structure St (H0 H:zV) (b:Blk) (x:Hp) (sz:Int->Nat) (mB:zW) (mC:Nat) (made:List Int):Prop where
 e:Ext H0 H
 view:View H (some ⟨b.h,0,none⟩) (some (b,x))
 inv:Inv x.sp sz
 own:Own H 28 1 mB made.length mC (wvs made)
 good: ∀w∈made,aC w/\Good x.sp.mem sz w
 hb: ∀j∈b.all,H0.size<=j
 hm: ∀j∈blks mB,H0.size<=j/\j ∉ b.all
theorem St.ext{H0 H c:zV}{b:Blk}{x:Hp}{g:Int->Nat}{d:zW}{f:Nat}{a:List Int}(h:St H0 H b x g d f a)(e:Ext H c):St H0 c b x g d f a:=
 ⟨h.e.trans e,h.view.ext e,h.inv,h.own.ext e,h.good,h.hb,h.hm⟩
theorem St.blt{c H:zV}{b:Blk}{x:Hp}{g:Int->Nat}{e:zW}{f:Nat}{a:List Int}(h:St c H b x g e f a): ∀j∈b.all,j<H.size:=by
 obtain⟨-,d,-⟩:=h.view.inv
 exact d.lt
def Sp.visL(O:Nat->Bool)(T:Int)(s:Sp)(l:List Int):Sp×List Int:=l.foldl (λst w=>((st.1.visit O T w).1,st.2++[(st.1.visit O T w).2])) (s,[])
theorem Sp.visL_snoc(O:Nat->Bool)(T:Int)(s:Sp)(l:List Int)(w:Int):s.visL O T (l++[w])=(((s.visL O T l).1.visit O T w).1,(s.visL O T l).2++[((s.visL O T l).1.visit O T w).2]):=by
 unfold Sp.visL
 rw[List.foldl_append];rfl
def brk(O:Nat->Bool)(m:Mem)(a:Int):Mem:=if aG O (m.read a)then m.wr a 44 else m
theorem pz(O:Nat->Bool)(m:Mem)(a:Int):aY m (brk O m a):=by
 unfold brk
 split
 ·exact aY.wr m a 44
 ·exact aY.refl m
theorem uA{s:Sp}(b:SpOK s)(O:Nat->Bool)(a:Int):SpOK {s with mem:=brk O s.mem a}:=by
 unfold brk
 split
 ·exact b.wr a (by decide)
 ·exact b
theorem ol(O:Nat->Bool): ∀(l:List Int) (m:Mem),aY m (l.foldl (brk O) m)
 | [],m=>aY.refl m
 | a::l,m=>(pz O m a).trans (ol O l _)
theorem rj(O:Nat->Bool): ∀(l:List Int) {s:Sp},SpOK s->SpOK {s with mem:=l.foldl (brk O) s.mem}
 | [],s,ok=>ok
 | a::l,s,ok=>rj O l (uA ok O a)
variable{d:Tr}{i:Mem}
theorem gp{k b x:Int}{n:Nat}:x∈ij k b n ↔ ∃j:Nat,j<n/\x=k*64+(b+2*(j:Int)):=by
 unfold ij
 rw[List.mem_map]
 constructor
 ·rintro⟨j,a,rfl⟩;rw[List.mem_range]at a;exact⟨j,a,rfl⟩
 ·rintro⟨j,a,rfl⟩;exact⟨j,by rw[List.mem_range];exact a,rfl⟩
theorem l8(O:Nat->Bool): ¬aG O 44:=λh=>by have:=h.1.1;omega
theorem tR{O:Nat->Bool}{a x:Int}(d:i.used x):(brk O i a).get x=if x=a/\aG O (i.get x)then 44 else i.get x:=by
 have f:=d.1
 unfold brk
 by_cases e:x=a
 ·subst e
  have h:i.read x=i.get x:=by unfold Mem.read;rw[if_pos d]
  rw[h]
  by_cases b:aG O (i.get x)
  ·rw[if_pos b,if_pos ⟨rfl,b⟩]
   unfold Mem.wr;rw[if_pos d,Mem.set_get x f f,if_pos rfl]
  ·rw[if_neg b,if_neg (λq=>b q.2)]
 ·rw[if_neg (show ¬(x=a/\aG O (i.get x))from λq=>e q.1)]
  split
  ·unfold Mem.wr
   by_cases c:i.used a
   ·rw[if_pos c,Mem.set_get x f c.1,if_neg e]
   ·rw[if_neg c]
  ·rfl
theorem nA(O:Nat->Bool): ∀(l:List Int) {m:Mem} {x:Int},m.used x->(l.foldl (brk O) m).get x=if x∈l/\aG O (m.get x)then 44 else m.get x
 | [],m,x,hx=>by rw[if_neg (λq=>by simp at q)];rfl
 | a::l,m,x,hx=>by
  have b:=nA O l (m:=brk O m a) ((pz O m a).used.2 hx)
  show(l.foldl (brk O) (brk O m a)).get x=_
  rw[b,tR hx]
  by_cases e:x=a/\aG O (m.get x)
  ·rw[if_pos e,if_neg (λq=>l8 O q.2),if_pos ⟨by rw[e.1];simp,e.2⟩]
  ·rw[if_neg e]
   by_cases h:x∈l/\aG O (m.get x)
   ·rw[if_pos h,if_pos ⟨by simp[h.1],h.2⟩]
   ·rw[if_neg h,if_neg (λq=>?_)]
    rcases List.mem_cons.1 q.1 with r | r
    ·exact e ⟨r,q.2⟩
    ·exact h ⟨r,q.2⟩
theorem gR{b a:Int}{j:Nat}:j<fT b a ↔ b+2*(j:Int)<a:=by
 unfold fT;omega
section
variable {Z:TZ} {g F0:Int} {fw:Int->Option Int} {al:List Int} {s:Sp} {sz:Int->Nat}
theorem gS.frmAt(B:gS Z.m g Z.T d){k:Int}(hk:0<=k):seenAt d.frm k=if Z.m.has k/\(Z.m.seg k.toNat).gen=Z.T then(Z.m.seg k.toNat).n else 0:=by
 unfold seenAt
 rw[B.frm k hk]
 by_cases h:Z.m.has k/\(Z.m.seg k.toNat).gen=Z.T
 ·rw[if_pos h,if_pos h]
 ·rw[if_neg h,if_neg h]
theorem l9(S:aW Z g F0)(t:Tri Z F0 fw al s sz)(B:gS Z.m g Z.T d){l:List Nat}(A:cU s.mem [Z.T] l): ∀a∈s.mem.weaks d l,s.mem.kAt a=1/\a % 2=0/\a<=1000000:=by
 intro a p
 have r:=t.ok.mem.lim
 unfold Mem.weaks at p
 rcases List.mem_append.1 p with h | h
 ·obtain⟨k,hk,h⟩:=List.mem_flatMap.1 h
  obtain⟨u,v,_,_⟩:=A.has hk
  have o:((k:Nat):Int).toNat=k:=by omega
  unfold Mem.weakSeg at h
  by_cases b:(s.mem.seg k).kind=1/\d.old k=false
  case neg=>rw[if_neg b]at h;simp at h
  rw[if_pos b]at h
  obtain⟨j,e,rfl⟩:=gp.1 h
  rw[gR]at e
  have hn:=(t.ok.mem.seg k).n
  have y:=B.frmAt (k:=k) (by omega)
  have x:seenAt d.frm k % 2=0/\0<=seenAt d.frm k:=by
   rw[y,o]
   by_cases q:Z.m.has k/\(Z.m.seg k).gen=Z.T
   ·rw[if_pos q]
    have C:=(t.heads.seg k (by have:=q.1.2.2;rw[o]at this;exact this)).2.1
    exact⟨S.even k (by rw[<-C,b.1];decide),(S.ok.seg k).n.1⟩
   ·rw[if_neg q];exact⟨rfl,Int.le_refl _⟩
  refine⟨?_,by omega,by omega⟩
  unfold Mem.kAt
  rw[show((k:Int)*64+(seenAt d.frm k+2*(j:Int))) / 64=k by omega,o];exact b.1
 ·obtain⟨c,b,h⟩:=List.mem_flatMap.1 h
  obtain⟨w,D,E,F⟩:=B.cardOf S c b
  have f:=t.heads.has w
  have i:s.mem.segOr c.1=s.mem.seg c.1.toNat:=by unfold Mem.segOr;rw[if_pos f]
  unfold Mem.weakCard at h
  rw[i]at h
  by_cases hk:(s.mem.seg c.1.toNat).kind=1
  case neg=>rw[if_neg hk]at h;simp at h
  rw[if_pos hk]at h
  obtain⟨j,e,rfl⟩:=gp.1 h
  rw[gR]at e
  have hn:=(t.ok.mem.seg c.1.toNat).n
  have G:=f.1
  have H:=f.2.1
  have z:c.2*16+2*(j:Int)< (s.mem.seg c.1.toNat).n/\c.2*16+2*(j:Int)< (c.2+1)*16:=by omega
  refine⟨?_,by omega,by omega⟩
  unfold Mem.kAt
  rw[show(c.1*64+(c.2*16+2*(j:Int))) / 64=c.1 by omega];exact hk
theorem om(S:aW Z g F0)(t:Tri Z F0 fw al s sz)(hm:jG Z.m)(B:gS Z.m g Z.T d)(F:d.old=Z.O){l:List Nat}(H:cU s.mem [Z.T] l){x v:Int}(e:s.mem.used x)(E:Z.O (x / 64).toNat=false)(hk:s.mem.kAt x=1)(R:x % 2=0)(K:Was Z fw x v)(c:aG Z.O v):x∈s.mem.weaks d l:=by
 have D:=t.ok.mem.lim
 have N:=e.1
 have U:=e.2.1.2.1
 unfold Mem.weaks
 rcases K with J | ⟨_,⟨f,C,p⟩ | ⟨a,b,i,f,C,p,P⟩⟩
 ·exact absurd c (t.qok x v J).young
 ·subst p
  have j:Z.m.kAt x=1:=by rw[<-(t.kAt f).1];exact hk
  have G:=B.dirty S hm f E (by rw[j];decide) c (S.sound.good x f (by rw[j];decide))
  refine List.mem_append_right _ (List.mem_flatMap.2 ⟨_,G,?_⟩)
  have z:s.mem.segOr (x / 64)=s.mem.seg (x / 64).toNat:=by unfold Mem.segOr;rw[if_pos e.2.1]
  unfold Mem.weakCard
  rw[z,if_pos hk]
  have hn:=e.2.2
  refine gp.2 ⟨((x % 64 % 16) / 2).toNat,?_,?_⟩
  ·rw[gR]
   show x % 64 / 16*16+2*((((x % 64 % 16) / 2).toNat:Nat):Int)<min (s.mem.seg (x / 64).toNat).n ((x % 64 / 16+1)*16)
   omega
  ·show x=x / 64*64+(x % 64 / 16*16+2*((((x % 64 % 16) / 2).toNat:Nat):Int))
   omega
 ·have A:=(t.img a b f).2
  have Q:=A.fit
  have o:x / 64=b / 64:=by omega
  have h:(s.mem.seg (x / 64).toNat).gen=Z.T:=by rw[o];exact A.gen
  have w:(x / 64).toNat∈l:=by
   refine H.perm.mem_iff.2 ?_
   unfold Mem.takenTo
   rw[List.mem_filter,List.mem_range]
   have:=e.2.1.2.2
   have:=(t.ok.mem.seg (x / 64).toNat).taken
   refine⟨by omega,?_⟩
   simp only[Bool.and_eq_true,decide_eq_true_eq,Bool.or_eq_true,List.mem_singleton]
   exact⟨by omega,.inr h⟩
  refine List.mem_append_left _ (List.mem_flatMap.2 ⟨_,w,?_⟩)
  unfold Mem.weakSeg
  rw[if_pos ⟨hk,by rw[F];exact E⟩]
  have M:(((x / 64).toNat:Nat):Int)=x / 64:=by omega
  rw[M]
  have u:=B.frmAt (k:=x / 64) (by omega)
  have y: ¬Z.m.used x:=by rw[p];exact A.new i C
  have I:seenAt d.frm (x / 64) % 2=0/\0<=seenAt d.frm (x / 64)/\seenAt d.frm (x / 64)<=x % 64:=by
   rw[u]
   by_cases q:Z.m.has (x / 64)/\(Z.m.seg (x / 64).toNat).gen=Z.T
   ·rw[if_pos q]
    have L:=(t.heads.seg (x / 64).toNat q.1.2.2).2.1
    refine⟨S.even _ (by rw[<-L];show s.mem.kAt x<=1;rw[hk];decide),(S.ok.seg _).n.1,?_⟩
    rcases Int.lt_or_le (x % 64) (Z.m.seg (x / 64).toNat).n with r | r
    ·exact absurd ⟨N,q.1,r⟩ y
    ·exact r
   ·rw[if_neg q];exact⟨rfl,Int.le_refl _,by omega⟩
  have hn:=e.2.2
  refine gp.2 ⟨((x % 64-seenAt d.frm (x / 64)) / 2).toNat,?_,?_⟩
  ·rw[gR];omega
  ·omega
theorem Broke.of{tr:Tr}(S:aW Z g F0)(t:Tri Z F0 fw al s sz)(hm:jG Z.m)(B:gS Z.m g Z.T tr)(o:tr.old=Z.O){l:List Nat}(f:cU s.mem [Z.T] l):Broke Z fw s {s with mem:=(s.mem.weaks tr l).foldl (brk Z.O) s.mem}:=by
 refine⟨ol _ _ _,rfl,rj _ _ t.ok,λx d i p=>?_,λx d i hk u=>?_⟩
 ·show((s.mem.weaks tr l).foldl (brk Z.O) s.mem).get x=_
  rw[nA _ _ d,if_neg (λq=>?_)]
  obtain⟨k,n,_⟩:=l9 S t B f x q.1
  exact p ⟨k,n⟩
 ·show((s.mem.weaks tr l).foldl (brk Z.O) s.mem).get x=44\/ ∀v,Was Z fw x v->Dn Z.O fw v/\((s.mem.weaks tr l).foldl (brk Z.O) s.mem).get x=Fw Z.O fw v
  rw[nA _ _ d]
  by_cases q:x∈s.mem.weaks tr l/\aG Z.O (s.mem.get x)
  ·rw[if_pos q];exact .inl rfl
  ·rw[if_neg q]
   right
   intro v j
   have a:s.mem.get x=v:=by
    rcases t.val x v j with r | ⟨r,_⟩
    ·exact r
    ·have:=r.2.resolve_left (λe=>e hk);omega
   have b: ¬aG Z.O v:=λc=>q ⟨om S t hm B o f d i hk u j c,by rw[a];exact c⟩
   exact⟨λh=>absurd h b,by rw[ft b];exact a⟩
theorem Tri.visL(S:aW Z g F0): ∀(l:List Int) {fw:Int->Option Int} {al:List Int} {s:Sp} {sz:Int->Nat} {acc:List Int} (t:Tri Z F0 fw al s sz),(∀w∈l,Z.V w)-> ∃b d j,Tri Z F0 b d (l.foldl (λ(c:Sp×List Int) w=>((c.1.visit Z.O Z.T w).1,c.2++[(c.1.visit Z.O Z.T w).2])) (s,acc)).1 j/\Le fw b/\
  (l.foldl (λ(c:Sp×List Int) w=>((c.1.visit Z.O Z.T w).1,c.2++[(c.1.visit Z.O Z.T w).2])) (s,acc)).2=acc++l.map (Fw Z.O b)/\ ∀w∈l,Dn Z.O b w
 | [],fw,al,s,sz,acc,t,_=>⟨fw,al,sz,t,Le.refl _,by simp,λw h=>by cases h⟩
 | w::l,fw,al,s,sz,acc,t,h=>by
  have n:=h w (by simp)
  obtain⟨y,z⟩:=S.V w n
  obtain⟨q,o,v,V⟩:=t.visit S y z (λr=> .root n r)
  obtain⟨f,e,k,x,i,u,p⟩:=Tri.visL S l (acc:=acc++[(s.visit Z.O Z.T w).2]) V.tri (λm a=>h m (by simp[a]))
  refine⟨f,e,k,x,V.le.trans i,?_,λm a=>?_⟩
  ·simp only[List.foldl_cons]
   rw[u,V.val,<-fZ V.dn i]
   simp
  ·rcases List.mem_cons.1 a with rfl | a
   ·exact V.dn.mono i
   ·exact p m a
end
theorem Sp.look_cf(s:Sp)(old:Nat->Bool)(T seg a b:Int): ∀n,(s.look old T seg a b n).cf=s.cf
 | 0=>rfl
 | n+1=>by
  unfold Sp.look
  split
  ·rw[Sp.lookAt_cf,Sp.look_cf s old T seg a b n]
  ·exact Sp.look_cf s old T seg a b n
theorem Sp.visL_cf(O:Nat->Bool)(T:Int)(s:Sp)(l:List Int):(s.visL O T l).1.cf=s.cf:=by
 have: ∀(l:List Int) (a:Sp×List Int),(l.foldl (λa w=>((a.1.visit O T w).1,a.2++[(a.1.visit O T w).2])) a).1.cf=a.1.cf:=λl=>by
  induction l with
  | nil=>intro a;rfl
  | cons w l b=>intro a;simp only[List.foldl_cons];rw[b];exact Sp.visit_cf _ _ _ _
 exact this l (s,[])
theorem Sp.lookCards_cf(old:Nat->Bool)(T:Int): ∀(l:List (Int×Int)) (s:Sp),(s.lookCards old T l).cf=s.cf
 | [],s=>rfl
 | c::l,s=>by
  show((s.lookCard old T c).lookCards old T l).cf=_
  rw[Sp.lookCards_cf old T l]
  exact Sp.look_cf _ _ _ _ _ _ _
theorem ma{old:Nat->Bool}{T:Int}{a s:Sp}{c d:List (Int×Value)}(h:dY old T a c s d):s.cf=a.cf:=by
 induction h with
 | refl=>rfl
 | step k _ hk e f hn b=>rw[Sp.look_cf,b]
theorem Mem.again_lim(m:Mem)(k c:Int):(m.again k c).count=m.count/\(m.again k c).free=m.free:=by
 unfold Mem.again
 split
 ·exact⟨Mem.mark_lim.2.2,Mem.mark_lim.2.1⟩
 ·exact⟨rfl,rfl⟩
theorem Sp.agains_cf: ∀(l:List (Int×Int)) (s:Sp),(s.agains l).cf=s.cf
 | [],s=>rfl
 | c::l,s=>by
  show(({s with mem:=s.mem.again c.1 c.2}:Sp).agains l).cf=_
  rw[Sp.agains_cf l]
  unfold Sp.cf
  show(s.mem.again c.1 c.2).count+(s.mem.again c.1 c.2).free=_
  rw[(Mem.again_lim _ _ _).1,(Mem.again_lim _ _ _).2]
theorem Sp.give_cf(s:Sp)(k:Int):(s.give k).cf<=s.cf+1:=by
 unfold Sp.give
 split
 ·rename_i h
  unfold Sp.cf
  show(s.mem.give k).count+(s.mem.give k).free<=_
  unfold Mem.give
  rw[if_pos h]
  show s.mem.count+(s.mem.free+1)<=_
  omega
 ·omega
theorem Sp.gives_cf(s:Sp)(old:Nat->Bool): ∀n:Nat,(s.gives old n).cf<=s.cf+n
 | 0=>by show s.cf<=s.cf+0;omega
 | n+1=>by
  have:=Sp.gives_cf s old n
  unfold Sp.gives
  split
  ·have:=Sp.give_cf (s.gives old n) n
   omega
  ·omega
theorem Sp.ended_cf(s:Sp)(t:Tr):(s.ended t).cf<=s.cf+1024:=by
 unfold Sp.ended
 rw[Sp.agains_cf]
 exact Sp.gives_cf s t.old 1024
theorem qF{s:Sp}(c:SpOK s)(b:s.mem.Even)(t:Tr):(s.ended t).mem.Even:=by
 obtain⟨_,a⟩:=Sp.gives_seg s t.old 1024
 obtain⟨u,_⟩:=Sp.agains_spec t.cards (Sp.gives_ok c t.old 1024)
 intro k
 show((s.gives t.old 1024).agains t.cards |>.mem.seg k).kind<=1->_
 obtain⟨f,d,e,_⟩:=u.seg k
 show(((s.gives t.old 1024).agains t.cards).mem.seg k).kind<=1->(((s.gives t.old 1024).agains t.cards).mem.seg k).n % 2=0
 rw[d,e,a k]
 split
 ·intro _;rfl
 ·exact b k
theorem pA(b:aX i){g:Int}(c:0<=g):(List.range 1024).countP (λk=>i.young g k)=i.nyoung g:=by
 have l:=b.lim
 have a:eM g≠[]:=λh=>by
  have:(0:Int)∈eM g:=jF.2 ⟨Int.le_refl _,c⟩
  rw[h]at this;cases this
 unfold Mem.nyoung Mem.takenTo
 rw[<-List.countP_eq_length_filter,show(1024:Nat)=i.limit+(1024-i.limit)by omega,ky _ _ _ (λm f j=>?_)]
 ·refine List.countP_congr λk hk=>?_
  rw[List.mem_range]at hk
  have e:=(b.seg k).taken
  have d:=(b.seg k).gen
  unfold Mem.young Mem.has
  simp only[decide_eq_true_eq,Bool.and_eq_true,Bool.or_eq_true,List.isEmpty_iff,a,false_or,jF]
  rw[show((k:Nat):Int).toNat=k by omega]
  exact⟨λq=>⟨by omega,by omega⟩,λq=>⟨⟨by omega,by omega,by omega⟩,by omega⟩⟩
 ·unfold Mem.young
  refine zQ λq=>?_
  have:=q.1.2.1
  omega
theorem qG{Z:TZ}{g:Int}(f:aX Z.m)(d:0<=g)(c: ∀k:Nat,k<1024->Z.O k=Z.m.young g k):(Z.yk 0:Int)+Z.yk 1+Z.yk 2+Z.yk 3<=Z.m.nyoung g:=by
 rw[<-pA f d]
 have h:Z.yk 0+Z.yk 1+Z.yk 2+Z.yk 3<=(List.range 1024).countP (λk=>Z.m.young g k):=by
  unfold TZ.yk
  rw[<-iD,<-iD,<-iD]
  ·refine List.countP_mono_left λk hk h=>?_
   rw[List.mem_range]at hk
   rw[<-c k hk]
   cases e:Z.O k with
   | true=>rfl
   | false=>rw[e]at h;simp at h
  all_goals
   intro x _ a b
   simp only[Bool.and_eq_true,Bool.or_eq_true,decide_eq_true_eq]at a b
   simp[b.2]at a
 omega
theorem gS.frmOK{g T:Int}(h:gS i g T d)(b:aX i):eR d.frm:=by
 intro k v a
 rcases Int.lt_or_le k 0 with hk | hk
 ·rw[h.frm0 k hk]at a;cases a
 rw[h.frm k hk]at a
 split at a
 ·cases a
  exact⟨_,rfl,(b.seg _).n⟩
 ·cases a
theorem sV{l:List Nat}{T:Int}(q:aX i)(u:eR d.frm)(e:kE d.cards)(t:cU i [T] l): ∀a∈i.weaks d l,a<=1000000:=by
 intro a m
 have o:=q.lim
 unfold Mem.weaks at m
 rcases List.mem_append.1 m with h | h
 ·obtain⟨k,hk,h⟩:=List.mem_flatMap.1 h
  obtain⟨_,p,_,_⟩:=t.has hk
  unfold Mem.weakSeg at h
  by_cases b:(i.seg k).kind=1/\d.old k=false
  case neg=>rw[if_neg b]at h;simp at h
  rw[if_pos b]at h
  obtain⟨j,f,rfl⟩:=gp.1 h
  rw[gR]at f
  have hn:=(q.seg k).n
  omega
 ·obtain⟨c,b,h⟩:=List.mem_flatMap.1 h
  have r:=e c b
  unfold Mem.weakCard at h
  by_cases hk:(i.segOr c.1).kind=1
  case neg=>rw[if_neg hk]at h;simp at h
  rw[if_pos hk]at h
  obtain⟨j,f,rfl⟩:=gp.1 h
  rw[gR]at f
  omega
theorem jr{H:zV}{b:Blk}{x:Hp}{q:TB}{t:Tr}(T:Tc H b x q t):gE.C (some ⟨q.t,0,none⟩) H (λv a=>v=.bool t.over/\a=H):=by
 refine HC.via λR c=>gE.link ?_
 unfold gE.pt
 rw[onPtr_some]
 have h:dH.C (some ⟨q.t,0,none⟩) H (λv a=>v=.bool t.over/\a=H):=by
  refine HC.via λR c=>dH.link ?_
  unfold dH.pt
  refine HC.mono (iW T) ?_
  rintro _ _ ⟨rfl,rfl⟩
  exact⟨_,rfl,c _ _ ⟨rfl,rfl⟩⟩
 refine HC.mono h ?_
 rintro _ _ ⟨rfl,rfl⟩
 exact⟨_,rfl,c _ _ ⟨rfl,rfl⟩⟩
variable{d:Mem}{i:Tr}
section
variable {Z:TZ} {g F0:Int} {fw:Int->Option Int} {al:List Int} {s:Sp} {sz:Int->Nat}
theorem eS.words{s':Sp}(t:eS Z g F0 fw al sz i s s' d)(R:Z.P=[])(W:aX d):d.words []=(Z.m.above g:Int)+((al.map Z.sz).sum:Nat):=by
 have S:=t.S
 have V:=ri
 rw[Mem.words_cnt W]
 have B: ∀a∈al,∃b,fw a=some b:=λa u=>(t.tri.al a).1 u
 let G:=al.filterMap fw
 have w: ∀b,b∈G ↔ ∃a,fw a=some b:=λb=>by
  show b∈al.filterMap fw ↔ _
  rw[List.mem_filterMap]
  constructor
  ·rintro⟨a,_,h⟩;exact⟨a,h⟩
  ·rintro⟨a,h⟩;exact⟨a,(t.tri.al a).2 ⟨b,h⟩,h⟩
 have z: ∀l:List Int,(∀a∈l,∃b,fw a=some b)->((l.filterMap fw).map sz).sum=(l.map Z.sz).sum:=λl=>by
  induction l with
  | nil=>intro _;rfl
  | cons a l E=>
   intro h
   obtain⟨b,B⟩:=h a (by simp)
   rw[List.filterMap_cons_some B]
   simp only[List.map_cons,List.sum_cons,E (λx v=>h x (by simp[v])),(t.tri.img a b B).1]
 have I: ∀l:List Int,l.Nodup->(l.filterMap fw).Nodup:=λl=>by
  induction l with
  | nil=>intro _;exact List.nodup_nil
  | cons a l E=>
   intro h
   rw[List.nodup_cons]at h
   cases C:fw a with
   | none=>rw[List.filterMap_cons_none C];exact E h.2
   | some b=>
    rw[List.filterMap_cons_some C,List.nodup_cons]
    refine⟨λq=>?_,E h.2⟩
    rw[List.mem_filterMap]at q
    obtain⟨M,X,Y⟩:=q
    have:=t.tri.inj a M b C Y
    exact h.1 (this▸X)
 have f: ∀b∈G,sz b≠0/\ ∀a5:Nat,a5<sz b->s.mem.used (b+a5)/\ ¬Z.m.used (b+a5)/\Z.O ((b+(a5:Int)) / 64).toNat=false:=λb c=>by
  obtain⟨a,u⟩:=(w b).1 c
  obtain⟨e,F⟩:=t.tri.img a b u
  have J:=(t.tri.olds.mem a ((t.tri.al a).2 ⟨b,u⟩)).1
  refine⟨by rw[e];exact J,λa5 k=>?_⟩
  rw[e]at k
  have C:=F.fit
  exact⟨F.here a5 k,F.new a5 k,by rw[show(b+(a5:Int)) / 64=b / 64 by omega];exact F.out⟩
 have y: ∀b∈G,∀x:Nat,inR b (sz b) x=true-> ∃a5:Nat,a5<sz b/\(x:Int)=b+a5:=λb c x v=>by
  unfold inR at v
  rw[decide_eq_true_eq]at v
  exact⟨((x:Int)-b).toNat,by omega,by omega⟩
 rw[<-z al B,kF sz tops (al.filterMap fw) (I al t.tri.olds.nodup) (λb c=>?_) (λa u b c H=>t.tri.apart a b (f a u).1 (f b c).1 H)]
 ·unfold Mem.above Mem.cnt
  rw[<-Int.natCast_add,<-iD]
  ·congr 1
   refine List.countP_congr λx v=>?_
   rw[List.mem_range]at v
   simp only[Bool.and_eq_true,Bool.or_eq_true,decide_eq_true_eq,true_or,and_true]
   rw[t.used]
   constructor
   ·rintro⟨D,Q⟩
    rcases t.tri.cover x D with o | ⟨a,b,a5,r,A,h3⟩ | ⟨p,L,_⟩
    ·left
     refine⟨o,?_⟩
     have m:=S.lt o
     rcases Int.lt_or_le g (Z.m.gAt x)with q | q
     ·exact q
     ·have:=(S.old _ m.1).2 ⟨by rw[show((((x:Int) / 64).toNat:Nat):Int)=(x:Int) / 64 by omega];exact o.2.1,q⟩
      rw[Q]at this;cases this
    ·right
     rw[List.any_eq_true]
     refine⟨b,(w b).2 ⟨a,r⟩,?_⟩
     unfold inR
     rw[decide_eq_true_eq,(t.tri.img a b r).1]
     omega
    ·rw[R]at L;cases L
   ·rintro(⟨o,T⟩ | j)
    ·have m:=S.lt o
     refine⟨t.tri.heads.used o,?_⟩
     by_cases q:Z.O ((x:Int) / 64).toNat=true
     ·have:=((S.old _ m.1).1 q).2
      have:g< (Z.m.seg ((x:Int) / 64).toNat).gen:=T
      omega
     ·simpa using q
    ·rw[List.any_eq_true]at j
     obtain⟨b,c,n⟩:=j
     obtain⟨a5,k,e⟩:=y b c x n
     obtain⟨u1,u2,u3⟩:=(f b c).2 a5 k
     rw[e];exact⟨u1,u3⟩
  ·intro x _ r A
   simp only[Bool.and_eq_true,decide_eq_true_eq]at r
   rw[List.any_eq_true]at A
   obtain⟨b,c,n⟩:=A
   obtain⟨a5,k,e⟩:=y b c x n
   have:=((f b c).2 a5 k).2.1
   rw[<-e]at this
   exact this r.1
 ·obtain⟨o,D⟩:=f b c
  have N:=(D 0 (by omega)).1
  have U:=(D (sz b-1) (by omega)).1
  have K:=t.tri.ok.mem.lim
  have r:=N.1
  have A:=U.2.1.2.1
  exact⟨by omega,by omega⟩
theorem eS.empty{A:Sp}(t:eS Z g F0 fw al sz i s A d)(w:Z.P=[])(z:aX d){k:Int}(hk:k<=g)(y:k≠Z.T):d.words [k]=0:=by
 have S:=t.S
 rw[Mem.words_cnt z]
 unfold Mem.cnt
 have:(List.range tops).countP (λx:Nat=>decide (d.used x) && decide ([k]=[]\/d.gAt x∈[k]))=0:=by
  rw[List.countP_eq_zero]
  intro x _
  simp only[Bool.and_eq_true,decide_eq_true_eq,List.mem_singleton,List.cons_ne_self,false_or,reduceCtorEq]
  rintro⟨n,f⟩
  have c:=(t.kind n).2
  obtain⟨j,v⟩:=t.used.1 n
  rcases t.tri.cover x j with l | ⟨a,b,D,r,B,u⟩ | ⟨p,m,_⟩
  ·have h:=S.lt l
   have:=(S.old _ h.1).2 ⟨by rw[show((((x:Int) / 64).toNat:Nat):Int)=(x:Int) / 64 by omega];exact l.2.1,by
    have e:=(t.tri.kAt l).2
    have:(Z.m.seg ((x:Int) / 64).toNat).gen=k:=by
     have q:Z.m.gAt x=k:=by rw[<-e,<-c];exact f
     exact q
    omega⟩
   rw[v]at this;cases this
  ·have o:=(t.tri.img a b r).2
   have C:=o.fit
   have:s.mem.gAt x=Z.T:=by
    unfold Mem.gAt
    rw[u,show(b+(D:Int)) / 64=b / 64 by omega];exact o.gen
   rw[c,this]at f
   exact y f.symm
  ·rw[w]at m;cases m
 rw[this];rfl
end
def brkR(O:Nat->Bool)(m:Mem)(a:Int):Mem:=if aG O (m.read a)then m.wr a ((m.fwd (m.read a)).getD 44)else m
theorem oq(a:aX d)(w:Int):aC ((d.fwd w).getD 44):=by
 unfold Mem.fwd
 split
 ·have:=(a.seg (w / 8 / 64).toNat).words (w / 8 % 64).toNat
  have h:aC (d.get (w / 8)):=(a.seg _).words _
  unfold aC at h⊢
  show 0<=d.get (w / 8) / 8*8+w % 8/\_
  simp only[Option.getD_some]
  omega
 ·decide
theorem jW(O:Nat->Bool)(m:Mem)(a:Int):aY m (brkR O m a):=by
 unfold brkR
 split
 ·exact aY.wr m a _
 ·exact aY.refl m
theorem tS{s:Sp}(b:SpOK s)(O:Nat->Bool)(a:Int):SpOK {s with mem:=brkR O s.mem a}:=by
 unfold brkR
 split
 ·exact b.wr a (oq b.mem _)
 ·exact b
theorem lh(O:Nat->Bool): ∀(l:List Int) (m:Mem),aY m (l.foldl (brkR O) m)
 | [],m=>aY.refl m
 | a::l,m=>(jW O m a).trans (lh O l _)
theorem pD(O:Nat->Bool): ∀(l:List Int) {s:Sp},SpOK s->SpOK {s with mem:=l.foldl (brkR O) s.mem}
 | [],s,ok=>ok
 | a::l,s,ok=>pD O l (tS ok O a)
theorem nB{O:Nat->Bool}{m:Mem}{a x:Int}(d:m.used x):(brkR O m a).get x=if x=a/\aG O (m.get x)then(m.fwd (m.get x)).getD 44 else m.get x:=by
 have f:=d.1
 unfold brkR
 by_cases e:x=a
 ·subst e
  have h:m.read x=m.get x:=by unfold Mem.read;rw[if_pos d]
  rw[h]
  by_cases b:aG O (m.get x)
  ·rw[if_pos b,if_pos ⟨rfl,b⟩]
   unfold Mem.wr;rw[if_pos d,Mem.set_get x f f,if_pos rfl]
  ·rw[if_neg b,if_neg (λq=>b q.2)]
 ·rw[if_neg (show ¬(x=a/\aG O (m.get x))from λq=>e q.1)]
  split
  ·unfold Mem.wr
   by_cases c:m.used a
   ·rw[if_pos c,Mem.set_get x f c.1,if_neg e]
   ·rw[if_neg c]
  ·rfl
theorem sW{O:Nat->Bool}{a w:Int}(f:O (a / 64).toNat=false)(i:aG O w):(brkR O d a).fwd w=d.fwd w:=by
 unfold Mem.fwd
 by_cases b:d.used (w / 8)
 ·have e:(brkR O d a).get (w / 8)=d.get (w / 8):=by
   rw[nB b,if_neg]
   rintro⟨h,_⟩
   have:=i.2.2
   rw[h,f]at this;cases this
  rw[e]
  have c:=(jW O d a).used.2 b
  exact iC ⟨λq=>⟨b,q.2⟩,λq=>⟨c,q.2⟩⟩ _ _
 ·rw[if_neg (λq=>b ((jW O d a).used.1 q.1)),if_neg (λq=>b q.1)]
theorem ot(O:Nat->Bool): ∀(l:List Int) {m:Mem} {x:Int},(∀a∈l,O (a / 64).toNat=false)->(aG O (m.get x)-> ∀v,m.fwd (m.get x)=some v-> ¬aG O v)->m.used x->
  (l.foldl (brkR O) m).get x=if x∈l/\aG O (m.get x)then(m.fwd (m.get x)).getD 44 else m.get x
 | [],m,x,_,_,hx=>by rw[if_neg (λq=>by simp at q)];rfl
 | a::l,m,x,hl,hf,hx=>by
  have k:=hl a (by simp)
  have d: ∀w,aG O w->(brkR O m a).fwd w=m.fwd w:=λw o=>sW k o
  have f:aG O (m.get x)-> ¬aG O ((m.fwd (m.get x)).getD 44):=λe=>by
   cases i:m.fwd (m.get x)with
   | none=>exact l8 O
   | some v=>exact hf e v i
  have j:=nB (O:=O) (a:=a) hx
  have p:=ot O l (m:=brkR O m a) (x:=x) (λb n=>hl b (by simp[n])) (λc v i=>by
   by_cases e:x=a/\aG O (m.get x)
   ·rw[j,if_pos e]at c;exact absurd c (f e.2)
   ·rw[j,if_neg e]at c i
    exact hf c v (by rw[<-d _ c];exact i)) ((jW O m a).used.2 hx)
  show(l.foldl (brkR O) (brkR O m a)).get x=_
  rw[p,j]
  by_cases e:x=a/\aG O (m.get x)
  ·rw[if_pos e,if_neg (λq=>f e.2 q.2),if_pos ⟨by rw[e.1];simp,e.2⟩]
  ·rw[if_neg e]
   by_cases h:x∈l/\aG O (m.get x)
   ·rw[if_pos h,if_pos ⟨by simp[h.1],h.2⟩,d _ h.2]
   ·rw[if_neg h,if_neg (λq=>?_)]
    rcases List.mem_cons.1 q.1 with r | r
    ·exact e ⟨r,q.2⟩
    ·exact h ⟨r,q.2⟩
section
variable {Z:TZ} {g F0:Int} {fw:Int->Option Int} {al:List Int} {s:Sp} {sz:Int->Nat}
theorem ou(S:aW Z g F0)(t:Tri Z F0 fw al s sz)(B:gS Z.m g Z.T i)(r:i.old=Z.O){l:List Nat}(y:cU s.mem [Z.T] l): ∀a∈s.mem.weaks i l,Z.O (a / 64).toNat=false:=by
 intro a e
 have f:=t.ok.mem.lim
 unfold Mem.weaks at e
 rcases List.mem_append.1 e with h | h
 ·obtain⟨k,hk,h⟩:=List.mem_flatMap.1 h
  have v:((k:Nat):Int).toNat=k:=by omega
  unfold Mem.weakSeg at h
  by_cases b:(s.mem.seg k).kind=1/\i.old k=false
  case neg=>rw[if_neg b]at h;simp at h
  rw[if_pos b]at h
  obtain⟨j,d,rfl⟩:=gp.1 h
  rw[gR]at d
  have hn:=(t.ok.mem.seg k).n
  have u:=B.frmAt (k:=k) (by omega)
  have q:0<=seenAt i.frm k:=by
   rw[u]
   split
   ·exact(S.ok.seg _).n.1
   ·exact Int.le_refl _
  rw[show((k:Int)*64+(seenAt i.frm k+2*(j:Int))) / 64=k by omega,v,<-r];exact b.2
 ·obtain⟨c,b,h⟩:=List.mem_flatMap.1 h
  obtain⟨o,p,w,x⟩:=B.cardOf S c b
  unfold Mem.weakCard at h
  by_cases hk:(s.mem.segOr c.1).kind=1
  case neg=>rw[if_neg hk]at h;simp at h
  rw[if_pos hk]at h
  obtain⟨j,d,rfl⟩:=gp.1 h
  rw[gR]at d
  have q:=o.1
  rw[show(c.1*64+(c.2*16+2*(j:Int))) / 64=c.1 by omega];exact p
theorem Tri.fwd_is(S:aW Z g F0)(t:Tri Z F0 fw al s sz){w:Int}(k:aC w)(d:Good Z.m Z.sz w)(f:aG Z.O w):s.mem.fwd w=(fw (w / 8)).map λb=>b*8+w % 8:=by
 obtain⟨h,o,p,q⟩:=S.oldWord d f
 obtain⟨n,r⟩:=S.sound.used _ h
 cases c:fw (w / 8)with
 | none=>exact(t.same_size S k d f c).2.1
 | some b=>
  obtain⟨_,l⟩:=t.img _ _ c
  have a:s.mem.used b:=by simpa using l.here 0 (by omega)
  have e:=t.ok.mem.lim
  have i:=a.2.1.2.1
  have j:=a.1
  unfold Mem.fwd
  rw[t.word _ _ c,if_pos ⟨t.heads.used n,⟨by omega,by omega⟩,by omega⟩]
  show some _=some _
  congr 2;omega
structure oJ (Z:TZ) (fw:Int->Option Int) (s s':Sp):Prop extends Broke Z fw s s' where
 exact: ∀x v,s.mem.used x->Z.O (x / 64).toNat=false->s.mem.kAt x=1->x % 2=0->Was Z fw x v->s'.mem.get x=if aG Z.O v/\fw (v / 8)=none then 44 else Fw Z.O fw v
 old: ∀x,s.mem.used x->Z.O (x / 64).toNat=true->s'.mem.get x=s.mem.get x
theorem oJ.of{tr:Tr}(S:aW Z g F0)(t:Tri Z F0 fw al s sz)(hm:jG Z.m)(B:gS Z.m g Z.T tr)(D:tr.old=Z.O){l:List Nat}(A:cU s.mem [Z.T] l):oJ Z fw s {s with mem:=(s.mem.weaks tr l).foldl (brkR Z.O) s.mem}:=by
 have i:=ou S t B D A
 have key: ∀x v,s.mem.used x->Z.O (x / 64).toNat=false->s.mem.kAt x=1->x % 2=0->Was Z fw x v->((s.mem.weaks tr l).foldl (brkR Z.O) s.mem).get x=if aG Z.O v/\fw (v / 8)=none then 44 else Fw Z.O fw v:=λx v d f hk y n=>by
  have j:s.mem.get x=v:=by
   rcases t.val x v n with r | ⟨r,_⟩
   ·exact r
   ·have:=r.2.resolve_left (λe=>e hk);omega
  obtain⟨J,K⟩:=t.was_any S n (by rw[hk];decide)
  have p:aG Z.O v->s.mem.fwd v=(fw (v / 8)).map λb=>b*8+v % 8:=λo=>t.fwd_is S J (K o) o
  rw[ot Z.O _ i (λo C c=>?_) d,j]
  ·by_cases o:aG Z.O v
   ·have z:=om S t hm B D A d f hk y n o
    rw[if_pos ⟨z,o⟩,p o]
    cases k:fw (v / 8)with
    | none=>rw[if_pos ⟨o,rfl⟩];rfl
    | some b=>rw[if_neg (λq=>by cases q.2),fy o k];rfl
   ·rw[if_neg (λq=>o q.2),if_neg (λq=>o q.1),ft o]
  ·rw[j]at o c
   rw[p o]at c
   cases k:fw (v / 8)with
   | none=>rw[k]at c;cases c
   | some b=>
    rw[k]at c;cases c
    have I:=(t.img _ _ k).2
    intro q
    have:=q.2.2
    rw[show(b*8+v % 8) / 8=b by omega,I.out]at this
    cases this
 have u: ∀(l:List Int) (m:Mem) (x:Int),m.used x->x ∉ l->(l.foldl (brkR Z.O) m).get x=m.get x:=λl=>by
  induction l with
  | nil=>intro m x _ _;rfl
  | cons a l H=>
   intro m x hm hn
   show(l.foldl (brkR Z.O) (brkR Z.O m a)).get x=_
   rw[H _ x ((jW _ m a).used.2 hm) (λq=>hn (by simp[q])),nB hm,if_neg (λq=>hn (by simp[q.1]))]
 refine⟨⟨lh _ _ _,rfl,pD _ _ t.ok,λx d f G=>?_,λx d f hk y=>?_⟩,key,λx d f=>u _ _ x d (λq=>by have:=i x q;rw[f]at this;cases this)⟩
 ·show((s.mem.weaks tr l).foldl (brkR Z.O) s.mem).get x=_
  have w:x ∉ s.mem.weaks tr l:=λq=>by
   obtain⟨E,F,_⟩:=l9 S t B A x q
   exact G ⟨E,F⟩
  exact u _ _ x d w
 ·obtain⟨v,n⟩:=t.was d f
  show((s.mem.weaks tr l).foldl (brkR Z.O) s.mem).get x=44\/_
  by_cases o:aG Z.O v/\fw (v / 8)=none
  ·left;rw[key x v d f hk y n,if_pos o]
  ·right
   intro C c
   obtain rfl:=t.was_one c n
   refine⟨λh=>?_,?_⟩
   ·cases k:fw (C / 8)with
    | none=>exact absurd ⟨h,k⟩ o
    | some b=>exact⟨b,rfl⟩
   ·show((s.mem.weaks tr l).foldl (brkR Z.O) s.mem).get x=_
    rw[key x C d f hk y n,if_neg o]
end
theorem li{c:Sp}{g T a:Int}(hm:0<=a)(b:ic c g T a=0):(0<=g/\g<4/\g<=T/\T<=g+1)/\2*(c.mem.nyoung g:Int)+8+a<=c.mem.free:=by
 unfold ic at b
 by_cases d:g<0\/4<=g\/T<g\/g+1<T\/a<0
 ·rw[if_pos d]at b;exact absurd b (by decide)
 ·rw[if_neg d]at b
  by_cases e:c.mem.free-2*c.mem.nyoung g-8<a
  ·rw[if_pos e]at b;exact absurd b (by decide)
  ·omega
theorem Inv.static{a:Sp}{b:Int->Nat}{g T d:Int}{V:Int->Prop}(I:Inv a b)(f:0<=d)(h:ic a g T d=0)(B:gS a.mem g T i)(p: ∀v,V v->aC v/\Good a.mem b v):
  aW ⟨a.mem,b,i.old,T,V,λ_=>none,[]⟩ g a.mem.free/\Tri ⟨a.mem,b,i.old,T,V,λ_=>none,[]⟩ a.mem.free (λ_=>none) [] (a.fresh (eM g)) b:=by
 have c:=li f h
 have S:aW ⟨a.mem,b,i.old,T,V,λ_=>none,[]⟩ g a.mem.free:=by
  refine⟨I.ok.mem,I.even,I.sound,λk hk=>?_,c.1,?_,p⟩
  ·show i.old k=true ↔ _
   rw[B.old k hk]
   unfold Mem.young
   rw[decide_eq_true_eq]
  ·have r: ∀Z:TZ,Z.m=a.mem->Z.O=i.old->Z.P=[]->2*((Z.yk 0:Int)+Z.yk 1+Z.yk 2+Z.yk 3)+8+((Z.P.length / 32:Nat):Int)<=a.mem.free:=λZ e l n=>by
    have o:=qG (Z:=Z) (g:=g) (by rw[e];exact I.ok.mem) c.1.1 (λk hk=>by rw[e,l];exact B.old k hk)
    have t:=c.2
    rw[e]at o
    rw[n]
    simp
    omega
   exact r _ rfl rfl rfl
 exact⟨S,Tri.begin' S (Sp.fresh_ok I.ok _) rfl rfl (λu j q=>by
   show(if eM g=[]\/((u:Nat):Int)∈eM g then(0:Int)else a.cur u j)=0
   rw[if_pos (.inr (jF.2 ⟨by omega,q⟩))]) (λ_=>rfl) rfl⟩
structure gq (Z:TZ) (s0:Sp) (g:Int) (tr:Tr) (fw:Int->Option Int) (al:List Int) (sz:Int->Nat) (s3 s4 s5:Sp):Prop where
 t:eS Z g s0.mem.free fw al sz tr s3 s4 s5.mem
 brk:oJ Z fw s3 s4
 inv:Inv s5 (szE Z.O sz)
theorem Tri.ends{Z:TZ}{s0:Sp}{g:Int}{tr:Tr}{fw:Int->Option Int}{al:List Int}{sz:Int->Nat}{a:Sp}{l:List Nat}(S:aW Z g s0.mem.free)(h:Tri Z s0.mem.free fw al a sz)(hm:jG Z.m)(B:gS Z.m g Z.T tr)(j:tr.old=Z.O)(i:Fin Z fw a)(c: ∀v,Z.V v->Dn Z.O fw v)(p:cU a.mem [Z.T] l):
  gq Z s0 g tr fw al sz a {a with mem:=(a.mem.weaks tr l).foldl (brkR tr.old) a.mem} (({a with mem:=(a.mem.weaks tr l).foldl (brkR tr.old) a.mem}:Sp).ended tr):=by
 have b:=oJ.of S h hm B j p
 rw[j]
 have e: ∀k:Nat,k<1024->Z.O k=true->({a with mem:=(a.mem.weaks tr l).foldl (brkR Z.O) a.mem}:Sp).mem.has k:=λk hk q=>b.same.has.2 (h.heads.has ((S.old k hk).1 q).1)
 obtain⟨n,f⟩:=Sp.ended_spec (Z:=Z) (tr:=tr) j b.ok e
 have o:({a with mem:=(a.mem.weaks tr l).foldl (brkR Z.O) a.mem}:Sp).mem.Even:=b.same.even h.even
 have d:=qF b.ok o tr
 have t:eS Z g s0.mem.free fw al sz tr a _ _:=⟨S,h,i,c,b.toBroke,n,B,hm⟩
 exact⟨t,b,⟨f,d,t.sound,t.marks⟩⟩
theorem tT{H:zV}{b e:Nat}{a:Int}(h:cR H b e d)(i:aX d)(f:a<=9223372036854775807):
  bL.C (some ⟨b,0,none⟩) a H (λv c=>v=.tuple #[vu (d.read a),vi (if d.used a then 0 else 18)]/\c=H):=
 HC.mono (hU h i f) (by
  rintro _ _ ⟨rfl,rfl⟩
  refine⟨?_,rfl⟩
  unfold Mem.read
  split<;>rfl)
set_option maxRecDepth 100000 in
theorem kS{H:zV}{b:Blk}{y:Hp}{q:TB}{t:Tr}(T:Tg H b y q t)(hf:eR t.frm)(L:kE t.cards):
  gl.C (some ⟨q.t,0,none⟩) H (λ_ H'=> ∃l,cU y.sp.mem [t.tgt] l/\Tg H' b {y with sp:={y.sp with mem:=(y.sp.mem.weaks t l).foldl (brkR t.old) y.sp.mem}} q t/\Fr (spB b) H H'):=by
 refine HC.via λR hR=>gl.link ?_
 unfold gl.pt zY
 refine HC.mono (jr T.toTc) ?_
 rintro _ H1 ⟨rfl,rfl⟩
 refine⟨_,rfl,?_⟩
 rw[if_neg (by rw[T.on];decide)]
 refine HC.mono (nr T hf L) ?_
 rintro _ H2 ⟨l,wB,wN,wC,hl,rfl,a0,hr,a7,au,e2⟩
 have hw:=sV T.ok.mem hf L hl
 have a4: ∀j∈blks wB,j ∉ b.all:=λj hj h=>by have:=a7 j hj;have:=T.lt (.inl h);omega
 refine⟨_,_,_,rfl,?_⟩
 generalize Y:y.sp.mem.weaks t l=W at*
 subst a0
 refine⟨λk A=>(0<=k/\k<=W.length)/\Tg A b {y with sp:={y.sp with mem:=(W.take k.toNat).foldl (brkR t.old) y.sp.mem}} q t/\Fr (spB b) H2 A,λk _=>(W.length-k).toNat,
  ⟨⟨by omega,by omega⟩,T.grow e2,Fr.refl _ _⟩,?_⟩
 rintro k A ⟨hk,p,P⟩
 by_cases z:k< (W.length:Int)
 case neg=>
  rw[if_neg z]
  rw[List.take_of_length_le (by omega)]at p
  exact hR _ _ ⟨l,hl,by rw[Y];exact p,e2.fr.trans P⟩
 rw[if_pos z]
 have x:k.toNat<W.length:=by omega
 have N:=List.getElem_mem x
 have a3:=hr.keep P (λj hj hs=>a4 j hj (gH hs))
 obtain⟨a,ha,K⟩:=mG a3.src (i:=k.toNat) x
 have a5:W.take (k+1).toNat=W.take k.toNat++[W[k.toNat]]:=by rw[show(k+1).toNat=k.toNat+1 by omega,List.take_succ_eq_append_getElem x]
 have M:(W.take (k+1).toNat).foldl (brkR t.old) y.sp.mem=brkR t.old ((W.take k.toNat).foldl (brkR t.old) y.sp.mem) W[k.toNat]:=by rw[a5,List.foldl_append];rfl
 have av:=hw _ N
 generalize W[k.toNat]=w at*
 have Q:=p.hp
 have hd:((W.length:Int)-(k+1)).toNat< ((W.length:Int)-k).toNat:=by omega
 refine⟨a,ha,⟨hk.1,z⟩,_,K,_,rfl,_,p.tr.hPtr,_,rfl,_,Q.hPtr,_,rfl,_,Q.cd.cPtr,_,rfl,_,Q.cd.sp.memPtr,?_⟩
 rw[w64 (n:=k+1) (by omega)]
 generalize ak:(W.take k.toNat).foldl (brkR t.old) y.sp.mem=m at*
 refine HC.mono (tT Q.cd.sp.mem p.ok.mem (by omega)) ?_
 rintro _ A1 ⟨rfl,rfl⟩
 refine⟨_,_,rfl,?_⟩
 have D:aC (m.read w):=Mem.read_word p.ok.mem w
 refine HC.mono (jD p.toTc D) ?_
 rintro _ A2 ⟨rfl,u⟩
 refine⟨_,rfl,?_⟩
 have U:=p.grow u
 by_cases B:aG t.old (m.read w)
 case neg=>
  rw[if_neg (by simp[B])]
  have V:brkR t.old m w=m:=by unfold brkR;rw[if_neg B]
  exact⟨⟨⟨by omega,by omega⟩,by rw[M,V];exact U,P.trans u.fr⟩,hd⟩
 rw[if_pos (zX ⟨p.on,B⟩)]
 refine HC.mono (fp U.toTc D) ?_
 rintro _ A3 ⟨rfl,e3⟩
 refine⟨_,rfl,?_⟩
 have F:=U.grow e3
 have c:=F.hp
 have I:=u.trans e3
 have J: ∀(E o:zV) (v:Int),aC v->v=(m.fwd (m.read w)).getD 44->Tg E b {y with sp:={y.sp with mem:=m}} q t->Fr (spB b) A1 E->cR o b.m b.s (if m.used w then m.set w v else m)->Fr [b.s] E o->
   (((0<=k+1/\k+1<=(W.length:Int))/\Tg o b {y with sp:={y.sp with mem:=(W.take (k+1).toNat).foldl (brkR t.old) y.sp.mem}} q t/\Fr (spB b) H2 o)/\((W.length:Int)-(k+1)).toNat< ((W.length:Int)-k).toNat):=by
  intro E o v S a6 d X f G
  have V:brkR t.old m w=m.wr w v:=by unfold brkR;rw[if_pos B,<-a6]
  refine⟨⟨⟨by omega,by omega⟩,?_,(P.trans X).trans (G.mono (λi hi _=>by simp at hi;simp[spB];omega))⟩,hd⟩
  rw[M,V]
  refine⟨d.toTc.withMem (m:=m.wr w v) G (λi hi=>by simp at hi;omega) f (d.ok.wr w S),(aY.wr m w v).even d.even,?_,d.on⟩
  have:=d.cf
  unfold Sp.cf at this⊢
  show(m.wr w v).count+(m.wr w v).free<_
  rw[(aY.wr m w v).count,(aY.wr m w v).free];exact this
 have am: ¬ ¬(t.over=false/\aG t.old (m.read w)):=λh=>h ⟨T.on,B⟩
 cases e:m.fwd (m.read w)with
 | some v=>
  rw[if_pos (by simp[e])]
  refine⟨_,F.tr.hPtr,_,rfl,_,c.hPtr,_,rfl,_,c.cd.cPtr,_,rfl,_,c.cd.sp.memPtr,?_⟩
  have O:=Sp.visit_fwd (s:={y.sp with mem:=m}) (T:=t.tgt) B e
  refine HC.mono (fq F D) ?_
  rintro _ E ⟨rfl,d,X⟩
  rw[O]at d⊢
  have r:=d.hp
  refine⟨_,rfl,row1 d.tr.hPtr,row1 r.hPtr,row1 r.cd.cPtr,row1 r.cd.sp.memPtr,?_⟩
  refine HC.mono (gP r.cd.sp.mem d.ok.mem (by omega)) ?_
  rintro _ o ⟨rfl,f,G⟩
  have S:v=(m.fwd (m.read w)).getD 44:=by rw[e];rfl
  exact⟨_,rfl,J E o v (by rw[S];exact oq d.ok.mem _) S d (I.fr.trans X) f G⟩
 | none=>
  rw[if_neg (by simp[e,T.on,B])]
  refine⟨_,F.tr.hPtr,_,rfl,_,c.hPtr,_,rfl,_,c.cd.cPtr,_,rfl,_,c.cd.sp.memPtr,?_⟩
  refine HC.mono (gP c.cd.sp.mem F.ok.mem (by omega)) ?_
  rintro _ o ⟨rfl,f,G⟩
  exact⟨_,rfl,J A3 o 44 (by decide) (by rw[e];rfl) F I.fr f G⟩
structure Cel (S:List Nat) (ra:Addr) (K:zV->List Int->Prop):Prop where
 keep: ∀{T:List Nat} {A A':zV} {ws:List Int},K A ws->Fr T A A'->(∀j∈S,j ∉ T)->K A' ws
 at': ∀{A:zV} {ws:List Int} {i:Nat},K A ws->(h:i<ws.length)->hat A (ra.add (i*1))=some (vu ws[i])
 put: ∀{A:zV} {ws:List Int} {i:Nat} (v:Int),K A ws->i<ws.length->aN A (ra.add (i*1)) 0 1/\ ∀A',A'=aV A (ra.add (i*1)) [vu v] 0->K A' (ws.set i v)/\Fr S A A'
 lt: ∀{A:zV} {ws:List Int},K A ws-> ∀j∈S,j<A.size
theorem Cel.own(l:zW)(n t:Nat):Cel (blks l) (l.getD default) (λA ws=>ws.length=n/\Own A 28 1 l n t (wvs ws)):=by
 refine⟨λ{T A m ws} h f r=>⟨h.1,h.2.keep f r⟩,λ{A ws i} h b=>?_,λ{A ws i} v h b=>?_,λh=>h.2.lt⟩
 ·obtain⟨a,k,c⟩:=h.2.at (j:=i) (v:=vu ws[i]) (by unfold wvs;rw[List.getElem?_map,List.getElem?_eq_getElem b];rfl)
  subst k
  rw[Option.getD_some,Nat.mul_one];exact c
 ·obtain⟨a,k,_⟩:=h.2.at (j:=i) (v:=vu ws[i]) (by unfold wvs;rw[List.getElem?_map,List.getElem?_eq_getElem b];rfl)
  subst k
  obtain⟨c,o⟩:=h.2.put (i:=i) (by rw[<-h.1];exact b) (vu v)
  rw[Option.getD_some,Nat.mul_one]
  refine⟨c,λm d=>?_⟩
  obtain⟨p,q⟩:=o m d
  refine⟨⟨by rw[List.length_set];exact h.1,?_⟩,by simpa using q⟩
  have e:(wvs ws).set i (vu v)=wvs (ws.set i v):=by unfold wvs;rw[List.map_set]
  rw[<-e];exact p
