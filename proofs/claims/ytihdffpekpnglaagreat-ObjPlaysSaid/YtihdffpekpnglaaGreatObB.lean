/-
 The document's pairs and what is made of them (moraineref10). Proves nothing of any one statement.
-/
import Derived.Test.YtihdffpekpnglaaGreatRefD
import Derived.Test.YtihdffpekpnglaaGreatObL
set_option linter.unusedVariables false
set_option linter.unusedSimpArgs false
namespace Go.Proofs.YtihdffpekpnglaaGreat
open Go

theorem mf{H:zW}{q:RB}{r:RM}{b:Blk}{x:Hp}{ep car cdr:Int}{wk:Bool}(h:RHAt H q r x.sp ep)(ok:SpOK x.sp)(h1:aM car)(h2:aM cdr):
  cG.C (some ⟨q.h,0,none⟩) wk car cdr H (λv H'=>v=.tuple #[.int .u64 (putR (some (b,x)) (if wk=true then 1 else 0) (if wk=true then 2 else 1) [car,cdr]).1,.int .i64 (putR (some (b,x)) (if wk=true then 1 else 0) (if wk=true then 2 else 1) [car,cdr]).2]/\
   ks H H' q r (spo (putO (some (b,x)) (if wk=true then 1 else 0) (if wk=true then 2 else 1) [car,cdr])) ep/\Fr (q.all r) H H'):=by
 refine HC.via λR hR=>cG.link ?_
 unfold cG.pt
 have hlt:=h.lt
 have go: ∀(kk tg:Int),(tg=1\/tg=2\/tg=3)->(∀v H',v=.tuple #[.int .u64 (x.sp.put kk tg [car,cdr]).2.1,.int .i64 (x.sp.put kk tg [car,cdr]).2.2]/\ks H H' q r (x.sp.put kk tg [car,cdr]).1 ep/\Fr (q.all r) H H'->R v H')->
   ∀(b2:Nat) (H1:zW),b2=H.size->H1=H.push (.cells #[.int .u64 car,.int .u64 cdr] 33)->
   bF.C (some ⟨q.h,0,none⟩) kk tg (some (Addr.mk b2 0 none)) 2 2 H1 (λv H2=> ∃ra:Int,∃rb:Int,v=.tuple #[.int .u64 ra,.int .i64 rb]/\R (.tuple #[.int .u64 ra,.int .i64 rb]) H2):=λkk tg ht hR' b2 H1 hb hH=>by
  have e1:Ext H H1:=Ext.push' hH
  refine HC.mono (l8 (ws:=[car,cdr]) (h.ext e1) ok (show aG H1 ⟨b2,0,none⟩ 0 (wvs [car,cdr])from bQ (aO hb hH)) rfl (by intro w hw;simp at hw;rcases hw with rfl | rfl<;>assumption) (λi hi hq=>by simp at hi;have:=hlt i hq;omega) ht (by simp)) ?_
  rintro _ H2 ⟨rfl,⟨r',hs,hbm,hbs⟩,f2⟩
  exact⟨_,_,rfl,hR' _ _ ⟨rfl,⟨r',hs,hbm,λi hi=>(hbs i hi).imp id (λh=>by have:=e1.size;omega)⟩,e1.fr.trans f2⟩⟩
 cases wk
 ·rw[if_neg (by decide)]
  exact go 0 1 (by decide) hR
 ·rw[if_pos rfl]
  exact go 1 2 (by decide) hR

theorem pq{m:Mem}{w:Int}(hw:aM w)(h:m.isPair w):m.used (w / 8):=by
 have:=hw.1
 rcases h.1 with q | q
 ·exact⟨by omega,q.2.2.1,q.2.2.2.2⟩
 ·exact⟨by omega,q.2.2.1,q.2.2.2.2⟩
theorem jB{H:zW}{q:RB}{r:RM}{s:Sp}{ep w:Int}(h:RHAt H q r s ep)(ok:cF s.mem)(hw:aM w):
  bJ.C (some ⟨q.h,0,none⟩) w H (λv H'=>v=.int .i64 (if s.mem.isPair w then w / 8 else-1)/\Ext H H'):=by
 refine HC.via λR hR=>bJ.link ?_
 unfold bJ.pt zq
 refine HC.mono (jP hw) ?_
 rintro v H1 ⟨k,t,a,xx,m,rfl,hof,e1⟩
 refine⟨k,t,a,xx,m,rfl,λb2 H2 hb2 hH2=>?_⟩
 obtain⟨p1,p2⟩:=fE (vs:=[.int .i64 k,.int .i64 t,.int .i64 a,.int .i64 xx,.int .u64 m]) hb2 hH2 rfl rfl
 refine⟨p1,λH3 hH3=>?_⟩
 obtain⟨g3,e3⟩:=p2 H3 hH3
 have e13:=e1.trans e3
 obtain⟨hka,ha2⟩:=hof.addr
 have hw0:=hw.1
 have no: ¬s.mem.isPair w-> ∀{A:zW},Ext H A->R (.int .i64 (-1)) A:=λhn A e=>hR _ _ ⟨by rw[if_neg hn],e⟩
 have key: ∀y:Int,((Int.tmod y 2) !=0)=true ↔ ¬Int.tmod y 2=0:=λy=>by simp
 refine⟨λsb A=>A=H3/\(sb=true ↔ ¬(k=2/\(t=1\/t=2)/\Int.tmod a 2=0)),⟨k,by rw[aU g3];rfl,?_⟩,?_⟩
 ·by_cases h2:k=2
  ·rw[if_pos h2]
   refine⟨t,by rw[aS g3];rfl,?_⟩
   by_cases h1:t=1
   ·rw[if_pos h1]
    exact⟨a,by rw[aS g3];rfl,rfl,(key a).trans ⟨λq hh=>q hh.2.2,λq hh=>q ⟨h2,.inl h1,hh⟩⟩⟩
   ·rw[if_neg h1]
    refine⟨t,by rw[aS g3];rfl,?_⟩
    by_cases h3:t=2
    ·rw[if_pos h3]
     exact⟨a,by rw[aS g3];rfl,rfl,(key a).trans ⟨λq hh=>q hh.2.2,λq hh=>q ⟨h2,.inr h3,hh⟩⟩⟩
    ·rw[if_neg h3]
     exact⟨rfl,⟨λ_ hh=>by rcases hh.2.1 with e | e;exact h1 e;exact h3 e,λ_=>rfl⟩⟩
  ·rw[if_neg h2]
   exact⟨rfl,⟨λ_ hh=>h2 hh.1,λ_=>rfl⟩⟩
 rintro sb A ⟨rfl,hsb⟩
 by_cases hc:k=2/\(t=1\/t=2)/\Int.tmod a 2=0
 case neg=>
  rw[if_pos (hsb.2 hc)]
  refine no (λhp=>hc ?_) e13
  have hk:k=2:=hka.2 (by rcases hp.1 with q | q<;>exact q.1)
  obtain⟨rfl,rfl⟩:=ha2 hk
  have:=hp.2
  exact⟨hk,by rcases hp.1 with q | q;exact .inl q.2.1;exact .inr q.2.1,by rw[gP (by omega)];exact this⟩
 rw[if_neg (λq=>hsb.1 q hc)]
 obtain⟨hk,ht,hev⟩:=hc
 obtain⟨rfl,rfl⟩:=ha2 hk
 have hadr:=hka.1 hk
 rw[gP (by omega)]at hev
 have h3:=h.ext e13
 have hlt8:=hadr.2
 refine⟨_,rfl,_,h3.hPtr,_,rfl,_,h3.cd.cPtr,_,rfl,_,h3.cd.sp.mPtr,w / 8,by rw[aS g3];rfl,?_⟩
 refine HC.mono (jy h3.cd.sp.mem ok ⟨by omega,by omega⟩) ?_
 rintro v H5 ⟨⟨ra,rb,rc,rfl,hwd⟩,rfl⟩
 refine⟨ra,rb,rc,rfl,?_⟩
 rcases hwd with⟨hu,rfl,rfl,i,rfl,hi⟩ | ⟨hu,rfl⟩
 case inr=>rw[if_neg (by decide)];exact no (λhh=>hu (pq hw hh)) e13
 rw[if_pos rfl]
 refine⟨w / 8,by rw[aS g3];rfl,?_⟩
 rw[gP (by omega),if_pos rfl]
 have hm3:=h3.cd.sp.mem
 obtain⟨p,hp,_,hlt,hkL,hat',hrow⟩:=hm3.row hi
 have hc2:=hat' 2 _ rfl
 refine⟨_,h3.hPtr,_,rfl,_,h3.cd.cPtr,_,rfl,_,h3.cd.sp.mPtr,_,rfl,_,_,_,hm3.slAt,p,hp,⟨by omega,by omega⟩,(s.mem.seg (w / 8 / 64).toNat).kind,by rw[Int.toNat_natCast,fG];exact hc2,w % 8,by rw[aS g3];rfl,?_⟩
 rw[w64 (n:=w % 8-1) (by omega)]
 by_cases hkd:(s.mem.seg (w / 8 / 64).toNat).kind=w % 8-1
 ·rw[if_pos hkd]
  have hP:s.mem.isPair w:=by
   refine⟨?_,hev⟩
   rcases ht with e | e
   ·exact .inl ⟨hadr,e,hu.2.1,by omega,hu.2.2⟩
   ·exact .inr ⟨hadr,e,hu.2.1,by omega,hu.2.2⟩
  exact⟨w / 8,by rw[aS g3];rfl,hR _ _ ⟨by rw[if_pos hP],e13⟩⟩
 ·rw[if_neg hkd]
  refine no (λhh=>hkd ?_) e13
  rcases hh.1 with q | q
  ·rw[q.2.2.2.1,q.2.1];rfl
  ·rw[q.2.2.2.1,q.2.1];rfl
theorem ly{H:zW}{q:RB}{r:RM}{s:Sp}{ep w i:Int}(h:RHAt H q r s ep)(ok:cF s.mem)(hw:aM w)(hi:0<=i/\i<=1):
  cf.C (some ⟨q.h,0,none⟩) w i H (λv H'=>v=.tuple #[.int .u64 (if s.mem.halfE w i=0 then s.mem.get (w / 8+i)else 0),.int .i64 (s.mem.halfE w i)]/\Ext H H'):=by
 refine HC.via λR hR=>cf.link ?_
 unfold cf.pt zq
 refine HC.mono (jB h ok hw) ?_
 rintro _ H1 ⟨rfl,e1⟩
 refine⟨_,rfl,?_⟩
 have hw0:=hw.1
 have hw1:=hw.2
 by_cases hp:s.mem.isPair w
 case neg=>
  rw[if_neg hp,if_pos (by decide)]
  refine hR _ _ ⟨?_,e1⟩
  unfold Mem.halfE;rw[if_neg hp,if_neg (by decide)]
 rw[if_pos hp,if_neg (by omega)]
 have h1:=h.ext e1
 have hb:w / 8<65536:=by rcases hp.1 with q | q<;>exact q.1.2
 refine⟨_,rfl,_,h1.hPtr,_,rfl,_,h1.cd.cPtr,_,rfl,_,h1.cd.sp.mPtr,?_⟩
 rw[w64 (n:=w / 8+i) (by omega)]
 refine HC.mono (jz h1.cd.sp.mem ok ⟨by omega,by omega⟩) ?_
 rintro _ _ ⟨rfl,rfl⟩
 refine⟨_,_,rfl,hR _ _ ⟨?_,e1⟩⟩
 unfold Mem.halfE
 rw[if_pos hp]
 by_cases hu:s.mem.used (w / 8+i)
 ·rw[if_pos hu,if_pos hu,if_pos rfl]
 ·rw[if_neg hu,if_neg hu,if_neg (by decide)]
theorem mn{H:zW}{q:RB}{r:RM}{b:Blk}{x:Hp}{ep w i v:Int}(h:RHAt H q r x.sp ep)(ok:SpOK x.sp)(hw:aM w)(hv:aM v)(hi:0<=i/\i<=1):
  bT.C (some ⟨q.h,0,none⟩) w i v H (λu H'=>u=.int .i64 (lr (some (b,x)) w i v)/\RHAt H' q r (spo (kx (some (b,x)) w i v)) ep/\Fr (q.all r) H H'):=by
 refine HC.via λR hR=>bT.link ?_
 unfold bT.pt zq
 refine HC.mono (jB h ok.mem hw) ?_
 rintro _ H1 ⟨rfl,e1⟩
 refine⟨_,rfl,?_⟩
 have hw0:=hw.1
 have eE:lr (some (b,x)) w i v=if x.sp.mem.isPair w then(x.sp.mem.store (w / 8+i) v).2 else 3:=rfl
 have eO:spo (kx (some (b,x)) w i v)={x.sp with mem:=if x.sp.mem.isPair w then(x.sp.mem.store (w / 8+i) v).1 else x.sp.mem}:=rfl
 rw[eE,eO]at hR
 have h1:=h.ext e1
 by_cases hp:x.sp.mem.isPair w
 case neg=>
  rw[if_neg hp,if_pos (by decide)]
  rw[if_neg hp,if_neg hp]at hR
  exact hR _ _ ⟨rfl,h1,e1.fr⟩
 rw[if_pos hp,if_neg (by omega)]
 rw[if_pos hp,if_pos hp]at hR
 have hb:w / 8<65536:=by rcases hp.1 with q | q<;>exact q.1.2
 refine⟨_,rfl,_,h1.hPtr,?_⟩
 rw[w64 (n:=w / 8+i) (by omega)]
 refine HC.mono (kT h1.cd ok.mem ⟨by omega,by omega⟩ hv) ?_
 rintro _ H2 ⟨rfl,c2,f2⟩
 exact⟨_,rfl,hR _ _ ⟨rfl,⟨c2,f2.get h1.ne.2.2 h1.h,h1.ne⟩,e1.fr.trans (f2.mono λb hb _=>by simp[RB.all,hb])⟩⟩
theorem oo{H:zW}{q:RB}{r:RM}{s:Sp}{ep w:Int}(h:RHAt H q r s ep)(ok:cF s.mem)(hw:aM w):
  cM.C (some ⟨q.h,0,none⟩) w H (λv H'=>v=.int .i64 (s.mem.sizeOf w)/\Ext H H'):=by
 refine HC.via λR hR=>cM.link ?_
 unfold cM.pt zq
 refine HC.mono (jB h ok hw) ?_
 rintro _ H1 ⟨rfl,e1⟩
 refine⟨_,rfl,?_⟩
 have hw0:=hw.1
 by_cases hp:s.mem.isPair w
 ·rw[if_pos hp,if_pos (by omega)]
  exact hR _ _ ⟨by unfold Mem.sizeOf;rw[if_pos hp],e1⟩
 rw[if_neg hp,if_neg (by decide)]
 refine HC.mono (iz (h.ext e1) ok hw) ?_
 rintro _ H2 ⟨⟨a,k,t,l,xx,m,rfl,ho⟩,e2⟩
 refine⟨a,k,t,l,xx,m,rfl,λb3 H3 hb3 hH3=>?_⟩
 obtain⟨p1,p2⟩:=fE (vs:=[.int .i64 k,.int .i64 t,.int .i64 l,.int .i64 xx,.int .u64 m]) hb3 hH3 rfl rfl
 refine⟨p1,λH4 hH4=>?_⟩
 obtain⟨g4,e4⟩:=p2 H4 hH4
 have e14:=(e1.trans e2).trans e4
 rcases ho with⟨hO,rfl,rfl,rfl,rfl⟩ | ⟨hO,rfl,rfl,rfl,rfl⟩
 ·rw[if_pos (by omega)]
  have hle:s.mem.len w=hn (s.mem.get (w / 8)):=by unfold Mem.len;rw[if_pos hO]
  have hl:=hO.len_lt
  refine⟨_,by rw[aS g4];rfl,hR _ _ ⟨?_,e14⟩⟩
  have h62:=hO.2.1.2
  rw[w64 (n:=hn (s.mem.get (w / 8))+1) (by unfold hn at*;omega)]
  unfold Mem.sizeOf;rw[if_neg hp,if_pos hO,hle]
 ·rw[if_neg (by decide)]
  exact hR _ _ ⟨by unfold Mem.sizeOf;rw[if_neg hp,if_neg hO],e14⟩
theorem nm{H:zW}{q:RB}{r:RM}{b:Blk}{x:Hp}{ep n fill:Int}(h:RHAt H q r x.sp ep)(ok:SpOK x.sp)(hf:aM fill)(hn:I64 n):
  bY.C (some ⟨q.h,0,none⟩) n fill H (λv H'=>v=.tuple #[.int .u64 (vecR (some (b,x)) n fill).1,.int .i64 (vecR (some (b,x)) n fill).2]/\ks H H' q r (spo (vecO (some (b,x)) n fill)) ep/\Fr (q.all r) H H'):=by
 refine HC.via λR hR=>bY.link ?_
 unfold bY.pt zq
 by_cases h1:n<0
 ·rw[if_pos h1]
  have e:vecR (some (b,x)) n fill=(0,4):=by unfold vecR;rw[if_pos h1]
  have e2:vecO (some (b,x)) n fill=some (b,x):=by unfold vecO;rw[if_pos (.inl h1)]
  rw[e,e2]at hR
  exact hR _ _ ⟨rfl,.same h,Fr.refl _ _⟩
 rw[if_neg h1]
 by_cases h2:n>62
 ·rw[if_pos h2]
  have e:vecR (some (b,x)) n fill=(0,6):=by unfold vecR;rw[if_neg h1,if_pos (by omega)]
  have e2:vecO (some (b,x)) n fill=some (b,x):=by unfold vecO;rw[if_pos (.inr (by omega))]
  rw[e,e2]at hR
  exact hR _ _ ⟨rfl,.same h,Fr.refl _ _⟩
 rw[if_neg h2]
 have e:vecR (some (b,x)) n fill=hZ (some (b,x)) 1 0 (List.replicate n.toNat fill):=by unfold vecR;rw[if_neg h1,if_neg (by omega)]
 have e2:vecO (some (b,x)) n fill=ii (some (b,x)) 1 0 (List.replicate n.toNat fill):=by unfold vecO;rw[if_neg (by omega)]
 rw[e,e2]at hR
 refine⟨λlB lN lC i A=> ∃k:Nat,i=k/\(k:Int)<=n/\lN=k/\Own A 33 1 lB lN lC (wvs (List.replicate k fill))/\(∀j∈blks lB,H.size<=j)/\Ext H A,λ_ _ _ i _=>(n-i).toNat,⟨0,rfl,by omega,rfl,gH,by simp,Ext.refl _⟩,?_⟩
 rintro lB lN lC _ A ⟨k,rfl,hk,rfl,ho,hlB,eA⟩
 by_cases hlt:(lN:Int)<n
 ·rw[if_pos hlt]
  intro b2 H2 hb2 hH2
  have e2':Ext A H2:=Ext.push' hH2
  refine cZ (ys:=wvs [fill]) (ho.ext e2') (dH (aO hb2 hH2) _ 0 0 (λj hj=>by simp at hj;subst hj;rfl)) rfl (gM _) rfl (by omega) ?_
  intro p' c' H3 o3 f3 hn3
  have hw:IntKind.wrap .i64 ((lN:Int)+1)=((lN+1:Nat):Int):=by rw[w64 (n:=(lN:Int)+1) (by omega)];omega
  rw[hw]
  have zA:=eA.size
  have z2:=e2'.size
  refine⟨⟨lN+1,rfl,by omega,rfl,?_,λj hj=>?_,(eA.trans e2').fr_trans f3 hlB⟩,by show(n-((lN+1:Nat):Int)).toNat< (n-(lN:Int)).toNat;omega⟩
  ·have:wvs (List.replicate (lN+1) fill)=wvs (List.replicate lN fill)++wvs [fill]:=by
    rw[List.replicate_succ'];unfold wvs;rw[List.map_append]
   rw[this];exact o3
  ·rcases hn3 j hj with h | h
   ·exact hlB j h
   ·omega
 rw[if_neg hlt]
 have hke:n.toNat=lN:=by omega
 rw[hke]at hR
 refine HC.mono (jA (b:=b) (h.ext eA) ok ho.src (by simp) (λw hw=>by rw[List.eq_of_mem_replicate hw];exact hf) (by decide) (by simp;omega)) ?_
 rintro _ H4 ⟨rfl,⟨r',hs,hbm,hbs⟩,f4⟩
 exact⟨_,_,rfl,hR _ _ ⟨rfl,⟨r',hs,hbm,λi hi=>(hbs i hi).imp id (λh=>by have:=eA.size;omega)⟩,eA.fr.trans f4⟩⟩

theorem nC{H:zW}{s:ByteArray}(hl:s.size<=70368744177664):
  dW.C s H (λv H'=> ∃(b c:Nat),v=.slice (some ⟨b,0,none⟩) (gi s).length c/\Own H' 21 1 (some ⟨b,0,none⟩) (gi s).length c (i32s (gi s))/\H.size<=b/\Ext H H'):=by
 refine HC.via λR hR=>dW.link ?_
 unfold dW.pt
 exact qj hl (λc b H' hb ho e=>hR _ _ ⟨b,c,rfl,ho,by omega,e⟩)
theorem np{H:zW}{q:RB}{r:RM}{b:Blk}{x:Hp}{ep:Int}{s:ByteArray}(h:RHAt H q r x.sp ep)(ok:SpOK x.sp)(hl:s.size<=70368744177664):
  bZ.C (some ⟨q.h,0,none⟩) s H (λv H'=>v=.tuple #[.int .u64 (strR (some (b,x)) s).1,.int .i64 (strR (some (b,x)) s).2]/\ks H H' q r (spo (strO (some (b,x)) s)) ep/\Fr (q.all r) H H'):=by
 refine HC.via λR hR=>bZ.link ?_
 unfold bZ.pt zq
 refine HC.mono (nC hl) ?_
 rintro _ H1 ⟨b1,c1,rfl,o1,hb1,e1⟩
 refine⟨_,_,_,rfl,?_⟩
 by_cases h62:62< (gi s).length
 ·rw[if_pos (by omega)]
  have e:strR (some (b,x)) s=(0,6):=by unfold strR;rw[if_pos h62]
  have e2:strO (some (b,x)) s=some (b,x):=by unfold strO;rw[if_pos h62]
  rw[e,e2]at hR
  exact hR _ _ ⟨rfl,.same (h.ext e1),e1.fr⟩
 rw[if_neg (by omega)]
 have e:strR (some (b,x)) s=hZ (some (b,x)) 2 0 (gi s):=by unfold strR;rw[if_neg h62]
 have e2:strO (some (b,x)) s=ii (some (b,x)) 2 0 (gi s):=by unfold strO;rw[if_neg h62]
 rw[e,e2]at hR
 have hrw:=ki s
 generalize gi s=rs at*
 refine⟨λlB lN lC i A=> ∃k:Nat,i=k/\k<=rs.length/\lN=k/\Own A 33 1 lB lN lC (wvs (rs.take k))/\(∀j∈blks lB,H1.size<=j)/\Ext H1 A,λ_ _ _ i _=>((rs.length:Int)-i).toNat,⟨0,rfl,by omega,rfl,gH,by simp,Ext.refl _⟩,?_⟩
 rintro lB lN lC _ A ⟨k,rfl,hk,rfl,ho,hlB,eA⟩
 by_cases hlt:(lN:Int)< (rs.length:Int)
 ·rw[if_pos hlt]
  have hkl:lN<rs.length:=by omega
  obtain⟨a,ha,hat1⟩:=(o1.ext eA).at (j:=lN) (v:=.int .i32 rs[lN]) (by simp[i32s,hkl])
  refine⟨a,ha,⟨by omega,hlt⟩,rs[lN],by rw[show Int.toNat (lN:Int)*1=lN by omega];exact hat1,λb2 H2 hb2 hH2=>?_⟩
  have hw:=hrw _ (List.getElem_mem hkl)
  rw[wu64 (n:=rs[lN]) ⟨hw.1,by have:=hw.2;omega⟩]at hH2
  have e2':Ext A H2:=Ext.push' hH2
  refine cZ (ys:=wvs [rs[lN]]) (ho.ext e2') (dH (aO hb2 hH2) _ 0 0 (λj hj=>by simp at hj;subst hj;rfl)) rfl (gM _) rfl (by omega) ?_
  intro p' c' H3 o3 f3 hn3
  have hwr:IntKind.wrap .i64 ((lN:Int)+1)=((lN+1:Nat):Int):=by rw[w64 (n:=(lN:Int)+1) (by omega)];omega
  rw[hwr]
  have zA:=eA.size
  have z2:=e2'.size
  refine⟨⟨lN+1,rfl,by omega,rfl,?_,λj hj=>?_,(eA.trans e2').fr_trans f3 hlB⟩,by show((rs.length:Int)-((lN+1:Nat):Int)).toNat< ((rs.length:Int)-(lN:Int)).toNat;omega⟩
  ·have:wvs (rs.take (lN+1))=wvs (rs.take lN)++wvs [rs[lN]]:=by
    rw[List.take_succ_eq_append_getElem hkl];unfold wvs;rw[List.map_append]
   rw[this];exact o3
  ·rcases hn3 j hj with h | h
   ·exact hlB j h
   ·omega
 rw[if_neg hlt]
 rw[List.take_of_length_le (by omega)]at ho
 have e1A:=e1.trans eA
 refine HC.mono (jA (b:=b) (h.ext e1A) ok ho.src (by omega) hrw (by decide) (by omega)) ?_
 rintro _ H4 ⟨rfl,⟨r',hs,hbm,hbs⟩,f4⟩
 exact⟨_,_,rfl,hR _ _ ⟨rfl,⟨r',hs,hbm,λi hi=>(hbs i hi).imp id (λh=>by have:=e1A.size;omega)⟩,e1A.fr.trans f4⟩⟩
theorem qm{c:Int}(h: ¬(0<=c/\ia c=true)):Utf8.encode c=Utf8.encode 65533:=by
 have hv:Utf8.valid c=false:=by
  unfold Utf8.valid
  unfold ia at h
  simp only[Bool.and_eq_true,Bool.or_eq_true,decide_eq_true_eq]at h
  simp
  omega
 unfold Utf8.encode
 rw[hv]
 rfl
def gJ(x:Int):Int:=if x<=1114111/\ia x=true then x else 65533
theorem qn: ∀(ws:List Int),(∀w∈ws,0<=w)->il (ws.map gJ)=jF ws:=by
 intro ws hw
 unfold jF il
 have key: ∀(l:List Int) (s:ByteArray),(∀w∈l,0<=w)->(l.map gJ).foldl (λs n=>s++Utf8.encode n) s=(l.map λx=>if x>1114111 then 65533 else x).foldl (λs n=>s++Utf8.encode n) s:=by
  intro l
  induction l with
  | nil=>intro s _;rfl
  | cons y l ih=>
   intro s hl
   simp only[List.map_cons,List.foldl_cons]
   have hy:=hl y (by simp)
   have e:Utf8.encode (gJ y)=Utf8.encode (if y>1114111 then 65533 else y):=by
    unfold gJ
    by_cases h1:y>1114111
    ·rw[if_neg (by omega),if_pos h1]
    ·rw[if_neg h1]
     by_cases h2:ia y=true
     ·rw[if_pos ⟨by omega,h2⟩]
     ·rw[if_neg (λq=>h2 q.2)]
      exact(qm (λq=>h2 q.2)).symm
   rw[e]
   exact ih _ (λw hw=>hl w (by simp[hw]))
 exact key ws _ hw
theorem oq{H:zW}{q:RB}{r:RM}{s:Sp}{ep w:Int}(h:RHAt H q r s ep)(ok:cF s.mem)(hw:aM w):
  cN.C (some ⟨q.h,0,none⟩) w H (λv H'=>v=(if s.mem.isObj w/\s.mem.typ w=2 then .tuple #[.string (jF (s.mem.objWords w)),.int .i64 0]else .tuple #[.string ⟨#[]⟩,.int .i64 3])/\Ext H H'):=by
 refine HC.via λR hR=>cN.link ?_
 unfold cN.pt zq
 refine HC.mono (iz h ok hw) ?_
 rintro v H1 ⟨⟨a,k,t,l,xx,m,rfl,ho⟩,e1⟩
 refine⟨a,k,t,l,xx,m,rfl,λb2 H2 hb2 hH2=>?_⟩
 obtain⟨p1,p2⟩:=fE (vs:=[.int .i64 k,.int .i64 t,.int .i64 l,.int .i64 xx,.int .u64 m]) hb2 hH2 rfl rfl
 refine⟨p1,λH3 hH3=>?_⟩
 obtain⟨g3,e3⟩:=p2 H3 hH3
 have e13:=e1.trans e3
 have hw0:=hw.1
 have no: ¬(s.mem.isObj w/\s.mem.typ w=2)->R (.tuple #[.string (ByteArray.mk #[]),.int .i64 3]) H3:=λhn=>hR _ _ ⟨by rw[if_neg hn],e13⟩
 rcases ho with⟨hO,rfl,rfl,rfl,rfl⟩ | ⟨hO,rfl,rfl,rfl,rfl⟩
 case inr=>rw[if_pos (by decide)];exact no (λq=>hO q.1)
 have hty:s.mem.typ w=hk (s.mem.get (w / 8)):=by unfold Mem.typ;rw[if_pos hO]
 have hle:s.mem.len w=hn (s.mem.get (w / 8)):=by unfold Mem.len;rw[if_pos hO]
 have hw8:w / 8<65536:=hO.1.1.2
 have hlr:=hO.len_lt
 have hn0:0<=hn (s.mem.get (w / 8)):=by unfold hn;omega
 rw[if_neg (by omega)]
 refine⟨_,by rw[aS g3];rfl,?_⟩
 by_cases ht:hk (s.mem.get (w / 8))=2
 case neg=>rw[if_neg ht];exact no (λq=>ht (by rw[<-hty];exact q.2))
 rw[if_pos ht]
 have hyes:s.mem.isObj w/\s.mem.typ w=2:=⟨hO,by rw[hty];exact ht⟩
 have hwl:=Mem.objWords_len s.mem w
 have hob0: ∀y∈s.mem.objWords w,0<=y:=λy hy=>by
  unfold Mem.objWords at hy
  obtain⟨i,_,rfl⟩:=List.mem_map.1 hy
  exact((ok.seg _).words _).1
 have hrs:il ((s.mem.objWords w).map gJ)=jF (s.mem.objWords w):=qn _ hob0
 refine⟨λoB oN oC i A=> ∃j:Nat,i=j/\j<=(s.mem.objWords w).length/\oN=j/\Own A 21 1 oB oN oC (i32s (((s.mem.objWords w).take j).map gJ))/\(∀z∈blks oB,H3.size<=z)/\Ext H3 A,λ_ _ _ i _=>(((s.mem.objWords w).length:Int)-i).toNat,⟨0,rfl,by omega,rfl,gH,by simp,Ext.refl _⟩,?_⟩
 rintro oB oN oC _ A ⟨j,rfl,hj,rfl,ho,hoB,eA⟩
 refine⟨_,by rw[aS (eA.get g3)];rfl,?_⟩
 by_cases hlt:(oN:Int)<hn (s.mem.get (w / 8))
 case neg=>
  rw[if_neg hlt]
  rw[List.take_of_length_le (by omega)]at ho
  refine⟨(s.mem.objWords w).map gJ,⟨ho.src,λ_=>by rw[List.length_map];omega⟩,hR _ _ ⟨by rw[if_pos hyes,hrs],e13.trans eA⟩⟩
 rw[if_pos hlt]
 have hjl:oN< (s.mem.objWords w).length:=by omega
 have hA:=h.ext (e13.trans eA)
 refine⟨_,rfl,_,hA.hPtr,_,rfl,_,hA.cd.cPtr,_,rfl,_,hA.cd.sp.mPtr,?_⟩
 rw[w64 (n:=w / 8+1) (by omega),w64 (n:=w / 8+1+(oN:Int)) (by omega)]
 refine HC.mono (jz hA.cd.sp.mem ok ⟨by omega,by omega⟩) ?_
 rintro _ A5 ⟨rfl,hA5⟩
 obtain rfl:A=A5:=hA5.symm
 have hu:s.mem.used (w / 8+1+(oN:Int)):=hO.used hw (ok.seg _).n.2 ⟨by omega,by omega⟩
 rw[if_pos hu,if_pos hu]
 refine⟨_,_,rfl,?_⟩
 have hel:(s.mem.objWords w)[oN]=s.mem.get (w / 8+1+(oN:Int)):=Mem.objWords_get _ _ hjl
 have hge:=hob0 _ (List.getElem_mem hjl)
 rw[<-hel]
 have hwr:IntKind.wrap .i64 ((oN:Int)+1)=((oN+1:Nat):Int):=by rw[w64 (n:=(oN:Int)+1) (by omega)];omega
 rw[hwr]
 have step: ∀{A':zW} {y:Int},Ext A A'->y=gJ (s.mem.objWords w)[oN]-> ∀(b3:Nat) (H9:zW),b3=A'.size->H9=A'.push (.cells #[.int .i32 y] 21)->
   bW 1 21 4 [.int .i32 0] oB oN oC (some (Addr.mk b3 0 none)) 1 H9 (λap apC H10=>
    (∃j:Nat,((oN+1:Nat):Int)=j/\j<=(s.mem.objWords w).length/\oN+1=j/\Own H10 21 1 ap (oN+1) apC (i32s (((s.mem.objWords w).take j).map gJ))/\(∀z∈blks ap,H3.size<=z)/\Ext H3 H10)/\(((s.mem.objWords w).length:Int)-((oN+1:Nat):Int)).toNat< (((s.mem.objWords w).length:Int)-(oN:Int)).toNat):=λ{A' y} e' hy b3 H9 hb3 hH9=>by
  have e9:Ext A' H9:=Ext.push' hH9
  have e09:=e'.trans e9
  refine cZ (ys:=i32s [y]) (ho.ext e09) (dH (aO hb3 hH9) _ 0 0 (λz hz=>by simp[i32s]at hz;subst hz;rfl)) rfl rfl rfl (by omega) ?_
  intro p' c' H10 o10 f10 hn10
  have zA:=eA.size
  have z9:=e09.size
  refine⟨⟨oN+1,rfl,by omega,rfl,?_,λz hz=>?_,(eA.trans e09).fr_trans f10 hoB⟩,by omega⟩
  ·have:i32s (((s.mem.objWords w).take (oN+1)).map gJ)=i32s (((s.mem.objWords w).take oN).map gJ)++i32s [y]:=by
    rw[List.take_succ_eq_append_getElem hjl,List.map_append];unfold i32s;rw[List.map_append,hy];rfl
   rw[this];exact o10
  ·rcases hn10 z hz with h | h
   ·exact hoB z h
   ·omega
 by_cases h1:(s.mem.objWords w)[oN]<=1114111
 ·rw[if_pos h1,wi32 (by omega)]
  refine HC.mono mY ?_
  rintro _ H6 ⟨rfl,e6⟩
  refine⟨_,rfl,?_⟩
  rw[zQ hge,Bool.true_and]
  by_cases h2:ia (s.mem.objWords w)[oN]=true
  ·rw[if_pos h2]
   exact step e6 (by unfold gJ;rw[if_pos ⟨h1,h2⟩])
  ·rw[if_neg h2]
   exact step e6 (by unfold gJ;rw[if_neg (λq=>h2 q.2)])
 ·rw[if_neg h1]
  exact step (Ext.refl _) (by unfold gJ;rw[if_neg (λq=>h1 q.1)])

theorem rW{H:zW}{aB bB:zY}{aC bC:Nat}{xs ys:List Int}(ha:cY H aB (bvs xs))(hb:cY H bB (bvs ys))(hl:xs.length<=1000000/\ys.length<=1000000):
  dQ.C aB xs.length aC bB ys.length bC H (λv H'=>v=.bool (jY xs ys)/\H'=H):=by
 refine HC.via λR hR=>dQ.link ?_
 unfold dQ.pt zq
 by_cases he:(xs.length:Int)=(ys.length:Int)
 case neg=>
  rw[if_neg he]
  exact hR _ _ ⟨by unfold jY;rw[if_neg (by omega)];congr 1;exact decide_eq_decide.2 (by omega),rfl⟩
 rw[if_pos he]
 have hL:jY xs ys=kV xs ys xs.length:=by unfold jY;rw[if_pos (by omega)]
 refine⟨λi A=>A=H/\ ∃k:Nat,i=(k:Int)-1/\k<=xs.length/\kV xs ys xs.length=kV xs ys k,λi _=>(i+1).toNat,⟨rfl,xs.length,by rw[w64 (by omega)],Nat.le_refl _,rfl⟩,?_⟩
 rintro _ _ ⟨rfl,k,rfl,hk,hq⟩
 by_cases hpos:(k:Int)-1>=0
 case neg=>
  rw[if_neg hpos]
  have:k=0:=by omega
  subst this
  exact hR _ _ ⟨by rw[hL,hq];rfl,rfl⟩
 rw[if_pos hpos]
 obtain⟨j,rfl⟩: ∃j,k=j+1:=⟨k-1,by omega⟩
 have hjx:j<xs.length:=by omega
 have hjy:j<ys.length:=by omega
 have htn:Int.toNat (((j+1:Nat):Int)-1)=j:=by omega
 obtain⟨a,a1,a2⟩:=mu ha hjx
 obtain⟨b,b1,b2⟩:=mu hb hjy
 refine⟨a,a1,⟨hpos,by omega⟩,xs[j],by rw[htn];exact a2,b,b1,⟨hpos,by omega⟩,ys[j],by rw[htn];exact b2,?_⟩
 have ex:xs.getD j 0=xs[j]:=by rw[List.getD,List.getElem?_eq_getElem hjx];rfl
 have ey:ys.getD j 0=ys[j]:=by rw[List.getD,List.getElem?_eq_getElem hjy];rfl
 by_cases hxy:xs[j]=ys[j]
 ·rw[if_pos hxy,w64 (n:=((j+1:Nat):Int)-1-1) (by omega)]
  refine⟨⟨rfl,j,by omega,by omega,?_⟩,by show(((j+1:Nat):Int)-1-1+1).toNat< (((j+1:Nat):Int)-1+1).toNat;omega⟩
  rw[hq]
  show(if xs.getD j 0=ys.getD j 0 then kV xs ys j else _)=_
  rw[ex,ey,if_pos hxy]
 ·rw[if_neg hxy]
  refine⟨⟨hpos,by omega⟩,xs[j],by rw[htn];exact a2,⟨hpos,by omega⟩,ys[j],by rw[htn];exact b2,hR _ _ ⟨?_,rfl⟩⟩
  rw[hL,hq]
  show Value.bool _=Value.bool (if xs.getD j 0=ys.getD j 0 then kV xs ys j else decide (xs.getD j 0<ys.getD j 0))
  rw[ex,ey,if_neg hxy]
theorem sR{H:zW}{na nb:Bool}{aB bB:zY}{aN aC bN bC:Nat}{xs ys:List Int}(ha:cY H aB (bvs xs))(hb:cY H bB (bvs ys))(hna:aN=xs.length)(hnb:bN=ys.length)(hl:xs.length<=1000000/\ys.length<=1000000):
  eG.C na aB aN aC nb bB bN bC H (λv H'=>v=.int .i64 (cmpV na xs nb ys)/\Ext H H'):=by
 subst hna
 subst hnb
 refine HC.via λR hR=>eG.link ?_
 unfold eG.pt
 intro b1 H1 hb1 hH1 b2 H2 hb2 hH2
 have e1:Ext H H1:=Ext.push' hH1
 have e2:Ext H1 H2:=Ext.push' hH2
 have e12:=e1.trans e2
 have g1:=e2.get (aO hb1 hH1)
 have g2:=aO hb2 hH2
 refine⟨na,by rw[aU g1];rfl,nb,by rw[aU g2];rfl,?_⟩
 by_cases hn:na=nb
 case neg=>
  rw[if_neg hn]
  refine⟨na,by rw[aU g1];rfl,?_⟩
  unfold cmpV at hR
  rw[if_neg hn]at hR
  cases na
  ·rw[if_neg (by decide)];exact hR _ _ ⟨rfl,e12⟩
  ·rw[if_pos rfl];exact hR _ _ ⟨rfl,e12⟩
 rw[if_pos hn]
 refine⟨_,_,_,aS g1 1,_,_,_,aS g2 1,_,_,_,aS g2 1,_,_,_,aS g1 1,HC.mono (rW (ha.ext e12) (hb.ext e12) hl) ?_⟩
 rintro _ _ ⟨rfl,rfl⟩
 refine⟨_,rfl,⟨by rw[js];exact aS g2 1,trivial⟩,⟨by rw[js];exact aS g1 1,trivial⟩,HC.mono (rW (hb.ext e12) (ha.ext e12) ⟨hl.2,hl.1⟩) ?_⟩
 rintro _ _ ⟨rfl,rfl⟩
 refine⟨_,rfl,na,by rw[aU g1];rfl,?_⟩
 unfold cmpV at hR
 rw[if_pos hn]at hR
 cases na
 ·rw[if_neg (by decide)]
  rw[if_neg (by decide)]at hR
  by_cases h1:jY xs ys=true
  ·rw[if_pos h1];exact hR _ _ ⟨by rw[if_pos h1],e12⟩
  ·rw[if_neg h1]
   by_cases h2:jY ys xs=true
   ·rw[if_pos h2];exact hR _ _ ⟨by rw[if_neg h1,if_pos h2],e12⟩
   ·rw[if_neg h2];exact hR _ _ ⟨by rw[if_neg h1,if_neg h2],e12⟩
 ·rw[if_pos rfl]
  rw[if_pos rfl]at hR
  by_cases h1:jY ys xs=true
  ·rw[if_pos h1];exact hR _ _ ⟨by rw[if_pos h1],e12⟩
  ·rw[if_neg h1]
   by_cases h2:jY xs ys=true
   ·rw[if_pos h2];exact hR _ _ ⟨by rw[if_neg h1,if_pos h2],e12⟩
   ·rw[if_neg h2];exact hR _ _ ⟨by rw[if_neg h1,if_neg h2],e12⟩
