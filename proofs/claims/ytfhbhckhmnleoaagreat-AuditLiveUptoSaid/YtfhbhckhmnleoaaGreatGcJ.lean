/-
 Acts of the law of traces (package morainelaw11): words of values, what is set. Proves nothing of any one statement.
-/
import Derived.Test.YtfhbhckhmnleoaaGreatRef01
import Derived.Test.YtfhbhckhmnleoaaGreatWord
import Derived.Test.YtfhbhckhmnleoaaGreatGcB
import Derived.Test.YtfhbhckhmnleoaaGreatWords
import Derived.Test.YtfhbhckhmnleoaaGreatFaudit1
import Derived.Test.YtfhbhckhmnleoaaGreatTrF
set_option linter.unusedVariables false
set_option linter.unusedSimpArgs false
set_option maxRecDepth 100000
namespace Go.Proofs.YtfhbhckhmnleoaaGreat
open Go
theorem EJ:type_of% @Int.emod_lt_of_pos:=@Int.emod_lt_of_pos
variable{H r:zV}{d:List Int}{i:Int->Nat}{j:Blk}{k:Hp}{o u:Int}{v:zW}
theorem OfIs.none{w k t a x m:Int}(h:OfIs w k t a x m):k=0 ↔ yU w=false:=by
 unfold OfIs at h
 unfold yU
 rcases h with h | h | h | h | h | h
 ·rw[qB h.1];exact⟨λe=>by omega,λe=>by simp at e⟩
 ·rw[za (by omega),qB h.1,zX h.2.1];exact⟨λe=>by omega,λe=>by simp at e⟩
 ·rw[za (by omega),za (by omega),qB h.1,za (by omega),zX (by omega)];exact⟨λe=>by omega,λe=>by simp at e⟩
 ·rw[za (by omega),za (by omega),qB h.1,qB h.2.1,h.2.2.1];exact⟨λe=>by omega,λe=>by simp at e⟩
 ·rw[za (by omega),za (by omega),za (by omega),qB h.1,zX h.2.1];exact⟨λe=>by omega,λe=>by simp at e⟩
 ·exact⟨λ_=>h.1,λ_=>h.2.1⟩
theorem w8(x:Nat)(e:x<2 ^ 64):x &&& (2 ^ 64-8)=x / 8*8:=by
 have b:(2 ^ 64-8:Nat)=(2 ^ 61-1)<<<3:=by decide
 have c:x / 8*8=(x>>>3)<<<3:=by rw[Nat.shiftRight_eq_div_pow,Nat.shiftLeft_eq]
 rw[b,c]
 refine Nat.eq_of_testBit_eq λi=>?_
 rw[Nat.testBit_and,Nat.testBit_shiftLeft,Nat.testBit_shiftLeft,Nat.testBit_shiftRight,Nat.testBit_two_pow_sub_one]
 by_cases a:3<=i
 ·rw[show 3+(i-3)=i by omega]
  by_cases d:i<64
  ·simp[a,show i-3<61 by omega]
  ·have:x.testBit i=false:=Nat.testBit_lt_two_pow (DJ e (EH (by decide) (by omega)))
   simp[this]
 ·simp[a]
theorem rk(a:aD o):lu .u64 o 7=o / 8*8:=by
 unfold lu
 have e:(~~~BitVec.ofInt IntKind.u64.bits 7:BitVec IntKind.u64.bits).toNat=2 ^ 64-8:=by decide
 rw[BitVec.toNat_and,e,ku a.1 a.2,w8 _ (by have:=a.1;have:=a.2;omega),Ad (by have:=a.1;have:=a.2;omega)]
 have:=a.1
 omega
def zg(W Of:Int)(mw:List Int):Int:=if 0<Of/\0<mw.length then mw.getD ((Of-1) % mw.length).toNat 0 else if(W % 8=0\/W % 8=4)/\yU W=true then W else W / 8*8
theorem mi{W Of:Int}(a:aD W)(hm: ∀w∈d,aD w):aD (zg W Of d):=by
 unfold zg
 by_cases h:0<Of/\0<d.length
 ·rw[qB h]
  have b:((Of-1) % d.length).toNat<d.length:=by
   have:=Int.emod_nonneg (Of-1) (show(d.length:Int)≠0 by omega)
   have:=EJ (Of-1) (show(0:Int)<d.length by omega)
   omega
  rw[getD_at b];exact hm _ (CS _)
 ·rw[za h]
  split
  ·exact a
  ·have:=a.1;have:=a.2;constructor<;>omega
theorem mj{W Of:Int}{p:zW}{n c:Nat}(G:aD W)(Y:Ah Of)(z:Own H 28 1 p n c (yE d)):bC.C W Of p n c H (λv o=>v=vu (zg W Of d)/\Ext H o):=by
 refine HC.via λR i=>bC.link ?_
 unfold bC.pt zY
 intro b E S w
 have r:Ext H E:=CI w
 have I:=aF S w
 have hn:n=d.length:=by have:=z.len;simpa[yE]using this.symm
 subst hn
 refine⟨Of,by rw[CH,aI I];rfl,?_⟩
 by_cases h:0<Of/\0<d.length
 ·rw[qB (by simp only[CZ,CN];omega)]
  have e:Int.tmod (IntKind.wrap .i64 (Of-1)) (d.length:Int)=(Of-1) % d.length:=by rw[xT (by omega),jx (by omega)]
  have u:=Int.emod_nonneg (Of-1) (show(d.length:Int)≠0 by omega)
  have P:=EJ (Of-1) (show(0:Int)<d.length by omega)
  have N:zg W Of d=d.getD ((Of-1) % d.length).toNat 0:=by unfold zg;rw[qB h]
  rw[N]at i
  have hk:((Of-1) % d.length).toNat<d.length:=by omega
  obtain⟨a,Q,y⟩:=(z.ext r).at (j:=((Of-1) % d.length).toNat) (v:=vu (d.getD ((Of-1) % d.length).toNat 0)) (by rw[getD_at hk];simp[yE,hk])
  refine⟨Of,by rw[CH,aI I];rfl,by omega,a,Q,by rw[e];exact⟨u,P⟩,_,by rw[e,Dd];exact y,i _ _ ⟨rfl,r⟩⟩
 rw[za (by simp only[CZ,CN];omega)]
 have N:zg W Of d=if(W % 8=0\/W % 8=4)/\yU W=true then W else W / 8*8:=by unfold zg;rw[za h]
 rw[N]at i
 have f: ∀o,Ext E o->hat o (Addr.mk b 0 none)=some (vu W):=λo e=>e.hat (by rw[aI I];rfl)
 have L:yF .u64 W 7=W % 8:=oy 3 (by decide) G 7 (by decide)
 have s:(W % 8=0\/W % 8=4)-> ∃x:Int,hat E (Addr.mk b 0 none)=some (vu x)/\
   dK.C x E (λv q=> ∃g:Int,∃A:Int,∃V:Int,∃X:Int,∃l:Int,v=.agg #[vi g,vi A,vi V,vi X,vu l]/\
    if g=0 then(∃B:Int,hat q (Addr.mk b 0 none)=some (vu B)/\R (vu (lu .u64 B 7)) q)
    else∃D:Int,hat q (Addr.mk b 0 none)=some (vu D)/\R (vu D) q):=λU=>by
  refine⟨W,f _ (CW _),?_⟩
  refine HC.mono (ui G) ?_
  rintro v q ⟨k,t,a,x,m,rfl,M,F⟩
  refine⟨k,t,a,x,m,rfl,?_⟩
  have hn:=M.none
  by_cases hk:k=0
  ·rw[qB hk]
   have K:=hn.1 hk
   rw[za (λO=>by rw[K]at O;exact absurd O.2 (by decide))]at i
   exact⟨W,f _ F,by rw[rk G];exact i _ _ ⟨rfl,r.trans F⟩⟩
  ·rw[za hk]
   have K:yU W=true:=by
    cases T:yU W with
    | true=>rfl
    | false=>exact absurd (hn.2 T) hk
   rw[qB ⟨U,K⟩]at i
   exact⟨W,f _ F,i _ _ ⟨rfl,r.trans F⟩⟩
 refine⟨W,f _ (CW _),?_⟩
 rw[L]
 by_cases u:W % 8=0
 ·rw[qB u];exact s (.inl u)
 rw[za u]
 by_cases J:W % 8=4
 ·rw[qB J];exact s (.inr J)
 rw[za J]
 rw[za (by omega)]at i
 exact⟨W,f _ (CW _),by rw[rk G];exact i _ _ ⟨rfl,r⟩⟩
theorem ml{m:Mem}{W Of:Int}(hm: ∀w∈d,Good m i w):Good m i (zg W Of d):=by
 have a: ∀v:Int,v % 8=0\/v % 8=4->Good m i v:=λv h=>⟨by omega,λc=>by unfold aZ at c;omega⟩
 unfold zg
 by_cases h:0<Of/\0<d.length
 ·rw[qB h]
  have b:((Of-1) % d.length).toNat<d.length:=by
   have:=Int.emod_nonneg (Of-1) (show(d.length:Int)≠0 by omega)
   have:=EJ (Of-1) (show(0:Int)<d.length by omega)
   omega
  rw[getD_at b];exact hm _ (CS _)
 ·rw[za h]
  by_cases q:(W % 8=0\/W % 8=4)/\yU W=true
  ·rw[qB q];exact a W q.1
  ·rw[za q];exact a _ (.inl (by omega))
theorem oc(hm: ∀w∈d,FW w):FW (zg o u d):=by
 unfold zg
 by_cases h:0<u/\0<d.length
 ·rw[qB h]
  have a:((u-1) % d.length).toNat<d.length:=by
   have:=Int.emod_nonneg (u-1) (show(d.length:Int)≠0 by omega)
   have:=EJ (u-1) (show(0:Int)<d.length by omega)
   omega
  rw[getD_at a];exact hm _ (CS _)
 ·rw[za h]
  by_cases q:(o % 8=0\/o % 8=4)/\yU o=true
  ·rw[qB q];exact q.1.elim .inl (λe=> .inr (.inl ⟨e,q.2⟩))
  ·rw[za q];exact .inl (by omega)
theorem uV{s:Sl lj}{n c:Nat}(A:SlOK 2 gF maxLen H s)(G:Own H 28 1 v n c (yE d)):
  dG.C s.p s.n s.c v n c H (λZ l=> ∃q u k,Z=vs q u k/\u=((s.xs.take 62).map λZ=>zg Z.w Z.ofv d).length/\u<=62/\Own l 28 1 q u k (yE ((s.xs.take 62).map λZ=>zg Z.w Z.ofv d))/\Ext H l/\ ∀i,i∈kd q->H.size<=i):=by
 refine HC.via λR Q=>dG.link ?_
 unfold dG.pt zY
 have K:=A.len
 refine⟨λq m k i l=>(0<=i/\i<=s.n/\i<=62)/\m=i.toNat/\Own l 28 1 q m k (yE ((s.xs.take i.toNat).map λZ=>zg Z.w Z.ofv d))/\Ext H l/\ ∀j,j∈kd q->H.size<=j,λ_ _ _ i _=>(62-i).toNat,⟨by omega,rfl,by simpa using gI,CW _,by simp⟩,?_⟩
 rintro q m k i W ⟨V,rfl,E,o,I⟩
 by_cases g:i< (s.n:Int)/\i<62
 case neg=>
  rw[za (by simpa using g)]
  have e:s.xs.take i.toNat=s.xs.take 62:=by
   by_cases P:i<62
   ·rw[De (by omega),De (by omega)]
   ·rw[show i.toNat=62 by omega]
  have J:((s.xs.take i.toNat).map λZ=>zg Z.w Z.ofv d).length=i.toNat:=by rw[Dl,Di];omega
  rw[e]at E J
  exact Q _ _ ⟨q,_,k,rfl,J.symm,by omega,E,o,I⟩
 rw[qB (by simpa using g)]
 have f:i.toNat<s.xs.length:=by omega
 obtain⟨a,S,t⟩:=A.row i.toNat f
 refine⟨a,S,⟨V.1,g.1⟩,_,_,o.rowAt t,?_⟩
 have r:=A.each _ (CS f)
 refine HC.mono (mj (wf_u64 r.w) (wf_i64 r.ofv) (G.ext o)) ?_
 rintro _ L ⟨rfl,y⟩
 refine⟨_,rfl,λb M T p=>?_⟩
 have z:Ext L M:=CI p
 rw[xT (n:=i+1) (by omega)]
 have U:(62-(i+1)).toNat< (62-i).toNat:=by omega
 refine cI (ys:=yE [zg s.xs[i.toNat].w s.xs[i.toNat].ofv d]) ((E.ext y).ext z) (eJ (aF T p) _ 0 0 (λj B=>by
  simp only[yE,List.map_cons,List.map_nil,List.length_cons,List.length_nil]at B
  obtain rfl:j=0:=by omega
  rfl)) (by simp[yE]) (gO _) rfl (by omega) ?_
 intro Y X N F O D
 have x:Ext H N:=((o.trans y).trans z).fr_trans O I
 refine⟨⟨by omega,by omega,?_,x,λj B=>?_⟩,U⟩
 ·rw[show(i+1).toNat=i.toNat+1 by omega,Db f,C7]
  simpa[yE]using F
 ·rcases D j B with h | h
  ·exact I j h
  ·have:=((o.trans y).trans z).size;omega
theorem sV(x:Int):0<=yF .i64 x 65535/\yF .i64 x 65535<=65535:=by
 unfold yF
 have h:(BitVec.ofInt IntKind.i64.bits x &&& BitVec.ofInt IntKind.i64.bits 65535).toNat<=65535:=by
  rw[BitVec.toNat_and]
  exact Dz Nat.and_le_right (by decide)
 rw[xT (by omega)]
 omega
theorem vZ:dW.C o H (λv f=> ∃k:Int,v=vi k/\(k=1\/k=5\/k=2)/\Ext H f):=by
 refine HC.via λR e=>dW.link ?_
 unfold dW.pt
 intro b g i a
 have c:Ext H g:=CI a
 have d:=aF i a
 have j:=sV o
 rw[jx j.1]
 generalize yF .i64 o 65535=y at*
 refine⟨by omega,?_⟩
 rcases(show(y % 3).toNat=0\/(y % 3).toNat=1\/(y % 3).toNat=2 by omega)with h | h | h
 ·rw[h];exact⟨1,by rw[CH,aI d];rfl,e _ _ ⟨1,rfl,.inl rfl,c⟩⟩
 ·rw[h];exact⟨5,by rw[CH,aI d];rfl,e _ _ ⟨5,rfl,.inr (.inl rfl),c⟩⟩
 ·rw[h];exact⟨2,by rw[CH,aI d];rfl,e _ _ ⟨2,rfl,.inr (.inr rfl),c⟩⟩
structure Went (H H':zV) (b:Blk) (x:Hp) (sz:Int->Nat) (x':Hp) (sz':Int->Nat):Prop where
 view:View H' (some ⟨b.h,0,none⟩) (some (b,x'))
 inv:Inv x'.sp sz'
 lift:Lift x.sp.mem sz x'.sp.mem sz'
 cf:x'.sp.cf=x.sp.cf
 fr:Fr [b.sp,b.m,b.s] H H'
theorem Went.ext{b:Blk}(V:View H (some ⟨b.h,0,none⟩) (some (b,k)))(I:Inv k.sp i)(e:Ext H r):Went H r b k i k i:=⟨V.ext e,I,Lift.refl _ _,rfl,e.fr⟩
theorem Went.trans{C:zV}{b:Blk}{y z:Hp}{f g h:Int->Nat}(p:Went H r b k f y g)(q:Went r C b y g z h):Went H C b k f z h:=⟨q.view,q.inv,p.lift.trans q.lift,q.cf.trans p.cf,p.fr.trans q.fr⟩
theorem qh{x:Hp}{b:Int->Nat}{w i v:Int}(I:Inv x.sp b)(K:aD w)(C:Good x.sp.mem b w)(E:aD v)(l:Good x.sp.mem b v)(J:i=0\/i=1)(V:View r (some ⟨j.h,0,none⟩) (nT (some (j,x)) w i v))(f:Fr (own (some (j,x))) H r): ∃y,Went H r j x b y b/\Kp x.sp.mem b y.sp.mem b (FW v) True:=by
 have e:nT (some (j,x)) w i v=some (j,x.setMem (if x.sp.mem.isPair w then(x.sp.mem.store (w / 8+i) v).1 else x.sp.mem)):=rfl
 rw[e]at V
 refine⟨x.setMem (if x.sp.mem.isPair w then(x.sp.mem.store (w / 8+i) v).1 else x.sp.mem),?_⟩
 by_cases g:x.sp.mem.isPair w
 ·rw[qB g]at V⊢
  have s:=uT g
  have D:=mg s
  obtain⟨p,d⟩:=C.2 D
  have B:=(nH s).1 g
  have o:x.sp.mem.kAt (w / 8)<=1:=by
   unfold zL at d
   by_cases t:x.sp.mem.kAt (w / 8)=0
   ·rw[t];decide
   ·rw[za t]at d
    by_cases u:x.sp.mem.kAt (w / 8)=1
    ·rw[u];decide
    ·rw[za u]at d;exact absurd d B
  obtain⟨L,G⟩:=I.sound.two _ p o
  have m:i.toNat<b (w / 8):=by omega
  have c:=I.sound.usedAt p m (λk=>(I.ok.mem.seg k).n.2)
  rw[show((i.toNat:Nat):Int)=i by omega]at c
  obtain⟨z,F,A⟩:=I.store (x:=w / 8+i) E l (λa q hk e=>by
   have:x.sp.mem.kAt a=x.sp.mem.kAt (w / 8):=by rw[<-e];unfold Mem.kAt;rw[c.2.1]
   omega)
  exact⟨⟨V,z,F,A,f⟩,Kp.store (by omega) (λa q=>(I.sound.used a q).1)⟩
 ·rw[za g]at V⊢
  exact⟨⟨V,I,Lift.refl _ _,rfl,f⟩,.refl⟩
theorem uW{x:Hp}{d:Int->Nat}{w k i v:Int}(I:Inv x.sp d)(J:aD w)(D:Good x.sp.mem d w)(G:aD v)(n:Good x.sp.mem d v)(V:View r (some ⟨j.h,0,none⟩) (AR (some (j,x)) w k i v))(f:Fr (own (some (j,x))) H r): ∃y,Went H r j x d y d/\Kp x.sp.mem d y.sp.mem d (FW v) True:=by
 have e:AR (some (j,x)) w k i v=some (j,x.setMem (if x.sp.mem.fieldE w k i=0 then(x.sp.mem.store (w / 8+1+i) v).1 else x.sp.mem)):=rfl
 rw[e]at V
 refine⟨x.setMem (if x.sp.mem.fieldE w k i=0 then(x.sp.mem.store (w / 8+1+i) v).1 else x.sp.mem),?_⟩
 by_cases b:x.sp.mem.fieldE w k i=0
 ·rw[qB b]at V⊢
  have E:=b
  unfold Mem.fieldE at b
  by_cases l: ¬x.sp.mem.isObj w\/x.sp.mem.typ w≠k
  ·rw[qB l]at b;exact absurd b (by decide)
  rw[za l]at b
  by_cases B:i<0\/x.sp.mem.len w<=i
  ·rw[qB B]at b;exact absurd b (by decide)
  have t:x.sp.mem.isObj w:=Decidable.not_not.1 λq=>l (.inl q)
  have C:=t.1.2.1
  have F:aZ w:=.inr (.inr C)
  obtain⟨s,g⟩:=D.2 F
  have o:2<=x.sp.mem.kAt (w / 8):=by
   have:=(I.ok.mem.seg (w / 8 / 64).toNat).kind
   have e:x.sp.mem.kAt (w / 8)=(x.sp.mem.seg (w / 8 / 64).toNat).kind:=rfl
   unfold zL at g
   by_cases p:x.sp.mem.kAt (w / 8)=0
   ·rw[qB p]at g;omega
   ·rw[za p]at g
    by_cases u:x.sp.mem.kAt (w / 8)=1
    ·rw[qB u]at g;omega
    ·rw[e]at p u⊢;omega
  obtain⟨M,N,O⟩:=I.sound.obj _ s o
  have L:x.sp.mem.len w=hn (x.sp.mem.get (w / 8)):=by unfold Mem.len;rw[qB t]
  have c:=I.sound.within s (i:=(1+i).toNat) (by omega) (by omega)
  rw[show w / 8+(((1+i).toNat:Nat):Int)=w / 8+1+i by omega]at c
  obtain⟨z,K,A⟩:=I.store (x:=w / 8+1+i) G n (λa m hk e=>by rw[e]at c;exact m c)
  exact⟨⟨V,z,K,A,f⟩,Kp.store (by have:=J.1;omega) (λa m=>(I.sound.used a m).1)⟩
 ·rw[za b]at V⊢
  exact⟨⟨V,I,Lift.refl _ _,rfl,f⟩,.refl⟩
theorem v6{q:Int->Nat}{v:Int}(V:View H (some ⟨j.h,0,none⟩) (some (j,k)))(I:Inv k.sp q)(a:aD o)(E:Good k.sp.mem q o)(r:aD v)(p:Good k.sp.mem q v):
  eM.C (some ⟨j.h,0,none⟩) o u v H (λai M=>(∃ah:Int,ai=vi ah)/\ ∃f,Went H M j k q f q/\Kp k.sp.mem q f.sp.mem q (FW v) True):=by
 refine HC.via λR x=>eM.link ?_
 unfold eM.pt
 have b: ∀{A:zV} {ah:Int},Ext H A->R (vi ah) A:=λ{A ah} e=>x _ _ ⟨⟨ah,rfl⟩,k,Went.ext V I e,.refl⟩
 refine HC.mono (nD V a) ?_
 rintro _ H1 ⟨rfl,w⟩
 refine⟨_,rfl,?_⟩
 by_cases F:(decide ((yP (some (j,k))).isPair o) && (yF .i64 (yF .i64 u 65535) 1==0))=true
 ·rw[qB F]
  refine HC.mono (rO (V.ext w) a r) ?_
  rintro _ H2 ⟨rfl,P,f2⟩
  obtain⟨f,W,K⟩:=qh (i:=0) I a E r p (.inl rfl) P f2
  exact⟨_,rfl,x _ _ ⟨⟨_,rfl⟩,f,(Went.ext V I w).trans W,K⟩⟩
 rw[za F]
 refine HC.mono (nD (V.ext w) a) ?_
 rintro _ H3 ⟨rfl,S⟩
 have c:=w.trans S
 refine⟨_,rfl,?_⟩
 by_cases G:decide ((yP (some (j,k))).isPair o)=true
 ·rw[qB G]
  refine HC.mono (nU (V.ext c) a r) ?_
  rintro _ H4 ⟨rfl,Q,f4⟩
  obtain⟨f,W,K⟩:=qh (i:=1) I a E r p (.inr rfl) Q f4
  exact⟨_,rfl,x _ _ ⟨⟨_,rfl⟩,f,(Went.ext V I c).trans W,K⟩⟩
 rw[za G]
 refine HC.mono (jN (V.ext c) a) ?_
 rintro _ H5 ⟨rfl,T⟩
 have g:=c.trans T
 refine⟨_,rfl,?_⟩
 by_cases J:(yP (some (j,k))).typ o=0
 ·rw[qB J];exact b g
 rw[za J]
 refine HC.mono (nf (V.ext g) a) ?_
 rintro _ H6 ⟨rfl,U⟩
 have l:=g.trans U
 refine⟨_,rfl,?_⟩
 by_cases y:(yP (some (j,k))).len o=0
 ·rw[qB y];exact b l
 rw[za y]
 refine HC.mono (jN (V.ext l) a) ?_
 rintro _ H7 ⟨rfl,X⟩
 have m:=l.trans X
 refine⟨_,rfl,?_⟩
 by_cases L:(yP (some (j,k))).typ o=2
 ·rw[qB L];exact b m
 rw[za L]
 refine HC.mono (jN (V.ext m) a) ?_
 rintro _ H8 ⟨rfl,Y⟩
 have n:=m.trans Y
 refine⟨_,rfl,?_⟩
 by_cases t:(yP (some (j,k))).typ o=10
 ·rw[qB t];exact b n
 rw[za t]
 refine HC.mono (jN (V.ext n) a) ?_
 rintro _ H9 ⟨rfl,Z⟩
 have s:=n.trans Z
 refine⟨_,rfl,?_⟩
 refine HC.mono (nf (V.ext s) a) ?_
 rintro _ N ⟨rfl,B⟩
 have d:=s.trans B
 refine⟨_,rfl,y,?_⟩
 have hr:=sV u
 have a3:=k.sp.mem.len_rng o
 have a2:(yP (some (j,k))).len o=k.sp.mem.len o:=rfl
 have a4:=Int.emod_nonneg (yF .i64 u 65535) y
 have a5:=EJ (yF .i64 u 65535) (show 0< (yP (some (j,k))).len o by omega)
 refine HC.mono (qZ (V.ext d) a (by rw[jx hr.1];omega) r) ?_
 rintro _ O ⟨rfl,z,D⟩
 obtain⟨f,W,K⟩:=uW I a E r p z D
 exact⟨_,rfl,x _ _ ⟨⟨_,rfl⟩,f,(Went.ext V I d).trans W,K⟩⟩
theorem w9{s:Sp}(p:SpOK s)(k:u=zL o)(n: ∀w∈d,aD w)(h:(s.put o u d).2.2=0): ¬s.mem.used ((s.put o u d).2.1 / 8)/\aZ (s.put o u d).2.1:=by
 have l:u=1\/u=2\/u=3:=by
  rw[k];unfold zL
  split
  ·exact .inl rfl
  split
  ·exact .inr (.inl rfl)
  ·exact .inr (.inr rfl)
 by_cases c:(s.alloc 0 o d.length).2.2=0
 case neg=>
  have e:s.put o u d=(s,0,(s.alloc 0 o d.length).2.2):=by unfold Sp.put;rw[za c]
  rw[e]at h;exact absurd h c
 have b:=qg c
 obtain⟨a,i,j,r,q,g,_⟩:=Sp.put_ok p b (show u=1\/u=2\/u=3\/u=6 by omega) n c
 have hn:1<=d.length:=by have:=b.2;omega
 have f:=j.not_in (x:=a)
 rw[i]
 show ¬s.mem.used ((a*8+u) / 8)/\aZ (a*8+u)
 rw[show(a*8+u) / 8=a by omega]
 exact⟨λm=>f m ⟨by omega,by omega⟩,by unfold aZ;omega⟩
theorem oI(I:Inv k.sp i)(c:0<=o/\o<=3)(m:u=zL o)(n: ∀w∈d,aD w)(x:o<=1->d.length=2)(v:2<=o-> ∃b g,d=b::g/\jQ b/\zh (hk b)=o/\hn b=g.length)
  (t:o≠3-> ∀w∈d,Good k.sp.mem i w) (V:View r (some ⟨j.h,0,none⟩) (AB (some (j,k)) o u d)) (f:Fr (own (some (j,k))) H r):
  ∃e a,Went H r j k i e a/\Kp k.sp.mem i e.sp.mem a (∀(z:Nat) (h:z<d.length),o≠3->(2<=o->z≠0)->FW d[z]) (o≠1)/\((zH (some (j,k)) o u d).2=0->aD (zH (some (j,k)) o u d).1/\Good e.sp.mem a (zH (some (j,k)) o u d).1/\ ¬k.sp.mem.used ((zH (some (j,k)) o u d).1 / 8)/\aZ (zH (some (j,k)) o u d).1):=by
 obtain⟨a,p,y,l,s,q⟩:=I.putF c m n x v t
 exact⟨{k with sp:=(k.sp.put o u d).1},a,⟨V,p,y,s,f⟩,q,λh=>⟨(l h).1,(l h).2,w9 I.ok m n h⟩⟩
theorem qi{kind:Int}(I:Inv k.sp i)(b:1<=kind/\kind<=13)(C: ∀w∈d,aD w)(A:d.length<=62)(z: ∀w∈d,Good k.sp.mem i w)(V:View r (some ⟨j.h,0,none⟩) (nt (some (j,k)) kind 0 d))(f:Fr (own (some (j,k))) H r):
  ∃e a,Went H r j k i e a/\Kp k.sp.mem i e.sp.mem a (∀w∈d,FW w) True/\((lq (some (j,k)) kind 0 d).2=0->aD (lq (some (j,k)) kind 0 d).1/\Good e.sp.mem a (lq (some (j,k)) kind 0 d).1/\ ¬k.sp.mem.used ((lq (some (j,k)) kind 0 d).1 / 8)/\aZ (lq (some (j,k)) kind 0 d).1):=by
 have s:nt (some (j,k)) kind 0 d=AB (some (j,k)) (zh kind) 3 ((0*65536+d.length*256+kind*8+5)::d):=by
  unfold nt;rw[za (λq=>q ⟨b,by decide⟩),za (by omega)]
 have t:lq (some (j,k)) kind 0 d=zH (some (j,k)) (zh kind) 3 ((0*65536+d.length*256+kind*8+5)::d):=by
  unfold lq;rw[za (λq=>q ⟨b,by decide⟩),za (by omega)]
 rw[s]at V
 rw[t]
 obtain⟨p,D,E,G⟩:=tY (kind:=kind) (more:=0) (n:=d.length) b ⟨by decide,by decide⟩ A
 have F:zh kind=2\/zh kind=3:=by unfold zh;split<;>omega
 have l: ∀w∈((0*65536+d.length*256+kind*8+5:Int)::d),aD w:=λw c=>by
  rcases CR.1 c with rfl | h
  ·exact⟨by omega,by omega⟩
  ·exact C w h
 have g: ∀w∈((0*65536+d.length*256+kind*8+5:Int)::d),Good k.sp.mem i w:=λw c=>by
  rcases CR.1 c with rfl | h
  ·have:=p.1
   exact⟨by omega,λB=>by unfold aZ at B;omega⟩
  ·exact z w h
 obtain⟨e,a,u,v,x⟩:=oI I (show 0<=zh kind/\zh kind<=3 by omega) (by unfold zL;rw[za (by omega),za (by omega)]) l (λh=>by omega) (λ_=>⟨_,d,rfl,p,by rw[D],E⟩) (λ_=>g) V f
 exact⟨e,a,u,v.mono (λy J o _ m=>by
  cases J with
  | zero=>exact absurd rfl (m (by omega))
  | succ J=>exact y (d[J]'(Nat.lt_of_succ_lt_succ o)) (CS (Nat.lt_of_succ_lt_succ o))) (λ_=>by omega),x⟩
structure Act (H H':zV) (b:Blk) (x:Hp) (sz:Int->Nat) (mB:zW) (made:List Int) (x':Hp) (sz':Int->Nat) (B':zW) (c':Nat) (made':List Int):Prop where
 view:View H' (some ⟨b.h,0,none⟩) (some (b,x'))
 inv:Inv x'.sp sz'
 cf:x'.sp.cf=x.sp.cf
 fr:Fr ([b.sp,b.m,b.s]++kd mB) H H'
 own:Own H' 28 1 B' made'.length c' (yE made')
 good: ∀w∈made',aD w/\Good x'.sp.mem sz' w
 len:made'.length<=made.length+1
 blk: ∀j∈kd B',j∈kd mB\/H.size<=j
 news:made'=made\/ ∃w,made'=made++[w]/\w ∉ made/\aZ w
theorem uX{a:mf}{X:Nat}(V:View H (some ⟨j.h,0,none⟩) (some (j,k)))(I:Inv k.sp i)(b3:k.sp.cf<4611686018427387904)(F:Own H 28 1 v d.length X (yE d))(hd: ∀ce∈kd v,ce ∉ j.all)
  (M: ∀w∈d,aD w/\Good k.sp.mem i w) (hl:d.length<=1000000000) (hA:mf.OK maxLen H a):
  cX.C (some ⟨j.h,0,none⟩) a.dov a.kind a.n a.x.w a.x.ofv a.y.w a.y.ofv a.l.p a.l.n a.l.c v d.length X H (λch H'=> ∃(B':zW) (S:Nat) (x:List Int) (t:Hp) (g:Int->Nat),ch=vs B' x.length S/\Act H H' j k i v d t g B' S x/\Kp k.sp.mem i t.sp.mem g (∀w∈d,FW w) (a.dov≠1)/\((∀w∈d,FW w)-> ∀w∈x,FW w)/\Lift k.sp.mem i t.sp.mem g):=by
 refine HC.via λR hR=>cX.link ?_
 unfold cX.pt
 intro bX H1 b0 a9
 have e1:Ext H H1:=CI a9
 have g1:=aF b0 a9
 have ac: ∀ce∈kd v,ce ∉ [j.sp,j.m,j.s]:=λce B q=>hd ce B (by simp at q;simp[Blk.all];omega)
 have bb:=hA.x
 have bc:=hA.y
 have iw: ∀(ch:lj),gF.ok maxLen H ch->aD ch.w/\Ah ch.ofv:=λch h=>⟨wf_u64 h.w,wf_i64 h.ofv⟩
 obtain⟨xw,xo⟩:=iw _ bb
 obtain⟨yw,yo⟩:=iw _ bc
 have gw: ∀w∈d,aD w:=λw h=>(M w h).1
 have gg: ∀w∈d,Good k.sp.mem i w:=λw h=>(M w h).2
 refine⟨a.x.w,a.x.ofv,⟨by rw[CH,CH,aI g1];rfl,by rw[CH,CH,aI g1];rfl,EO⟩,a.y.w,a.y.ofv,⟨by rw[CH,CH,aI g1];rfl,by rw[CH,CH,aI g1];rfl,EO⟩,?_⟩
 refine HC.mono (mj xw xo (F.ext e1)) ?_
 rintro _ H2 ⟨rfl,e2⟩
 have g2:=e2.get g1
 refine⟨_,rfl,⟨by rw[CH,CH,aI g2];rfl,by rw[CH,CH,aI g2];rfl,EO⟩,?_⟩
 refine HC.mono (mj yw yo (F.ext (e1.trans e2))) ?_
 rintro _ H3 ⟨rfl,e3⟩
 have g3:=e3.get g2
 have D:=(e1.trans e2).trans e3
 have aw:=mi xw (Of:=a.x.ofv) gw
 have bw:=ml (W:=a.x.w) (Of:=a.x.ofv) gg
 have ci:=mi yw (Of:=a.y.ofv) gw
 have bg:=ml (W:=a.y.w) (Of:=a.y.ofv) gg
 have bu:(∀w∈d,FW w)->FW (zg a.x.w a.x.ofv d):=λh=>oc h
 have bf:(∀w∈d,FW w)->FW (zg a.y.w a.y.ofv d):=λh=>oc h
 generalize zg a.x.w a.x.ofv d=Y at*
 generalize zg a.y.w a.y.ofv d=Z at*
 have V3:=V.ext D
 have a6:(∀w∈d,FW w)-> ∀(cd:Nat) (h:cd< [Y,Z].length),FW [Y,Z][cd]:=λL cd N=>by
  have hm:[Y,Z][cd]∈[Y,Z]:=CS N
  simp only[CR,List.not_mem_nil,or_false]at hm
  rcases hm with e | e
  ·rw[e];exact bu L
  ·rw[e];exact bf L
 have hc:sP (some (j,k)):=Sp.cf_count I.ok b3
 have bI:=F.lt
 have bT:=D.size
 have W3:Went H H3 j k i k i:=Went.ext V I D
 have af: ∀{A:zV},Fr [j.sp,j.m,j.s] H A->Own A 28 1 v d.length X (yE d):=λ{A} f=>F.keep f ac
 have r: ∀{A:zV} {t:Hp} {g:Int->Nat},Went H A j k i t g->Kp k.sp.mem i t.sp.mem g (∀w∈d,FW w) (a.dov≠1)->R (vs v d.length X) A:=λ{A t g} W K=>
  hR _ _ ⟨v,X,d,t,g,rfl,⟨W.view,W.inv,W.cf,W.fr.mono (λce B _=>Dg _ B),af W.fr,λw h=>⟨(M w h).1,W.lift _ (M w h).2⟩,by omega,λce B=> .inl B,.inl rfl⟩,K,λh=>h,W.lift⟩
 have G: ∀{A:zV} {t:Hp} {g:Int->Nat} (w:Int),Went H A j k i t g->Kp k.sp.mem i t.sp.mem g (∀w∈d,FW w) (a.dov≠1)->aD w->Good t.sp.mem g w-> ¬k.sp.mem.used (w / 8)/\aZ w-> ∀(a4:Nat) (H5:zV),a4=A.size->H5=A.push (.cells #[vu w] 28)->
   bH 1 28 8 [vu 0] v d.length X (some (Addr.mk a4 0 none)) 1 H5 (λap ao Q=>R (vs ap (d.length+1) ao) Q):=λ{A t g} w W K hw b6 J c5 H5 b1 ab=>by
  have T:Ext A H5:=CI ab
  refine cI (ys:=yE [w]) ((af W.fr).ext T) (eJ (aF b1 ab) _ 0 0 (λce B=>by
   simp only[yE,List.map_cons,List.map_nil,List.length_cons,List.length_nil]at B
   obtain rfl:ce=0:=by omega
   rfl)) rfl (gO _) rfl (by omega) ?_
  intro B' S Q ba U b8
  have zA:=W.fr.size
  have z5:=T.size
  have E:(d++[w]).length=d.length+1:=by simp
  have V5:=W.view.ext T
  have V6:View Q (some ⟨j.h,0,none⟩) (some (j,t)):=by
   obtain⟨-,hp,ok⟩:=V5.inv
   exact .real (hp.keep U (λcd N=>hd cd N)) ok
  have:=hR (.slice B' (d++[w]).length S) Q ⟨B',S,d++[w],t,g,rfl,⟨V6,W.inv,W.cf,((W.fr.trans T.fr).mono (λce B _=>Dg _ B)).trans (U.mono (λce B _=>Du _ B)),by rw[E];simpa[yE]using ba,λch O=>?_,by rw[E];exact CU _,λce B=>?_,.inr ⟨w,rfl,λhm=>J.1 (I.sound.used _ ((M w hm).2.2 J.2).1).1,J.2⟩⟩,K,λh ch O=>(CM.1 O).elim (λq=>h ch q) (λq=>by simp at q;rw[q];exact .inr (.inr J.2)),W.lift⟩
  ·rw[E]at this;exact this
  ·rcases CM.1 O with q | q
   ·exact⟨(M ch q).1,W.lift _ (M ch q).2⟩
   ·simp at q;rw[q];exact⟨hw,b6⟩
  ·rcases b8 ce B with q | q
   ·exact .inl q
   ·exact .inr (by omega)
 refine⟨_,rfl,a.dov,by rw[aI g3];rfl,?_⟩
 by_cases h0:a.dov=0
 ·rw[qB h0]
  refine HC.mono (pV V3 aw ci hc) ?_
  rintro _ P ⟨rfl,V4,f4⟩
  obtain⟨t,g,W4,K0,u⟩:=oI I (by decide) rfl (λw b=>by simp at b;rcases b with rfl | rfl<;>assumption) (λ_=>rfl) (λh=>by omega) (λ_ w b=>by simp at b;rcases b with rfl | rfl<;>assumption) V4 f4
  have K:=K0.mono (F':= ∀w∈d,FW w) (W':=a.dov≠1) (λL cd N _ _=>a6 L cd N) (λ_=>by decide)
  refine⟨_,_,rfl,?_⟩
  have W:=W3.trans W4
  by_cases o:(zH (some (j,k)) 0 1 [Y,Z]).2=0
  ·rw[qB o];exact G _ W K (u o).1 (u o).2.1 (u o).2.2
  ·rw[za o];exact r W K
 rw[za h0]
 by_cases h1:a.dov=1
 ·rw[qB h1]
  refine HC.mono (pW V3 aw ci hc) ?_
  rintro _ P ⟨rfl,V4,f4⟩
  obtain⟨t,g,W4,K0,u⟩:=oI I (by decide) rfl (λw b=>by simp at b;rcases b with rfl | rfl<;>assumption) (λ_=>rfl) (λh=>by omega) (λ_ w b=>by simp at b;rcases b with rfl | rfl<;>assumption) V4 f4
  have K:=K0.mono (F':= ∀w∈d,FW w) (W':=a.dov≠1) (λL cd N _ _=>a6 L cd N) (λq=>absurd h1 q)
  refine⟨_,_,rfl,?_⟩
  have W:=W3.trans W4
  by_cases o:(zH (some (j,k)) 1 2 [Y,Z]).2=0
  ·rw[qB o];exact G _ W K (u o).1 (u o).2.1 (u o).2.2
  ·rw[za o];exact r W K
 rw[za h1]
 by_cases h2:a.dov=2
 ·rw[qB h2]
  refine⟨a.kind,by rw[CH,aI g3];rfl,a.l.p,a.l.n,a.l.c,by rw[CH,aI g3];rfl,?_⟩
  refine HC.mono vZ ?_
  rintro _ P ⟨cg,rfl,hk,e4⟩
  have g4:=e4.get g3
  refine⟨_,rfl,⟨by rw[CH,CH,aI g4];rfl,EO⟩,?_⟩
  have z:=D.trans e4
  refine HC.mono (uV (SlOK.ext hA.l z) (F.ext z)) ?_
  rintro _ H5 ⟨q,n',S,rfl,b7,bm,b9,T,hq⟩
  refine⟨_,_,_,rfl,?_⟩
  have a5:=z.trans T
  have ae: ∀w∈(a.l.xs.take 62).map (λch=>zg ch.w ch.ofv d),aD w:=λw b=>by
   obtain⟨ch,O,rfl⟩:=CT.1 b
   exact mi (wf_u64 (hA.l.each ch (List.mem_of_mem_take O)).w) gw
  have b5: ∀w∈(a.l.xs.take 62).map (λch=>zg ch.w ch.ofv d),Good k.sp.mem i w:=λw b=>by
   obtain⟨ch,O,rfl⟩:=CT.1 b
   exact ml gg
  have b4:(∀w∈d,FW w)-> ∀w∈(a.l.xs.take 62).map (λch=>zg ch.w ch.ofv d),FW w:=λL w b=>by
   obtain⟨ch,O,rfl⟩:=CT.1 b
   exact oc L
  generalize (a.l.xs.take 62).map (λch=>zg ch.w ch.ofv d)=ws at*
  refine HC.mono (pT (ws:=ws) (V.ext a5) b9.src b7 ae (by omega) (by decide) hc (by omega)) ?_
  rintro _ Q ⟨rfl,V6,U⟩
  obtain⟨t,g,W6,K0,u⟩:=qi I (by omega) ae (by omega) b5 V6 U
  have K:=K0.mono (F':= ∀w∈d,FW w) (W':=a.dov≠1) b4 (λ_=>trivial)
  refine⟨_,_,rfl,?_⟩
  have W:=(Went.ext V I a5).trans W6
  by_cases o:(lq (some (j,k)) cg 0 ws).2=0
  ·rw[qB o];exact G _ W K (u o).1 (u o).2.1 (u o).2.2
  ·rw[za o];exact r W K
 rw[za h2]
 by_cases h3:a.dov=3
 ·rw[qB h3]
  refine⟨a.n,by rw[CH,aI g3];rfl,?_⟩
  refine HC.mono (v6 V3 I aw bw ci bg) ?_
  rintro _ P ⟨⟨cg,rfl⟩,t,W4,K4⟩
  exact⟨_,rfl,r (W3.trans W4) (K4.mono bf (λ_=>trivial))⟩
 rw[za h3]
 by_cases h4:a.dov=4
 ·rw[qB h4]
  intro bA P b2 aa
  have e4:Ext H3 P:=CI aa
  have z:=D.trans e4
  have ag: ∀w∈([20,20]:List Int),aD w:=λw h=>by simp at h;rw[h];decide
  have az: ∀w∈([20,20]:List Int),Good k.sp.mem i w:=λw h=>by simp at h;rw[h];exact⟨by decide,λht=>absurd ht (by decide)⟩
  refine HC.mono (pT (ws:=[20,20]) (V.ext z) (show dO P (some ⟨bA,0,none⟩) (yE [20,20])from kl (vs:=[vu 20,vu 20]) (aF b2 aa)) rfl ag (by decide) (by decide) hc (by decide)) ?_
  rintro _ Q ⟨rfl,V6,U⟩
  obtain⟨t,g,W6,K0,u⟩:=qi I (by decide) ag (by decide) az V6 U
  have K:=K0.mono (F':= ∀w∈d,FW w) (W':=a.dov≠1) (λ_ w b=>by simp at b;rw[b];exact .inr (.inl ⟨by decide,by decide⟩)) (λ_=>trivial)
  refine⟨_,_,rfl,?_⟩
  have W:=(Went.ext V I z).trans W6
  by_cases o:(lq (some (j,k)) 10 0 [20,20]).2=0
  ·rw[qB o];exact G _ W K (u o).1 (u o).2.1 (u o).2.2
  ·rw[za o];exact r W K
 rw[za h4]
 exact r W3 .refl
theorem EN:type_of% @List.drop_eq_getElem_cons:=@List.drop_eq_getElem_cons
variable{d:Mem}
@[irreducible] def tops:Nat:=65536
theorem rS:tops=65536:=by unfold tops;rfl
def Mem.cnt(m:Mem)(p:Int->Bool):Nat:=(List.range tops).countP λx:Nat=>decide (m.used x) && p x
theorem Mem.words_to(m:Mem)(d:bD m)(a:List Int): ∀k,k<=m.limit->m.sumN (m.takenTo a k)=((List.range (64*k)).countP λx:Nat=>decide (m.used x) && decide (a=[]\/m.gAt x∈a):Nat)
 | 0,_=>rfl
 | k+1,h=>by
  have hn:=(d.seg k).n
  have p:=(d.seg k).taken
  rw[Mem.takenTo_succ,oX,Mem.words_to m d a k (by omega),show 64*(k+1)=64*k+64 by omega,List.range_add,EC,List.countP_map]
  have e: ∀i:Nat,i<64->((decide (m.used ((64*k+i:Nat):Int)) && decide (a=[]\/m.gAt ((64*k+i:Nat):Int)∈a))=(decide (0< (m.seg k).taken/\(a=[]\/(m.seg k).gen∈a)) && AU 0 (m.seg k).n.toNat i)):=λi c=>by
   have f:(((64*k+i:Nat):Int) / 64).toNat=k:=by omega
   have g:((64*k+i:Nat):Int) % 64=i:=by omega
   have l:m.gAt ((64*k+i:Nat):Int)=(m.seg k).gen:=by unfold Mem.gAt;rw[f]
   have o:m.used ((64*k+i:Nat):Int) ↔ 0< (m.seg k).taken/\(i:Int)< (m.seg k).n:=by
    unfold Mem.used Mem.has
    rw[f,g]
    exact⟨λq=>⟨by omega,by omega⟩,λq=>⟨by omega,⟨by omega,by omega,by omega⟩,by omega⟩⟩
   rw[Ej]
   unfold AU
   simp only[CZ,CN]
   rw[o,l]
   exact⟨λq=>⟨⟨q.1.1,q.2⟩,by omega,by omega⟩,λq=>⟨⟨q.1.1,by omega⟩,q.1.2⟩⟩
  have j:(List.range 64).countP ((λx:Nat=>decide (m.used x) && decide (a=[]\/m.gAt x∈a)) ∘ λx=>64*k+x)=if 0< (m.seg k).taken/\(a=[]\/(m.seg k).gen∈a)then(m.seg k).n.toNat else 0:=by
   rw[ED (q:=λi=>decide (0< (m.seg k).taken/\(a=[]\/(m.seg k).gen∈a)) && AU 0 (m.seg k).n.toNat i) (λi c=>by
    rw[Dc]at c
    show((decide (m.used ((64*k+i:Nat):Int)) && decide (a=[]\/m.gAt ((64*k+i:Nat):Int)∈a))=true) ↔ _
    rw[e i c])]
   by_cases b:0< (m.seg k).taken/\(a=[]\/(m.seg k).gen∈a)
   ·rw[qB b]
    simp only[zX b,Bool.true_and]
    exact nI (by omega) 64 _ (by omega)
   ·rw[za b]
    simp only[zQ b,Bool.false_and]
    exact List.countP_eq_zero.2 (λ_ _=>by simp)
  rw[j]
  by_cases b:0< (m.seg k).taken/\(a=[]\/(m.seg k).gen∈a)
  ·rw[qB b,qB b]
   simp[Mem.sumN];omega
  ·rw[za b,za b]
   simp[Mem.sumN]
theorem Mem.words_cnt(b:bD d)(a:List Int):d.words a=(d.cnt λx=>decide (a=[]\/d.gAt x∈a):Nat):=by
 unfold Mem.words Mem.cnt
 have f:=b.lim
 rw[Mem.words_to d b a _ (CU _)]
 congr 1
 have g:=rS
 rw[show tops=64*d.limit+(tops-64*d.limit)by omega]
 refine(mT _ _ _ (λi c e=>?_)).symm
 rw[Bool.and_eq_false_iff]
 left
 refine zQ λq=>?_
 have:=q.2.1.2.1
 omega
theorem Ei:type_of% @Mem.words_cnt:=@Mem.words_cnt
theorem lc(m:Mem)(w:Int):0<=m.sizeOf w/\m.sizeOf w<=63:=by
 have:=m.len_rng w
 unfold Mem.sizeOf
 split
 ·omega
 ·split<;>omega
theorem dA.all{l:List Nat}(h:dA d [] l)(a:bD d){k:Int}(hk:d.has k):k.toNat∈l:=by
 refine h.perm.mem_iff.2 ?_
 unfold Mem.takenTo
 rw[Dm,Dc]
 obtain⟨b,c,e⟩:=hk
 have:=(a.seg k.toNat).taken
 refine⟨by omega,?_⟩
 simp
 omega
theorem mb{H:zV}{p:zW}{b:List Int}(h:dO H p (yE b)){i:Nat}(c:i<b.length): ∃a,p=some a/\hat H (a.add (i*1))=some (vu b[i]):=by
 cases p with
 | none=>rw[DF]at h;simp[yE]at h;subst h;simp at c
 | some a=>
  refine⟨a,rfl,?_⟩
  have:=gE (show aL H a 0 (yE b)from h) i (vu b[i]) (by simp[yE,c])
  rw[CQ]at this;rw[Dd];exact this
structure Alls (m:Mem) (all:List Int):Prop where
 nodup:all.Nodup
 good: ∀w∈all,aD w/\m.sizeOf w≠0
theorem uY{w:Int}(h:d.sizeOf w≠0):gM w:=by
 unfold Mem.sizeOf at h
 by_cases b:d.isPair w
 ·rcases b.1 with q | q<;>exact q.1
 ·rw[za b]at h
  by_cases a:d.isObj w
  ·exact a.1.1
  ·rw[za a]at h;exact absurd rfl h
theorem Alls.len{c:List Int}(h:Alls d c):c.length<=524288:=by
 have e:=mh (λ_=>1) 524288 c h.nodup (λa g=>by
  obtain⟨j,k⟩:=h.good a g
  have:=(uY k).2
  exact⟨j.1,by show a+1<=524288;omega⟩) (λa _ b _ i=>by show a+1<=b;omega)
 have f:(c.map λ_=>1).sum=c.length:=by
  induction c with
  | nil=>rfl
  | cons a l _=>simp[List.map_const'];omega
 rw[f]at e
 rw[e]
 exact Dz EF (by rw[EL];exact CU _)
structure St (H0 H:zV) (b:Blk) (x:Hp) (sz:Int->Nat) (mB:zW) (mC:Nat) (made:List Int):Prop where
 e:Ext H0 H
 view:View H (some ⟨b.h,0,none⟩) (some (b,x))
 inv:Inv x.sp sz
 own:Own H 28 1 mB made.length mC (yE made)
 good: ∀w∈made,aD w/\Good x.sp.mem sz w
 hb: ∀j∈b.all,H0.size<=j
 hm: ∀j∈kd mB,H0.size<=j/\j ∉ b.all
theorem St.ext{H0 H c:zV}{b:Blk}{x:Hp}{g:Int->Nat}{d:zW}{f:Nat}{a:List Int}(h:St H0 H b x g d f a)(e:Ext H c):St H0 c b x g d f a:=
 ⟨h.e.trans e,h.view.ext e,h.inv,h.own.ext e,h.good,h.hb,h.hm⟩
theorem St.blt{c H:zV}{b:Blk}{x:Hp}{g:Int->Nat}{e:zW}{f:Nat}{a:List Int}(h:St c H b x g e f a): ∀j∈b.all,j<H.size:=by
 obtain⟨-,d,-⟩:=h.view.inv
 exact d.lt
def Sp.visL(O:Nat->Bool)(T:Int)(s:Sp)(l:List Int):Sp×List Int:=l.foldl (λst w=>((st.1.visit O T w).1,st.2++[(st.1.visit O T w).2])) (s,[])
theorem Sp.visL_snoc(O:Nat->Bool)(T:Int)(s:Sp)(l:List Int)(w:Int):s.visL O T (l++[w])=(((s.visL O T l).1.visit O T w).1,(s.visL O T l).2++[((s.visL O T l).1.visit O T w).2]):=by
 unfold Sp.visL
 rw[D5];rfl
theorem Sp.visL_len(O:Nat->Bool)(T:Int)(s:Sp)(l:List Int):(s.visL O T l).2.length=l.length:=by
 have: ∀(l:List Int) (a:Sp×List Int),(l.foldl (λa w=>((a.1.visit O T w).1,a.2++[(a.1.visit O T w).2])) a).2.length=a.2.length+l.length:=λl=>by
  induction l with
  | nil=>intro a;rfl
  | cons w l b=>intro a;simp only[List.foldl_cons];rw[b];simp;omega
 unfold Sp.visL
 rw[this];simp
def brk(O:Nat->Bool)(m:Mem)(a:Int):Mem:=if aO O (m.read a)then m.wr a 44 else m
theorem sW(O:Nat->Bool)(m:Mem)(a:Int):bG m (brk O m a):=by
 unfold brk
 split
 ·exact bG.wr m a 44
 ·exact bG.refl m
theorem x9{s:Sp}(b:SpOK s)(O:Nat->Bool)(a:Int):SpOK {s with mem:=brk O s.mem a}:=by
 unfold brk
 split
 ·exact b.wr a (by decide)
 ·exact b
theorem rl(O:Nat->Bool): ∀(l:List Int) (m:Mem),bG m (l.foldl (brk O) m)
 | [],m=>bG.refl m
 | a::l,m=>(sW O m a).trans (rl O l _)
theorem uH(O:Nat->Bool): ∀(l:List Int) {s:Sp},SpOK s->SpOK {s with mem:=l.foldl (brk O) s.mem}
 | [],s,ok=>ok
 | a::l,s,ok=>uH O l (x9 ok O a)
variable{d:Tr}{i:Mem}
theorem jI{k b x:Int}{n:Nat}:x∈jU k b n ↔ ∃j:Nat,j<n/\x=k*64+(b+2*(j:Int)):=by
 unfold jU
 rw[CT]
 constructor
 ·rintro⟨j,a,rfl⟩;rw[Dc]at a;exact⟨j,a,rfl⟩
 ·rintro⟨j,a,rfl⟩;exact⟨j,by rw[Dc];exact a,rfl⟩
theorem rm(O:Nat->Bool): ¬aO O 44:=λh=>by have:=h.1.1;omega
theorem xa{O:Nat->Bool}{a x:Int}(d:i.used x):(brk O i a).get x=if x=a/\aO O (i.get x)then 44 else i.get x:=by
 have f:=d.1
 unfold brk
 by_cases e:x=a
 ·subst e
  have h:i.read x=i.get x:=by unfold Mem.read;rw[qB d]
  rw[h]
  by_cases b:aO O (i.get x)
  ·rw[qB b,qB ⟨rfl,b⟩]
   unfold Mem.wr;rw[qB d,DW x f f,qB rfl]
  ·rw[za b,za (λq=>b q.2)]
 ·rw[za (show ¬(x=a/\aO O (i.get x))from λq=>e q.1)]
  split
  ·unfold Mem.wr
   by_cases c:i.used a
   ·rw[qB c,DW x f c.1,za e]
   ·rw[za c]
  ·rfl
theorem qj(O:Nat->Bool): ∀(l:List Int) {m:Mem} {x:Int},m.used x->(l.foldl (brk O) m).get x=if x∈l/\aO O (m.get x)then 44 else m.get x
 | [],m,x,hx=>by rw[za (λq=>by simp at q)];rfl
 | a::l,m,x,hx=>by
  have b:=qj O l (m:=brk O m a) ((sW O m a).used.2 hx)
  show(l.foldl (brk O) (brk O m a)).get x=_
  rw[b,xa hx]
  by_cases e:x=a/\aO O (m.get x)
  ·rw[qB e,za (λq=>rm O q.2),qB ⟨by rw[e.1];simp,e.2⟩]
  ·rw[za e]
   by_cases h:x∈l/\aO O (m.get x)
   ·rw[qB h,qB ⟨by simp[h.1],h.2⟩]
   ·rw[za h,za (λq=>?_)]
    rcases CR.1 q.1 with r | r
    ·exact e ⟨r,q.2⟩
    ·exact h ⟨r,q.2⟩
theorem jZ{b a:Int}{j:Nat}:j<hZ b a ↔ b+2*(j:Int)<a:=by
 unfold hZ;omega
section
variable {Z:TZ} {g F0:Int} {fw:Int->Option Int} {al:List Int} {s:Sp} {sz:Int->Nat}
theorem jH.frmAt(B:jH Z.m g Z.T d){k:Int}(hk:0<=k):seenAt d.frm k=if Z.m.has k/\(Z.m.seg k.toNat).gen=Z.T then(Z.m.seg k.toNat).n else 0:=by
 unfold seenAt
 rw[B.frm k hk]
 by_cases h:Z.m.has k/\(Z.m.seg k.toNat).gen=Z.T
 ·rw[qB h,qB h]
 ·rw[za h,za h]
theorem rn(S:aX Z g F0)(t:Tri Z F0 fw al s sz)(B:jH Z.m g Z.T d){l:List Nat}(A:dA s.mem [Z.T] l): ∀a∈s.mem.weaks d l,s.mem.kAt a=1/\a % 2=0/\a<=1000000:=by
 intro a p
 have r:=t.ok.mem.lim
 unfold Mem.weaks at p
 rcases CM.1 p with h | h
 ·obtain⟨k,hk,h⟩:=Dv.1 h
  obtain⟨u,v,_,_⟩:=A.has hk
  have o:((k:Nat):Int).toNat=k:=by omega
  unfold Mem.weakSeg at h
  by_cases b:(s.mem.seg k).kind=1/\d.old k=false
  case neg=>rw[za b]at h;simp at h
  rw[qB b]at h
  obtain⟨j,e,rfl⟩:=jI.1 h
  rw[jZ]at e
  have hn:=(t.ok.mem.seg k).n
  have y:=B.frmAt (k:=k) (by omega)
  have x:seenAt d.frm k % 2=0/\0<=seenAt d.frm k:=by
   rw[y,o]
   by_cases q:Z.m.has k/\(Z.m.seg k).gen=Z.T
   ·rw[qB q]
    have C:=(t.heads.seg k (by have:=q.1.2.2;rw[o]at this;exact this)).2.1
    exact⟨S.even k (by rw[<-C,b.1];decide),(S.ok.seg k).n.1⟩
   ·rw[za q];exact⟨rfl,Dq _⟩
  refine⟨?_,by omega,by omega⟩
  unfold Mem.kAt
  rw[show((k:Int)*64+(seenAt d.frm k+2*(j:Int))) / 64=k by omega,o];exact b.1
 ·obtain⟨c,b,h⟩:=Dv.1 h
  obtain⟨w,D,E,F⟩:=B.cardOf S c b
  have f:=t.heads.has w
  have i:s.mem.segOr c.1=s.mem.seg c.1.toNat:=by unfold Mem.segOr;rw[qB f]
  unfold Mem.weakCard at h
  rw[i]at h
  by_cases hk:(s.mem.seg c.1.toNat).kind=1
  case neg=>rw[za hk]at h;simp at h
  rw[qB hk]at h
  obtain⟨j,e,rfl⟩:=jI.1 h
  rw[jZ]at e
  have hn:=(t.ok.mem.seg c.1.toNat).n
  have G:=f.1
  have H:=f.2.1
  have z:c.2*16+2*(j:Int)< (s.mem.seg c.1.toNat).n/\c.2*16+2*(j:Int)< (c.2+1)*16:=by omega
  refine⟨?_,by omega,by omega⟩
  unfold Mem.kAt
  rw[show(c.1*64+(c.2*16+2*(j:Int))) / 64=c.1 by omega];exact hk
theorem rp(S:aX Z g F0)(t:Tri Z F0 fw al s sz)(hm:lR Z.m)(B:jH Z.m g Z.T d)(F:d.old=Z.O){l:List Nat}(H:dA s.mem [Z.T] l){x v:Int}(e:s.mem.used x)(E:Z.O (x / 64).toNat=false)(hk:s.mem.kAt x=1)(R:x % 2=0)(K:Was Z fw x v)(c:aO Z.O v):x∈s.mem.weaks d l:=by
 have D:=t.ok.mem.lim
 have N:=e.1
 have U:=e.2.1.2.1
 unfold Mem.weaks
 rcases K with J | ⟨_,⟨f,C,p⟩ | ⟨a,b,i,f,C,p,P⟩⟩
 ·exact absurd c (t.qok x v J).young
 ·subst p
  have j:Z.m.kAt x=1:=by rw[<-(t.kAt f).1];exact hk
  have G:=B.dirty S hm f E (by rw[j];decide) c (S.sound.good x f (by rw[j];decide))
  refine Du _ (Dv.2 ⟨_,G,?_⟩)
  have z:s.mem.segOr (x / 64)=s.mem.seg (x / 64).toNat:=by unfold Mem.segOr;rw[qB e.2.1]
  unfold Mem.weakCard
  rw[z,qB hk]
  have hn:=e.2.2
  refine jI.2 ⟨((x % 64 % 16) / 2).toNat,?_,?_⟩
  ·rw[jZ]
   show x % 64 / 16*16+2*((((x % 64 % 16) / 2).toNat:Nat):Int)<min (s.mem.seg (x / 64).toNat).n ((x % 64 / 16+1)*16)
   omega
  ·show x=x / 64*64+(x % 64 / 16*16+2*((((x % 64 % 16) / 2).toNat:Nat):Int))
   omega
 ·have A:=(t.img a b f).2
  have Q:=A.fit
  have o:x / 64=b / 64:=by omega
  have h:(s.mem.seg (x / 64).toNat).gen=Z.T:=by rw[o];exact A.gen
  have w:(x / 64).toNat∈l:=by
   refine H.perm.mem_iff.2 ?_
   unfold Mem.takenTo
   rw[Dm,Dc]
   have:=e.2.1.2.2
   have:=(t.ok.mem.seg (x / 64).toNat).taken
   refine⟨by omega,?_⟩
   simp only[CZ,CN,Dw,List.mem_singleton]
   exact⟨by omega,.inr h⟩
  refine Dg _ (Dv.2 ⟨_,w,?_⟩)
  unfold Mem.weakSeg
  rw[qB ⟨hk,by rw[F];exact E⟩]
  have M:(((x / 64).toNat:Nat):Int)=x / 64:=by omega
  rw[M]
  have u:=B.frmAt (k:=x / 64) (by omega)
  have y: ¬Z.m.used x:=by rw[p];exact A.new i C
  have I:seenAt d.frm (x / 64) % 2=0/\0<=seenAt d.frm (x / 64)/\seenAt d.frm (x / 64)<=x % 64:=by
   rw[u]
   by_cases q:Z.m.has (x / 64)/\(Z.m.seg (x / 64).toNat).gen=Z.T
   ·rw[qB q]
    have L:=(t.heads.seg (x / 64).toNat q.1.2.2).2.1
    refine⟨S.even _ (by rw[<-L];show s.mem.kAt x<=1;rw[hk];decide),(S.ok.seg _).n.1,?_⟩
    rcases DA (x % 64) (Z.m.seg (x / 64).toNat).n with r | r
    ·exact absurd ⟨N,q.1,r⟩ y
    ·exact r
   ·rw[za q];exact⟨rfl,Dq _,by omega⟩
  have hn:=e.2.2
  refine jI.2 ⟨((x % 64-seenAt d.frm (x / 64)) / 2).toNat,?_,?_⟩
  ·rw[jZ];omega
  ·omega
theorem Broke.of{tr:Tr}(S:aX Z g F0)(t:Tri Z F0 fw al s sz)(hm:lR Z.m)(B:jH Z.m g Z.T tr)(o:tr.old=Z.O){l:List Nat}(f:dA s.mem [Z.T] l):Broke Z fw s {s with mem:=(s.mem.weaks tr l).foldl (brk Z.O) s.mem}:=by
 refine⟨rl _ _ _,rfl,uH _ _ t.ok,λx d i p=>?_,λx d i hk u=>?_⟩
 ·show((s.mem.weaks tr l).foldl (brk Z.O) s.mem).get x=_
  rw[qj _ _ d,za (λq=>?_)]
  obtain⟨k,n,_⟩:=rn S t B f x q.1
  exact p ⟨k,n⟩
 ·show((s.mem.weaks tr l).foldl (brk Z.O) s.mem).get x=44\/ ∀v,Was Z fw x v->Dn Z.O fw v/\((s.mem.weaks tr l).foldl (brk Z.O) s.mem).get x=Fw Z.O fw v
  rw[qj _ _ d]
  by_cases q:x∈s.mem.weaks tr l/\aO Z.O (s.mem.get x)
  ·rw[qB q];exact .inl rfl
  ·rw[za q]
   right
   intro v j
   have a:s.mem.get x=v:=by
    rcases t.val x v j with r | ⟨r,_⟩
    ·exact r
    ·have:=r.2.resolve_left (λe=>e hk);omega
   have b: ¬aO Z.O v:=λc=>q ⟨rp S t hm B o f d i hk u j c,by rw[a];exact c⟩
   exact⟨λh=>absurd h b,by rw[jv b];exact a⟩
theorem Tri.visL(S:aX Z g F0): ∀(l:List Int) {fw:Int->Option Int} {al:List Int} {s:Sp} {sz:Int->Nat} {acc:List Int} (t:Tri Z F0 fw al s sz),(∀w∈l,Z.V w)-> ∃b d j,Tri Z F0 b d (l.foldl (λ(c:Sp×List Int) w=>((c.1.visit Z.O Z.T w).1,c.2++[(c.1.visit Z.O Z.T w).2])) (s,acc)).1 j/\Le fw b/\
  (l.foldl (λ(c:Sp×List Int) w=>((c.1.visit Z.O Z.T w).1,c.2++[(c.1.visit Z.O Z.T w).2])) (s,acc)).2=acc++l.map (Fw Z.O b)/\ ∀w∈l,Dn Z.O b w
 | [],fw,al,s,sz,acc,t,_=>⟨fw,al,sz,t,Le.refl _,by simp,λw h=>by cases h⟩
 | w::l,fw,al,s,sz,acc,t,h=>by
  have n:=h w (by simp)
  obtain⟨y,z⟩:=S.V w n
  obtain⟨q,o,v,V⟩:=t.visit S y z (λr=> .root n r)
  obtain⟨f,e,k,x,i,u,p⟩:=Tri.visL S l (acc:=acc++[(s.visit Z.O Z.T w).2]) V.tri (λm a=>h m (by simp[a]))
  refine⟨f,e,k,x,V.le.trans i,?_,λm a=>?_⟩
  ·simp only[List.foldl_cons]
   rw[u,V.val,<-lX V.dn i]
   simp
  ·rcases CR.1 a with rfl | a
   ·exact V.dn.mono i
   ·exact p m a
end
theorem Sp.look_cf(s:Sp)(old:Nat->Bool)(T seg a b:Int): ∀n,(s.look old T seg a b n).cf=s.cf
 | 0=>rfl
 | n+1=>by
  unfold Sp.look
  split
  ·rw[Sp.lookAt_cf,Sp.look_cf s old T seg a b n]
  ·exact Sp.look_cf s old T seg a b n
theorem Sp.visL_cf(O:Nat->Bool)(T:Int)(s:Sp)(l:List Int):(s.visL O T l).1.cf=s.cf:=by
 have: ∀(l:List Int) (a:Sp×List Int),(l.foldl (λa w=>((a.1.visit O T w).1,a.2++[(a.1.visit O T w).2])) a).1.cf=a.1.cf:=λl=>by
  induction l with
  | nil=>intro a;rfl
  | cons w l b=>intro a;simp only[List.foldl_cons];rw[b];exact Sp.visit_cf _ _ _ _
 exact this l (s,[])
theorem Sp.lookCards_cf(old:Nat->Bool)(T:Int): ∀(l:List (Int×Int)) (s:Sp),(s.lookCards old T l).cf=s.cf
 | [],s=>rfl
 | c::l,s=>by
  show((s.lookCard old T c).lookCards old T l).cf=_
  rw[Sp.lookCards_cf old T l]
  exact Sp.look_cf _ _ _ _ _ _ _
theorem oJ{old:Nat->Bool}{T:Int}{a s:Sp}{c d:List (Int×Value)}(h:iG old T a c s d):s.cf=a.cf:=by
 induction h with
 | refl=>rfl
 | step k _ hk e f hn b=>rw[Sp.look_cf,b]
theorem Mem.again_lim(m:Mem)(k c:Int):(m.again k c).count=m.count/\(m.again k c).free=m.free:=by
 unfold Mem.again
 split
 ·exact⟨Mem.mark_lim.2.2,Mem.mark_lim.2.1⟩
 ·exact⟨rfl,rfl⟩
theorem Sp.agains_cf: ∀(l:List (Int×Int)) (s:Sp),(s.agains l).cf=s.cf
 | [],s=>rfl
 | c::l,s=>by
  show(({s with mem:=s.mem.again c.1 c.2}:Sp).agains l).cf=_
  rw[Sp.agains_cf l]
  unfold Sp.cf
  show(s.mem.again c.1 c.2).count+(s.mem.again c.1 c.2).free=_
  rw[(Mem.again_lim _ _ _).1,(Mem.again_lim _ _ _).2]
theorem Sp.give_cf(s:Sp)(k:Int):(s.give k).cf<=s.cf+1:=by
 unfold Sp.give
 split
 ·rename_i h
  unfold Sp.cf
  show(s.mem.give k).count+(s.mem.give k).free<=_
  unfold Mem.give
  rw[qB h]
  show s.mem.count+(s.mem.free+1)<=_
  omega
 ·omega
theorem Sp.gives_cf(s:Sp)(old:Nat->Bool): ∀n:Nat,(s.gives old n).cf<=s.cf+n
 | 0=>by show s.cf<=s.cf+0;omega
 | n+1=>by
  have:=Sp.gives_cf s old n
  unfold Sp.gives
  split
  ·have:=Sp.give_cf (s.gives old n) n
   omega
  ·omega
theorem Sp.ended_cf(s:Sp)(t:Tr):(s.ended t).cf<=s.cf+1024:=by
 unfold Sp.ended
 rw[Sp.agains_cf]
 exact Sp.gives_cf s t.old 1024
theorem uj{s:Sp}(c:SpOK s)(b:s.mem.Even)(t:Tr):(s.ended t).mem.Even:=by
 obtain⟨_,a⟩:=Sp.gives_seg s t.old 1024
 obtain⟨u,_⟩:=Sp.agains_spec t.cards (Sp.gives_ok c t.old 1024)
 intro k
 show((s.gives t.old 1024).agains t.cards |>.mem.seg k).kind<=1->_
 obtain⟨f,d,e,_⟩:=u.seg k
 show(((s.gives t.old 1024).agains t.cards).mem.seg k).kind<=1->(((s.gives t.old 1024).agains t.cards).mem.seg k).n % 2=0
 rw[d,e,a k]
 split
 ·intro _;rfl
 ·exact b k
theorem sY(b:bD i){g:Int}(c:0<=g):(List.range 1024).countP (λk=>i.young g k)=i.nyoung g:=by
 have l:=b.lim
 have a:eZ g≠[]:=λh=>by
  have:(0:Int)∈eZ g:=lQ.2 ⟨Dq _,c⟩
  rw[h]at this;cases this
 unfold Mem.nyoung Mem.takenTo
 rw[<-List.countP_eq_length_filter,show(1024:Nat)=i.limit+(1024-i.limit)by omega,mT _ _ _ (λm f j=>?_)]
 ·refine ED λk hk=>?_
  rw[Dc]at hk
  have e:=(b.seg k).taken
  have d:=(b.seg k).gen
  unfold Mem.young Mem.has
  simp only[CN,CZ,Dw,List.isEmpty_iff,a,false_or,lQ]
  rw[show((k:Nat):Int).toNat=k by omega]
  exact⟨λq=>⟨by omega,by omega⟩,λq=>⟨⟨by omega,by omega,by omega⟩,by omega⟩⟩
 ·unfold Mem.young
  refine zQ λq=>?_
  have:=q.1.2.1
  omega
theorem v7{Z:TZ}{g:Int}(f:bD Z.m)(d:0<=g)(c: ∀k:Nat,k<1024->Z.O k=Z.m.young g k):(Z.yk 0:Int)+Z.yk 1+Z.yk 2+Z.yk 3<=Z.m.nyoung g:=by
 rw[<-sY f d]
 have h:Z.yk 0+Z.yk 1+Z.yk 2+Z.yk 3<=(List.range 1024).countP (λk=>Z.m.young g k):=by
  unfold TZ.yk
  rw[<-mz,<-mz,<-mz]
  ·refine List.countP_mono_left λk hk h=>?_
   rw[Dc]at hk
   rw[<-c k hk]
   cases e:Z.O k with
   | true=>rfl
   | false=>rw[e]at h;simp at h
  all_goals
   intro x _ a b
   simp only[CZ,Dw,CN]at a b
   simp[b.2]at a
 omega
theorem jH.frmOK{g T:Int}(h:jH i g T d)(b:bD i):iL d.frm:=by
 intro k v a
 rcases DA k 0 with hk | hk
 ·rw[h.frm0 k hk]at a;cases a
 rw[h.frm k hk]at a
 split at a
 ·cases a
  exact⟨_,rfl,(b.seg _).n⟩
 ·cases a
theorem v8{l:List Nat}{T:Int}(q:bD i)(u:iL d.frm)(e:nZ d.cards)(t:dA i [T] l): ∀a∈i.weaks d l,a<=1000000:=by
 intro a m
 have o:=q.lim
 unfold Mem.weaks at m
 rcases CM.1 m with h | h
 ·obtain⟨k,hk,h⟩:=Dv.1 h
  obtain⟨_,p,_,_⟩:=t.has hk
  unfold Mem.weakSeg at h
  by_cases b:(i.seg k).kind=1/\d.old k=false
  case neg=>rw[za b]at h;simp at h
  rw[qB b]at h
  obtain⟨j,f,rfl⟩:=jI.1 h
  rw[jZ]at f
  have hn:=(q.seg k).n
  omega
 ·obtain⟨c,b,h⟩:=Dv.1 h
  have r:=e c b
  unfold Mem.weakCard at h
  by_cases hk:(i.segOr c.1).kind=1
  case neg=>rw[za hk]at h;simp at h
  rw[qB hk]at h
  obtain⟨j,f,rfl⟩:=jI.1 h
  rw[jZ]at f
  omega
def yR(O:Nat->Bool)(m:Mem)(a:Int):Mem:=if aO O (m.read a)then m.wr a ((m.fwd (m.read a)).getD 44)else m
theorem rq{m:Mem}(a:bD m)(w:Int):aD ((m.fwd w).getD 44):=by
 unfold Mem.fwd
 split
 ·have:=(a.seg (w / 8 / 64).toNat).words (w / 8 % 64).toNat
  have h:aD (m.get (w / 8)):=(a.seg _).words _
  unfold aD at h⊢
  show 0<=m.get (w / 8) / 8*8+w % 8/\_
  simp only[Option.getD_some]
  omega
 ·decide
theorem mm(O:Nat->Bool)(m:Mem)(a:Int):bG m (yR O m a):=by
 unfold yR
 split
 ·exact bG.wr m a _
 ·exact bG.refl m
theorem xd{s:Sp}(b:SpOK s)(O:Nat->Bool)(a:Int):SpOK {s with mem:=yR O s.mem a}:=by
 unfold yR
 split
 ·exact b.wr a (rq b.mem _)
 ·exact b
theorem qk(O:Nat->Bool): ∀(l:List Int) (m:Mem),bG m (l.foldl (yR O) m)
 | [],m=>bG.refl m
 | a::l,m=>(mm O m a).trans (qk O l _)
theorem sZ(O:Nat->Bool): ∀(l:List Int) {s:Sp},SpOK s->SpOK {s with mem:=l.foldl (yR O) s.mem}
 | [],s,ok=>ok
 | a::l,s,ok=>sZ O l (xd ok O a)
theorem qp{O:Nat->Bool}{m:Mem}{a x:Int}(d:m.used x):(yR O m a).get x=if x=a/\aO O (m.get x)then(m.fwd (m.get x)).getD 44 else m.get x:=by
 have f:=d.1
 unfold yR
 by_cases e:x=a
 ·subst e
  have h:m.read x=m.get x:=by unfold Mem.read;rw[qB d]
  rw[h]
  by_cases b:aO O (m.get x)
  ·rw[qB b,qB ⟨rfl,b⟩]
   unfold Mem.wr;rw[qB d,DW x f f,qB rfl]
  ·rw[za b,za (λq=>b q.2)]
 ·rw[za (show ¬(x=a/\aO O (m.get x))from λq=>e q.1)]
  split
  ·unfold Mem.wr
   by_cases c:m.used a
   ·rw[qB c,DW x f c.1,za e]
   ·rw[za c]
  ·rfl
theorem wa{O:Nat->Bool}{m:Mem}{a w:Int}(d:O (a / 64).toNat=false)(f:aO O w):(yR O m a).fwd w=m.fwd w:=by
 unfold Mem.fwd
 by_cases b:m.used (w / 8)
 ·have e:(yR O m a).get (w / 8)=m.get (w / 8):=by
   rw[qp b,za]
   rintro⟨h,_⟩
   have:=f.2.2
   rw[h,d]at this;cases this
  rw[e]
  have c:=(mm O m a).used.2 b
  exact kQ ⟨λq=>⟨b,q.2⟩,λq=>⟨c,q.2⟩⟩ _ _
 ·rw[za (λq=>b ((mm O m a).used.1 q.1)),za (λq=>b q.1)]
theorem rt(O:Nat->Bool): ∀(l:List Int) {m:Mem} {x:Int},(∀a∈l,O (a / 64).toNat=false)->(aO O (m.get x)-> ∀v,m.fwd (m.get x)=some v-> ¬aO O v)->m.used x->
  (l.foldl (yR O) m).get x=if x∈l/\aO O (m.get x)then(m.fwd (m.get x)).getD 44 else m.get x
 | [],m,x,_,_,hx=>by rw[za (λq=>by simp at q)];rfl
 | a::l,m,x,hl,hf,hx=>by
  have k:=hl a (by simp)
  have d: ∀w,aO O w->(yR O m a).fwd w=m.fwd w:=λw o=>wa k o
  have f:aO O (m.get x)-> ¬aO O ((m.fwd (m.get x)).getD 44):=λe=>by
   cases i:m.fwd (m.get x)with
   | none=>exact rm O
   | some v=>exact hf e v i
  have j:=qp (O:=O) (a:=a) hx
  have p:=rt O l (m:=yR O m a) (x:=x) (λb n=>hl b (by simp[n])) (λc v i=>by
   by_cases e:x=a/\aO O (m.get x)
   ·rw[j,qB e]at c;exact absurd c (f e.2)
   ·rw[j,za e]at c i
    exact hf c v (by rw[<-d _ c];exact i)) ((mm O m a).used.2 hx)
  show(l.foldl (yR O) (yR O m a)).get x=_
  rw[p,j]
  by_cases e:x=a/\aO O (m.get x)
  ·rw[qB e,za (λq=>f e.2 q.2),qB ⟨by rw[e.1];simp,e.2⟩]
  ·rw[za e]
   by_cases h:x∈l/\aO O (m.get x)
   ·rw[qB h,qB ⟨by simp[h.1],h.2⟩,d _ h.2]
   ·rw[za h,za (λq=>?_)]
    rcases CR.1 q.1 with r | r
    ·exact e ⟨r,q.2⟩
    ·exact h ⟨r,q.2⟩
section
variable {Z:TZ} {g F0:Int} {fw:Int->Option Int} {al:List Int} {s:Sp} {sz:Int->Nat}
theorem uZ{b:Tr}(S:aX Z g F0)(t:Tri Z F0 fw al s sz)(B:jH Z.m g Z.T b)(r:b.old=Z.O){l:List Nat}(y:dA s.mem [Z.T] l): ∀a∈s.mem.weaks b l,Z.O (a / 64).toNat=false:=by
 intro a f
 have i:=t.ok.mem.lim
 unfold Mem.weaks at f
 rcases CM.1 f with h | h
 ·obtain⟨k,hk,h⟩:=Dv.1 h
  have v:((k:Nat):Int).toNat=k:=by omega
  unfold Mem.weakSeg at h
  by_cases d:(s.mem.seg k).kind=1/\b.old k=false
  case neg=>rw[za d]at h;simp at h
  rw[qB d]at h
  obtain⟨j,e,rfl⟩:=jI.1 h
  rw[jZ]at e
  have hn:=(t.ok.mem.seg k).n
  have u:=B.frmAt (k:=k) (by omega)
  have q:0<=seenAt b.frm k:=by
   rw[u]
   split
   ·exact(S.ok.seg _).n.1
   ·exact Dq _
  rw[show((k:Int)*64+(seenAt b.frm k+2*(j:Int))) / 64=k by omega,v,<-r];exact d.2
 ·obtain⟨c,d,h⟩:=Dv.1 h
  obtain⟨o,p,w,x⟩:=B.cardOf S c d
  unfold Mem.weakCard at h
  by_cases hk:(s.mem.segOr c.1).kind=1
  case neg=>rw[za hk]at h;simp at h
  rw[qB hk]at h
  obtain⟨j,e,rfl⟩:=jI.1 h
  rw[jZ]at e
  have q:=o.1
  rw[show(c.1*64+(c.2*16+2*(j:Int))) / 64=c.1 by omega];exact p
theorem Tri.fwd_is(S:aX Z g F0)(t:Tri Z F0 fw al s sz){w:Int}(k:aD w)(d:Good Z.m Z.sz w)(f:aO Z.O w):s.mem.fwd w=(fw (w / 8)).map λb=>b*8+w % 8:=by
 obtain⟨h,o,p,q⟩:=S.oldWord d f
 obtain⟨n,r⟩:=S.sound.used _ h
 cases c:fw (w / 8)with
 | none=>exact(t.same_size S k d f c).2.1
 | some b=>
  obtain⟨_,l⟩:=t.img _ _ c
  have a:s.mem.used b:=by simpa using l.here 0 (by omega)
  have e:=t.ok.mem.lim
  have i:=a.2.1.2.1
  have j:=a.1
  unfold Mem.fwd
  rw[t.word _ _ c,qB ⟨t.heads.used n,⟨by omega,by omega⟩,by omega⟩]
  show some _=some _
  congr 2;omega
structure rT (Z:TZ) (fw:Int->Option Int) (s s':Sp):Prop extends Broke Z fw s s' where
 exact: ∀x v,s.mem.used x->Z.O (x / 64).toNat=false->s.mem.kAt x=1->x % 2=0->Was Z fw x v->s'.mem.get x=if aO Z.O v/\fw (v / 8)=none then 44 else Fw Z.O fw v
 old: ∀x,s.mem.used x->Z.O (x / 64).toNat=true->s'.mem.get x=s.mem.get x
theorem rT.of{tr:Tr}(S:aX Z g F0)(t:Tri Z F0 fw al s sz)(hm:lR Z.m)(B:jH Z.m g Z.T tr)(D:tr.old=Z.O){l:List Nat}(A:dA s.mem [Z.T] l):rT Z fw s {s with mem:=(s.mem.weaks tr l).foldl (yR Z.O) s.mem}:=by
 have i:=uZ S t B D A
 have key: ∀x v,s.mem.used x->Z.O (x / 64).toNat=false->s.mem.kAt x=1->x % 2=0->Was Z fw x v->((s.mem.weaks tr l).foldl (yR Z.O) s.mem).get x=if aO Z.O v/\fw (v / 8)=none then 44 else Fw Z.O fw v:=λx v d f hk y n=>by
  have j:s.mem.get x=v:=by
   rcases t.val x v n with r | ⟨r,_⟩
   ·exact r
   ·have:=r.2.resolve_left (λe=>e hk);omega
  obtain⟨J,K⟩:=t.was_any S n (by rw[hk];decide)
  have p:aO Z.O v->s.mem.fwd v=(fw (v / 8)).map λb=>b*8+v % 8:=λo=>t.fwd_is S J (K o) o
  rw[rt Z.O _ i (λo C c=>?_) d,j]
  ·by_cases o:aO Z.O v
   ·have z:=rp S t hm B D A d f hk y n o
    rw[qB ⟨z,o⟩,p o]
    cases k:fw (v / 8)with
    | none=>rw[qB ⟨o,rfl⟩];rfl
    | some b=>rw[za (λq=>by cases q.2),kq o k];rfl
   ·rw[za (λq=>o q.2),za (λq=>o q.1),jv o]
  ·rw[j]at o c
   rw[p o]at c
   cases k:fw (v / 8)with
   | none=>rw[k]at c;cases c
   | some b=>
    rw[k]at c;cases c
    have I:=(t.img _ _ k).2
    intro q
    have:=q.2.2
    rw[show(b*8+v % 8) / 8=b by omega,I.out]at this
    cases this
 have u: ∀(l:List Int) (m:Mem) (x:Int),m.used x->x ∉ l->(l.foldl (yR Z.O) m).get x=m.get x:=λl=>by
  induction l with
  | nil=>intro m x _ _;rfl
  | cons a l H=>
   intro m x hm hn
   show(l.foldl (yR Z.O) (yR Z.O m a)).get x=_
   rw[H _ x ((mm _ m a).used.2 hm) (λq=>hn (by simp[q])),qp hm,za (λq=>hn (by simp[q.1]))]
 refine⟨⟨qk _ _ _,rfl,sZ _ _ t.ok,λx d f G=>?_,λx d f hk y=>?_⟩,key,λx d f=>u _ _ x d (λq=>by have:=i x q;rw[f]at this;cases this)⟩
 ·show((s.mem.weaks tr l).foldl (yR Z.O) s.mem).get x=_
  have w:x ∉ s.mem.weaks tr l:=λq=>by
   obtain⟨E,F,_⟩:=rn S t B A x q
   exact G ⟨E,F⟩
  exact u _ _ x d w
 ·obtain⟨v,n⟩:=t.was d f
  show((s.mem.weaks tr l).foldl (yR Z.O) s.mem).get x=44\/_
  by_cases o:aO Z.O v/\fw (v / 8)=none
  ·left;rw[key x v d f hk y n,qB o]
  ·right
   intro C c
   obtain rfl:=t.was_one c n
   refine⟨λh=>?_,?_⟩
   ·cases k:fw (C / 8)with
    | none=>exact absurd ⟨h,k⟩ o
    | some b=>exact⟨b,rfl⟩
   ·show((s.mem.weaks tr l).foldl (yR Z.O) s.mem).get x=_
    rw[key x C d f hk y n,za o]
end
theorem nJ{c:Sp}{g T a:Int}(hm:0<=a)(b:iM c g T a=0):(0<=g/\g<4/\g<=T/\T<=g+1)/\2*(c.mem.nyoung g:Int)+8+a<=c.mem.free:=by
 unfold iM at b
 by_cases d:g<0\/4<=g\/T<g\/g+1<T\/a<0
 ·rw[qB d]at b;exact absurd b (by decide)
 ·rw[za d]at b
  by_cases e:c.mem.free-2*c.mem.nyoung g-8<a
  ·rw[qB e]at b;exact absurd b (by decide)
  ·omega
theorem Inv.static{a:Sp}{b:Int->Nat}{g T d:Int}{e:Tr}{V:Int->Prop}(I:Inv a b)(h:0<=d)(l:iM a g T d=0)(B:jH a.mem g T e)(q: ∀v,V v->aD v/\Good a.mem b v):
  aX ⟨a.mem,b,e.old,T,V,λ_=>none,[]⟩ g a.mem.free/\Tri ⟨a.mem,b,e.old,T,V,λ_=>none,[]⟩ a.mem.free (λ_=>none) [] (a.fresh (eZ g)) b:=by
 have c:=nJ h l
 have S:aX ⟨a.mem,b,e.old,T,V,λ_=>none,[]⟩ g a.mem.free:=by
  refine⟨I.ok.mem,I.even,I.sound,λk hk=>?_,c.1,?_,q⟩
  ·show e.old k=true ↔ _
   rw[B.old k hk]
   unfold Mem.young
   rw[CN]
  ·have t: ∀Z:TZ,Z.m=a.mem->Z.O=e.old->Z.P=[]->2*((Z.yk 0:Int)+Z.yk 1+Z.yk 2+Z.yk 3)+8+((Z.P.length / 32:Nat):Int)<=a.mem.free:=λZ f n o=>by
    have p:=v7 (Z:=Z) (g:=g) (by rw[f];exact I.ok.mem) c.1.1 (λk hk=>by rw[f,n];exact B.old k hk)
    have u:=c.2
    rw[f]at p
    rw[o]
    simp
    omega
   exact t _ rfl rfl rfl
 exact⟨S,Tri.begin' S (Sp.fresh_ok I.ok _) rfl rfl (λi j r=>by
   show(if eZ g=[]\/((i:Nat):Int)∈eZ g then(0:Int)else a.cur i j)=0
   rw[qB (.inr (lQ.2 ⟨by omega,r⟩))]) (λ_=>rfl) rfl⟩
structure ta (Z:TZ) (s0:Sp) (g:Int) (tr:Tr) (fw:Int->Option Int) (al:List Int) (sz:Int->Nat) (s3 s4 s5:Sp):Prop where
 t:fM Z g s0.mem.free fw al sz tr s3 s4 s5.mem
 brk:rT Z fw s3 s4
 inv:Inv s5 (zF Z.O sz)
theorem Tri.ends{Z:TZ}{h:Sp}{g:Int}{tr:Tr}{fw:Int->Option Int}{al:List Int}{sz:Int->Nat}{a:Sp}{l:List Nat}(S:aX Z g h.mem.free)(i:Tri Z h.mem.free fw al a sz)(hm:lR Z.m)(B:jH Z.m g Z.T tr)(n:tr.old=Z.O)(j:Fin Z fw a)(c: ∀v,Z.V v->Dn Z.O fw v)(q:dA a.mem [Z.T] l):
  ta Z h g tr fw al sz a {a with mem:=(a.mem.weaks tr l).foldl (yR tr.old) a.mem} (({a with mem:=(a.mem.weaks tr l).foldl (yR tr.old) a.mem}:Sp).ended tr):=by
 have b:=rT.of S i hm B n q
 rw[n]
 have e: ∀k:Nat,k<1024->Z.O k=true->({a with mem:=(a.mem.weaks tr l).foldl (yR Z.O) a.mem}:Sp).mem.has k:=λk hk r=>b.same.has.2 (i.heads.has ((S.old k hk).1 r).1)
 obtain⟨o,f⟩:=Sp.ended_spec (Z:=Z) (tr:=tr) n b.ok e
 have p:({a with mem:=(a.mem.weaks tr l).foldl (yR Z.O) a.mem}:Sp).mem.Even:=b.same.even i.even
 have d:=uj b.ok p tr
 have t:fM Z g h.mem.free fw al sz tr a _ _:=⟨S,i,j,c,b.toBroke,o,B,hm⟩
 exact⟨t,b,⟨f,d,t.sound,t.marks⟩⟩
theorem mD{H:zV}{b:Blk}{x:Hp}{q:TB}{t:Tr}(T:Tc H b x q t):iU.C (some ⟨q.t,0,none⟩) H (λv a=>v=.bool t.over/\a=H):=by
 refine HC.via λR c=>iU.link ?_
 unfold iU.pt
 rw[CK]
 have h:dY.C (some ⟨q.t,0,none⟩) H (λv a=>v=.bool t.over/\a=H):=by
  refine HC.via λR c=>dY.link ?_
  unfold dY.pt
  refine HC.mono (k8 T) ?_
  rintro _ _ ⟨rfl,rfl⟩
  exact⟨_,rfl,c _ _ ⟨rfl,rfl⟩⟩
 refine HC.mono h ?_
 rintro _ _ ⟨rfl,rfl⟩
 exact⟨_,rfl,c _ _ ⟨rfl,rfl⟩⟩
variable{H:zV}
theorem xe{b d:Nat}{m:Mem}{a:Int}(h:cS H b d m)(f:bD m)(e:a<=9223372036854775807):
  cG.C (some ⟨b,0,none⟩) a H (λv c=>v=.tuple #[vu (m.read a),vi (if m.used a then 0 else 18)]/\c=H):=
 HC.mono (jX h f e) (by
  rintro _ _ ⟨rfl,rfl⟩
  refine⟨?_,rfl⟩
  unfold Mem.read
  split<;>rfl)
set_option maxRecDepth 100000 in
theorem qJ{b:Blk}{y:Hp}{q:TB}{t:Tr}(T:Tg H b y q t)(hf:iL t.frm)(K:nZ t.cards):
  jp.C (some ⟨q.t,0,none⟩) H (λ_ H'=> ∃l,dA y.sp.mem [t.tgt] l/\Tg H' b {y with sp:={y.sp with mem:=(y.sp.mem.weaks t l).foldl (yR t.old) y.sp.mem}} q t/\Fr (y9 b) H H'):=by
 refine HC.via λR hR=>jp.link ?_
 unfold jp.pt zY
 refine HC.mono (mD T.toTc) ?_
 rintro _ H1 ⟨rfl,rfl⟩
 refine⟨_,rfl,?_⟩
 rw[za (by rw[T.on];decide)]
 refine HC.mono (ug T hf K) ?_
 rintro _ H2 ⟨l,wB,wN,wC,hl,rfl,Y,hr,a5,an,e2⟩
 have hw:=v8 T.ok.mem hf K hl
 have a2: ∀j∈kd wB,j ∉ b.all:=λj hj h=>by have:=a5 j hj;have:=T.lt (.inl h);omega
 refine⟨_,_,_,rfl,?_⟩
 generalize X:y.sp.mem.weaks t l=W at*
 subst Y
 refine⟨λk A=>(0<=k/\k<=W.length)/\Tg A b {y with sp:={y.sp with mem:=(W.take k.toNat).foldl (yR t.old) y.sp.mem}} q t/\Fr (y9 b) H2 A,λk _=>(W.length-k).toNat,
  ⟨⟨by omega,by omega⟩,T.grow e2,Fr.refl _ _⟩,?_⟩
 rintro k A ⟨hk,o,O⟩
 by_cases x:k< (W.length:Int)
 case neg=>
  rw[za x]
  rw[De (by omega)]at o
  exact hR _ _ ⟨l,hl,by rw[X];exact o,e2.fr.trans O⟩
 rw[qB x]
 have u:k.toNat<W.length:=by omega
 have M:=CS u
 have a1:=hr.keep O (λj hj hs=>a2 j hj (jO hs))
 obtain⟨a,ha,J⟩:=nY a1.src (i:=k.toNat) u
 have a3:W.take (k+1).toNat=W.take k.toNat++[W[k.toNat]]:=by rw[show(k+1).toNat=k.toNat+1 by omega,Db u]
 have L:(W.take (k+1).toNat).foldl (yR t.old) y.sp.mem=yR t.old ((W.take k.toNat).foldl (yR t.old) y.sp.mem) W[k.toNat]:=by rw[a3,D5];rfl
 have ao:=hw _ M
 generalize W[k.toNat]=w at*
 have P:=o.hp
 have hd:((W.length:Int)-(k+1)).toNat< ((W.length:Int)-k).toNat:=by omega
 refine⟨a,ha,⟨hk.1,x⟩,_,J,_,rfl,_,o.tr.hPtr,_,rfl,_,P.hPtr,_,rfl,_,P.cd.cPtr,_,rfl,_,P.cd.sp.memPtr,?_⟩
 rw[xT (n:=k+1) (by omega)]
 generalize ai:(W.take k.toNat).foldl (yR t.old) y.sp.mem=m at*
 refine HC.mono (xe P.cd.sp.mem o.ok.mem (by omega)) ?_
 rintro _ A1 ⟨rfl,rfl⟩
 refine⟨_,_,rfl,?_⟩
 have B:aD (m.read w):=DY o.ok.mem w
 refine HC.mono (pY o.toTc B) ?_
 rintro _ A2 ⟨rfl,r⟩
 refine⟨_,rfl,?_⟩
 have S:=o.grow r
 by_cases z:aO t.old (m.read w)
 case neg=>
  rw[za (by simp[z])]
  have U:yR t.old m w=m:=by unfold yR;rw[za z]
  exact⟨⟨⟨by omega,by omega⟩,by rw[L,U];exact S,O.trans r.fr⟩,hd⟩
 rw[qB (zX ⟨o.on,z⟩)]
 refine HC.mono (kP S.toTc B) ?_
 rintro _ A3 ⟨rfl,e3⟩
 refine⟨_,rfl,?_⟩
 have E:=S.grow e3
 have c:=E.hp
 have G:=r.trans e3
 have I: ∀(D g:zV) (v:Int),aD v->v=(m.fwd (m.read w)).getD 44->Tg D b {y with sp:={y.sp with mem:=m}} q t->Fr (y9 b) A1 D->cS g b.m b.s (if m.used w then m.set w v else m)->Fr [b.s] D g->
   (((0<=k+1/\k+1<=(W.length:Int))/\Tg g b {y with sp:={y.sp with mem:=(W.take (k+1).toNat).foldl (yR t.old) y.sp.mem}} q t/\Fr (y9 b) H2 g)/\((W.length:Int)-(k+1)).toNat< ((W.length:Int)-k).toNat):=by
  intro D g v Q a4 d V f F
  have U:yR t.old m w=m.wr w v:=by unfold yR;rw[qB z,<-a4]
  refine⟨⟨⟨by omega,by omega⟩,?_,(O.trans V).trans (F.mono (λi Z _=>by simp at Z;simp[y9];omega))⟩,hd⟩
  rw[L,U]
  refine⟨d.toTc.withMem (m:=m.wr w v) F (λi Z=>by simp at Z;omega) f (d.ok.wr w Q),(bG.wr m w v).even d.even,?_,d.on⟩
  have:=d.cf
  unfold Sp.cf at this⊢
  show(m.wr w v).count+(m.wr w v).free<_
  rw[(bG.wr m w v).count,(bG.wr m w v).free];exact this
 have aj: ¬ ¬(t.over=false/\aO t.old (m.read w)):=λh=>h ⟨T.on,z⟩
 cases e:m.fwd (m.read w)with
 | some v=>
  rw[qB (by simp[e])]
  refine⟨_,E.tr.hPtr,_,rfl,_,c.hPtr,_,rfl,_,c.cd.cPtr,_,rfl,_,c.cd.sp.memPtr,?_⟩
  have N:=Sp.visit_fwd (s:={y.sp with mem:=m}) (T:=t.tgt) z e
  refine HC.mono (jY E B) ?_
  rintro _ D ⟨rfl,d,V⟩
  rw[N]at d⊢
  have p:=d.hp
  refine⟨_,rfl,zt d.tr.hPtr,zt p.hPtr,zt p.cd.cPtr,zt p.cd.sp.memPtr,?_⟩
  refine HC.mono (iQ p.cd.sp.mem d.ok.mem (by omega)) ?_
  rintro _ g ⟨rfl,f,F⟩
  have Q:v=(m.fwd (m.read w)).getD 44:=by rw[e];rfl
  exact⟨_,rfl,I D g v (by rw[Q];exact rq d.ok.mem _) Q d (G.fr.trans V) f F⟩
 | none=>
  rw[za (by simp[e,T.on,z])]
  refine⟨_,E.tr.hPtr,_,rfl,_,c.hPtr,_,rfl,_,c.cd.cPtr,_,rfl,_,c.cd.sp.memPtr,?_⟩
  refine HC.mono (iQ c.cd.sp.mem E.ok.mem (by omega)) ?_
  rintro _ g ⟨rfl,f,F⟩
  exact⟨_,rfl,I A3 g 44 (by decide) (by rw[e];rfl) E G.fr f F⟩
def zR(k:Nat)(a:Addr)(n:Nat):List Value:=List.replicate k (vp none)++(List.range n).map λi=> Vq (a.add (i*1))
theorem xf{k n i:Nat}{a:Addr}(h:i<k):(zR k a n)[i]?=some (vp none):=by
 unfold zR
 rw[List.getElem?_append_left (by simpa using h),List.getElem?_replicate,qB h]
theorem xg{k n i:Nat}{a:Addr}(h:i<n):(zR k a n)[k+i]?=some (Vq (a.add (i*1))):=by
 unfold zR
 rw[List.getElem?_append_right (by simp),EK,show k+i-k=i by omega,List.getElem?_map,List.getElem?_range h];rfl
theorem rU{B:zW}{vs:List Value}(h:dO H B vs){k:Nat}{v:Value}(hk:vs[k]?=some v): ∃a,B=some a/\hat H (a.add (k*1))=some v:=by
 have b:k<vs.length:=by
  rcases C6 k vs.length with h | h
  ·exact h
  ·simp[List.getElem?_eq_none h]at hk
 cases B with
 | none=>have e:vs=[]:=h;rw[e]at b;simp at b
 | some a=>
  refine⟨a,rfl,?_⟩
  have c:aL H a 0 vs:=h
  have:=gE c k v hk
  rw[CQ]at this
  rw[Dd];exact this
structure Cel (S:List Nat) (ra:Addr) (K:zV->List Int->Prop):Prop where
 keep: ∀{T:List Nat} {A A':zV} {ws:List Int},K A ws->Fr T A A'->(∀j∈S,j ∉ T)->K A' ws
 at': ∀{A:zV} {ws:List Int} {i:Nat},K A ws->(h:i<ws.length)->hat A (ra.add (i*1))=some (vu ws[i])
 put: ∀{A:zV} {ws:List Int} {i:Nat} (v:Int),K A ws->i<ws.length->aH A (ra.add (i*1)) 0 1/\ ∀A',A'=aP A (ra.add (i*1)) [vu v] 0->K A' (ws.set i v)/\Fr S A A'
 lt: ∀{A:zV} {ws:List Int},K A ws-> ∀j∈S,j<A.size
theorem Cel.own(k:zW)(n r:Nat):Cel (kd k) (k.getD default) (λA ws=>ws.length=n/\Own A 28 1 k n r (yE ws)):=by
 refine⟨λ{T A l ws} h f q=>⟨h.1,h.2.keep f q⟩,λ{A ws i} h b=>?_,λ{A ws i} v h b=>?_,λh=>h.2.lt⟩
 ·obtain⟨a,g,c⟩:=h.2.at (j:=i) (v:=vu ws[i]) (by unfold yE;rw[List.getElem?_map,List.getElem?_eq_getElem b];rfl)
  subst g
  rw[Option.getD_some,Dd];exact c
 ·obtain⟨a,g,_⟩:=h.2.at (j:=i) (v:=vu ws[i]) (by unfold yE;rw[List.getElem?_map,List.getElem?_eq_getElem b];rfl)
  subst g
  obtain⟨c,m⟩:=h.2.put (i:=i) (by rw[<-h.1];exact b) (vu v)
  rw[Option.getD_some,Dd]
  refine⟨c,λl d=>?_⟩
  obtain⟨o,p⟩:=m l d
  refine⟨⟨by rw[EB];exact h.1,?_⟩,by simpa using p⟩
  have e:(yE ws).set i (vu v)=yE (ws.set i v):=by unfold yE;rw[List.map_set]
  rw[<-e];exact o
variable{d i:Int}{j:Blk}{k:Hp}{o:Mem}{r:Sp}{u:TB}{v:Tr}{H:zV}
theorem lY{A a A3:zV}{b:Nat}{c:Array Value}{T:TypeId}(j:b=A.size)(d:a=A.push (.cells c T (0,0)))(vs:List Value)(l:vs.length=c.size):
  aH a (Addr.mk b 0 none) 0 vs.length/\(A3=aP a (Addr.mk b 0 none) vs 0->A3[b]?=some (.cells (splice c 0 vs) T (0,0))/\Ext A A3):=by
 have g:=aF j d
 have e:Ext A a:=CI d
 refine⟨cR g _ _ _ (by omega),λh=>?_⟩
 rw[bY vs a c 0 0 g]at h
 rw[h]
 have f:Fr [b] a (aM a b (.cells (splice c (0+0) vs) T (0,0))):=Fr.set
 exact⟨aT (aS g),e.fr_trans f (λi k=>by simp at k;omega)⟩
def Sp.putT(s:Sp)(T car cdr:Int):Sp×Int:=
 if(s.alloc T 0 2).2.2=0 then({(s.alloc T 0 2).1 with mem:=(s.alloc T 0 2).1.mem.sets (s.alloc T 0 2).2.1 [car,cdr]},(s.alloc T 0 2).2.1*8+1)else(s,20)
theorem Sp.putT_word(b:SpOK r){a:Int}:aD (r.putT d i a).2:=by
 unfold Sp.putT
 split
 ·rename_i h
  obtain⟨e,c⟩:=DG b h
  obtain⟨f,g,j⟩:=c.addr
  have:=b.mem.lim
  show aD ((r.alloc d 0 2).2.1*8+1)
  constructor<;>omega
 ·exact(by decide:aD 20)
theorem wb(T:Tg H j k u v)(p:aD d)(Q:aD i):
  fC.C (some ⟨u.t,0,none⟩) d i H (λah J=>ah=vu (k.sp.putT v.tgt d i).2/\Tg J j {k with sp:=(k.sp.putT v.tgt d i).1} u v/\Fr (y9 j) H J):=by
 refine HC.via λR o=>fC.link ?_
 unfold fC.pt zY
 refine HC.mono (k8 T.toTc) ?_
 rintro _ W ⟨rfl,B⟩
 obtain rfl:H=W:=B.symm
 refine⟨_,rfl,?_⟩
 rw[za (by rw[T.on];decide)]
 obtain⟨Y,Z,p3,p4⟩:=T.s1
 refine⟨_,rfl,_,Y,_,rfl,_,Z,_,rfl,_,p3,_,by rw[CH];exact T.tr.tgtAt,?_⟩
 refine HC.mono (l9 T.hp.cd.sp T.ok (Sp.cf_count T.ok T.cf)) ?_
 rintro _ K ⟨rfl,F,M⟩
 refine⟨_,_,rfl,?_⟩
 have A:=T.hp.withSp M (λag c=>by simp at c;omega) F
 have f:Fr (y9 j) H K:=M
 by_cases l:(k.sp.alloc v.tgt 0 2).2.2=0
 case neg=>
  rw[za l]
  have z:k.sp.putT v.tgt d i=(k.sp,20):=by unfold Sp.putT;rw[za l]
  rw[z]at o
  rw[Sp.alloc_fail T.ok l]at A
  exact o _ _ ⟨rfl,⟨T.toTc.step f (λag c=>jO c) A T.ok,T.even,T.cf,T.on⟩,f⟩
 rw[qB l]
 have z:k.sp.putT v.tgt d i=({(k.sp.alloc v.tgt 0 2).1 with mem:=(k.sp.alloc v.tgt 0 2).1.mem.sets (k.sp.alloc v.tgt 0 2).2.1 [d,i]},(k.sp.alloc v.tgt 0 2).2.1*8+1):=by unfold Sp.putT;rw[qB l]
 rw[z]at o
 obtain⟨g,P⟩:=DG T.ok l
 have s:=(P.even T.even (λ_=>by decide)).1
 have q:(k.sp.alloc v.tgt 0 2).1.cf=k.sp.cf:=Sp.alloc_cf _ _ _ _
 simp only at o
 generalize hr:k.sp.alloc v.tgt 0 2=r at*
 obtain⟨b,a,e⟩:=r
 simp only at*
 have S:=T.ok.mem.lim
 obtain⟨a0,a1,a2⟩:=P.addr
 have x:Tc K j {k with sp:=b} u v:=T.toTc.step f (λag c=>jO c) A g
 obtain⟨r1,r2,r3,r4⟩:=x.s1
 refine⟨_,r1,_,rfl,_,r2,_,rfl,_,r3,_,rfl,_,r4,?_⟩
 refine HC.mono (iQ x.hp.cd.sp.mem x.ok.mem (by omega)) ?_
 rintro _ U ⟨rfl,D,N⟩
 have G:SpOK {b with mem:=if b.mem.used a then b.mem.set a d else b.mem}:=g.sets a (ws:=[d]) (by intro w t;simp at t;rw[t];exact p)
 have y:Tc U j {k with sp:={b with mem:=if b.mem.used a then b.mem.set a d else b.mem}} u v:=x.withMem N (λag c=>by simp at c;exact .inr c) D G
 obtain⟨q1,q2,q3,q4⟩:=y.s1
 refine⟨_,rfl,_,q1,_,rfl,_,q2,_,rfl,_,q3,_,rfl,_,q4,?_⟩
 rw[xT (n:=a+1) (by omega)]
 refine HC.mono (iQ y.hp.cd.sp.mem y.ok.mem (by omega)) ?_
 rintro _ V ⟨rfl,E,O⟩
 have I:SpOK {b with mem:=b.mem.sets a [d,i]}:=g.sets a (ws:=[d,i]) (by intro w t;simp at t;rcases t with rfl | rfl<;>assumption)
 have X:Tc V j {k with sp:={b with mem:=b.mem.sets a [d,i]}} u v:=y.withMem (m:=b.mem.sets a [d,i]) O (λag c=>by simp at c;exact .inr c) E I
 refine⟨_,rfl,HC.mono (lG (by omega) (by omega)) ?_⟩
 rintro _ H5 ⟨rfl,L⟩
 rw[za (by decide),qB (by omega)]
 refine⟨_,_,rfl,o _ _ ⟨rfl,⟨X.ext L,(bG.sets _ _ _).even s,?_,T.on⟩,?_⟩⟩
 ·have h:=bG.sets [d,i] b.mem a
  show({b with mem:=b.mem.sets a [d,i]}:Sp).cf<_
  have:({b with mem:=b.mem.sets a [d,i]}:Sp).cf=b.cf:=by unfold Sp.cf;simp only[];rw[h.count,h.free]
  rw[this,q];exact T.cf
 ·exact((f.trans (N.mono (λag c _=>by simp at c;simp[y9];omega))).trans (O.mono (λag c _=>by simp at c;simp[y9];omega))).trans L.fr
theorem Mem.store_even{m:Mem}(h:m.Even)(a w:Int):(m.store a w).1.Even:=λk hk=>by
 obtain⟨_,b,c⟩:=Dh (m:=m) (a:=a) (w:=w) k
 rw[c];exact h k (by rw[<-b];exact hk)
theorem Tg.set{a:zV}(T:Tg H j k u v)(V:View a (some ⟨j.h,0,none⟩) (some (j,k.setMem o)))(f:Fr (own (some (j,k))) H a)(c:o.Even)(b:o.free=k.sp.mem.free/\o.count=k.sp.mem.count):Tg a j (k.setMem o) u v/\Fr (y9 j) H a:=by
 obtain⟨-,e,g⟩:=V.inv
 refine⟨⟨T.toTc.step f (λi d=>jO d) e g,c,?_,T.on⟩,f⟩
 have:(k.setMem o).sp.cf=k.sp.cf:=by unfold Sp.cf Hp.setMem;simp only[];rw[b.1,b.2]
 rw[this];exact T.cf
def Mem.hset(m:Mem)(w i v:Int):Mem:=if m.isPair w then(m.store (w / 8+i) v).1 else m
def Mem.hsetE(m:Mem)(w i v:Int):Int:=if m.isPair w then(m.store (w / 8+i) v).2 else 3
def Mem.fset(m:Mem)(w kind i v:Int):Mem:=if m.fieldE w kind i=0 then(m.store (w / 8+1+i) v).1 else m
theorem Mem.hset_fc(m:Mem)(w i v:Int):(m.hset w i v).free=m.free/\(m.hset w i v).count=m.count:=by
 unfold Mem.hset
 split
 ·exact(DO (m:=m)).2
 ·exact⟨rfl,rfl⟩
theorem Mem.fset_fc(m:Mem)(w k i v:Int):(m.fset w k i v).free=m.free/\(m.fset w k i v).count=m.count:=by
 unfold Mem.fset
 split
 ·exact(DO (m:=m)).2
 ·exact⟨rfl,rfl⟩
theorem Mem.hset_even(h:o.Even)(w i v:Int):(o.hset w i v).Even:=by
 unfold Mem.hset;split
 ·exact Mem.store_even h _ _
 ·exact h
theorem Mem.fset_even(h:o.Even)(w k i v:Int):(o.fset w k i v).Even:=by
 unfold Mem.fset;split
 ·exact Mem.store_even h _ _
 ·exact h
def Mem.lastG(m:Mem)(g:Int):Int:=if m.fieldE g 10 1=0 then m.get (g / 8+1+1)else 0
def Mem.queued(m:Mem)(g p:Int):Mem:=
 if m.hsetE (m.lastG g) 1 p=0 then(m.hset (m.lastG g) 1 p).fset g 10 1 p else((m.hset (m.lastG g) 1 p).fset g 10 0 p).fset g 10 1 p
def Sp.putsG(s:Sp)(T g th:Int):Sp:=
 if s.mem.typ g=10/\s.mem.len g=2 then(if(s.putT T th 20).2=20 then(s.putT T th 20).1 else{(s.putT T th 20).1 with mem:=(s.putT T th 20).1.mem.queued g (s.putT T th 20).2})else s
theorem ya(T:Tg H j k u v)(F:aD d)(O:aD i):
  kg.C (some ⟨u.t,0,none⟩) d i H (λ_ P=>Tg P j {k with sp:=k.sp.putsG v.tgt d i} u v/\Fr (y9 j) H P):=by
 refine HC.via λR e=>kg.link ?_
 unfold kg.pt
 have hm: ∀y:Hp,yP (some (j,y))=y.sp.mem:=λ_=>rfl
 refine⟨_,rfl,_,T.s1.1,HC.mono (jN T.view F) ?_⟩
 rw[hm]
 rintro _ H1 ⟨rfl,n⟩
 refine⟨_,rfl,?_⟩
 by_cases t:k.sp.mem.typ d=10
 case neg=>
  rw[za t]
  have g:k.sp.putsG v.tgt d i=k.sp:=by unfold Sp.putsG;rw[za (λh=>t h.1)]
  rw[g]at e
  exact e _ _ ⟨T.grow n,n.fr⟩
 rw[qB t]
 have x:=T.grow n
 refine⟨_,x.s1.1,HC.mono (nf x.view F) ?_⟩
 rw[hm]
 rintro _ H2 ⟨rfl,D⟩
 refine⟨_,rfl,?_⟩
 by_cases r:k.sp.mem.len d=2
 case neg=>
  rw[za r]
  have g:k.sp.putsG v.tgt d i=k.sp:=by unfold Sp.putsG;rw[za (λh=>r h.2)]
  rw[g]at e
  exact e _ _ ⟨x.grow D,(n.trans D).fr⟩
 rw[qB r]
 have Z:=x.grow D
 refine HC.mono (wb Z O (by decide)) ?_
 rintro _ W ⟨rfl,m,f3⟩
 refine⟨_,rfl,?_⟩
 have o:Fr (y9 j) H W:=(n.trans D).fr.trans f3
 by_cases hn:(k.sp.putT v.tgt i 20).2=20
 ·rw[qB hn]
  have g:k.sp.putsG v.tgt d i=(k.sp.putT v.tgt i 20).1:=by unfold Sp.putsG;rw[qB ⟨t,r⟩,qB hn]
  rw[g]at e
  exact e _ _ ⟨m,o⟩
 rw[za hn]
 have g:k.sp.putsG v.tgt d i={(k.sp.putT v.tgt i 20).1 with mem:=(k.sp.putT v.tgt i 20).1.mem.queued d (k.sp.putT v.tgt i 20).2}:=by unfold Sp.putsG;rw[qB ⟨t,r⟩,za hn]
 rw[g]at e
 have s:aD (k.sp.putT v.tgt i 20).2:=Sp.putT_word T.ok
 generalize k.sp.putT v.tgt i 20=pr at*
 obtain⟨a,p⟩:=pr
 simp only at*
 refine⟨_,m.s1.1,HC.mono (qY m.view F (by decide)) ?_⟩
 rw[hm]
 rintro _ H4 ⟨rfl,Q⟩
 have G:=m.grow Q
 have N:aD (a.mem.lastG d):=by
  unfold Mem.lastG
  split
  ·exact(m.ok.mem.seg _).words _
  ·decide
 refine⟨a.mem.lastG d,_,rfl,_,G.s1.1,HC.mono (nU G.view N s) ?_⟩
 rintro _ X ⟨rfl,V5,f5⟩
 have U:hsetE (some (j,({k with sp:=a}:Hp))) (a.mem.lastG d) 1 p=a.mem.hsetE (a.mem.lastG d) 1 p:=rfl
 have J:View X (some ⟨j.h,0,none⟩) (some (j,({k with sp:=a}:Hp).setMem (a.mem.hset (a.mem.lastG d) 1 p))):=V5
 obtain⟨z,L⟩:=G.set J f5 (Mem.hset_even m.even _ _ _) (Mem.hset_fc _ _ _ _)
 have q:=(o.trans Q.fr).trans L
 refine⟨_,rfl,?_⟩
 rw[U]
 have b: ∀{A:zV} {y:Hp} {ae:Int} {K:zV->Prop},Tg A j y u v->Ah ae->(∀c,Tg c j (y.setMem (y.sp.mem.fset d 10 ae p)) u v->Fr (y9 j) A c->K c)->eN.C (some ⟨j.h,0,none⟩) d 10 ae p A (λaf c=> ∃w:Int,af=vi w/\K c):=λ{A y ae K} I hi hK=>by
  refine HC.mono (qZ I.view F hi s) ?_
  rintro _ c ⟨rfl,V,f⟩
  have V':View c (some ⟨j.h,0,none⟩) (some (j,y.setMem (y.sp.mem.fset d 10 ae p))):=V
  obtain⟨Y,f'⟩:=I.set V' f (Mem.fset_even I.even _ _ _ _) (Mem.fset_fc _ _ _ _ _)
  exact⟨_,rfl,hK c Y f'⟩
 by_cases E:a.mem.hsetE (a.mem.lastG d) 1 p=0
 ·rw[qB E]
  refine⟨_,z.s1.1,b z (by decide) λc B M=>e _ _ ⟨?_,q.trans M⟩⟩
  have l:a.mem.queued d p=(a.mem.hset (a.mem.lastG d) 1 p).fset d 10 1 p:=by unfold Mem.queued;rw[qB E]
  rw[l];exact B
 ·rw[za E]
  refine⟨_,z.s1.1,b z (by decide) λc B M=>?_⟩
  refine⟨_,B.s1.1,b B (by decide) λS T7 f7=>e _ _ ⟨?_,(q.trans M).trans f7⟩⟩
  have l:a.mem.queued d p=((a.mem.hset (a.mem.lastG d) 1 p).fset d 10 0 p).fset d 10 1 p:=by unfold Mem.queued;rw[za E]
  rw[l];exact T7
def xh(old:Nat->Bool)(T:Int)(m:Mem):Prop:= ∀k i:Nat,m.has k->(m.seg k).gen=T->old k=false->(i:Int)< (m.seg k).n->looks (m.seg k).kind i-> ¬aO old (m.read ((k:Int)*64+i))
theorem Mem.wr_read(m:Mem)(a:Int):m.wr a (m.read a)=m:=by
 unfold Mem.wr Mem.read
 by_cases h:m.used a
 ·rw[qB h,qB h]
  unfold Mem.set Mem.get Mem.upd
  cases m with
  | mk f seg b l=>
   simp only[Mem.mk.injEq,true_and,and_true]
   funext i
   split
   ·rename_i d
    subst d
    cases o:seg (a / 64).toNat with
    | mk g k n c t w=>
     simp only[Seg.set,Seg.mk.injEq,true_and]
     funext j
     split
     ·rename_i e;rw[e]
     ·rfl
   ·rfl
 ·rw[za h]
theorem Sp.lookAt_settled{old:Nat->Bool}(h: ¬aO old (r.mem.read i)):r.lookAt old d i=r:=by
 unfold Sp.lookAt
 rw[Ea h]
 simp only[]
 rw[Mem.wr_read]
theorem Sp.look_settled{s:Sp}{old:Nat->Bool}{T k a b:Int}: ∀n:Nat,(∀j:Nat,j<n->looks a (b+j)-> ¬aO old (s.mem.read (k*64+(b+j))))->s.look old T k a b n=s
 | 0,_=>rfl
 | n+1,h=>by
  unfold Sp.look
  rw[Sp.look_settled n (λj d=>h j (by omega))]
  split
  ·rename_i c;exact Sp.lookAt_settled (h n (by omega) c)
  ·rfl
theorem iG.settled{old:Nat->Bool}{s:Sp}{g i:List (Int×Value)}(h:iG old d r g s i)(q:xh old d r.mem)(u:bD r.mem)(hk:iL g):s=r/\iL i:=by
 induction h with
 | refl=>exact⟨rfl,hk⟩
 | @step y b k _ hk l p hn t=>
  obtain⟨rfl,c⟩:=t
  have f:=(u.seg k.toNat).n
  refine⟨Sp.look_settled _ (λj x o=>?_),λa v e=>?_⟩
  ·have w:=(k9 c k).2.1
   have m:=hk.1
   have:=q k.toNat (seenAt b k+j).toNat (by rw[show((k.toNat:Nat):Int)=k by omega];exact hk) l p (by omega) (by rw[show(((seenAt b k+j).toNat:Nat):Int)=seenAt b k+j by omega];exact o)
   rw[show((k.toNat:Nat):Int)=k by omega,show(((seenAt b k+j).toNat:Nat):Int)=seenAt b k+j by omega]at this
   exact this
  ·rw[kA]at e
   split at e
   ·cases e;exact⟨_,rfl,f⟩
   ·exact c a v e
variable{d:Mem}
theorem Mem.mark_taken{k c v:Int}(j:Nat):((d.mark k c v).1.seg j).taken=(d.seg j).taken:=by
 unfold Mem.mark
 split
 ·rfl
 ·split
  ·rfl
  ·show((d.upd _ _).seg j).taken=_
   rw[Do]
   split
   ·rename_i h;rw[h];rfl
   ·rfl
theorem Mem.store_taken{a w:Int}(j:Nat):((d.store a w).1.seg j).taken=(d.seg j).taken:=by
 unfold Mem.store
 split
 ·rw[Mem.mark_taken];exact((bG.set d a w).seg j).2.2.2.1
 ·rfl
theorem Mem.store_headsL(e:bD d){x v:Int}(b:aD v):hC d (d.store x v).1:=by
 refine⟨DO.1,λk _=>⟨(Dh k).1,(Dh k).2.1,Mem.store_taken k,by rw[(Dh k).2.2];exact Dq _⟩,λk _ c=>?_⟩
 by_cases a:d.used x
 ·rw[Mem.store_cards e a b]
  split
  ·exact Mem.younger_le _ _ _ _
  ·exact Dq _
 ·unfold Mem.store;rw[za a];exact Dq _
theorem Mem.store_kAt{m:Mem}{a w:Int}(x:Int):(m.store a w).1.kAt x=m.kAt x/\(m.store a w).1.gAt x=m.gAt x:=⟨(Dh _).2.1,(Dh _).1⟩
theorem D3:type_of% @Mem.store_kAt:=@Mem.store_kAt
theorem Reach.of{Z Z':TZ}(hm:Z'.m=Z.m)(k:Z'.sz=Z.sz)(c:Z'.O=Z.O)(e: ∀v,Z.V v->Z'.V v){a:Int}(h:Reach Z a):Reach Z' a:=by
 induction h with
 | root h b=>exact .root (e _ h) (by rw[c];exact b)
 | @older x j hn d b=>
  have:=Reach.older (Z:=Z') (x:=x) (by rw[hm];exact j) (by rw[c];exact hn) (by rw[hm];exact d) (by rw[hm,c];exact b)
  rw[hm]at this;exact this
 | @step a i h f d b l=>
  have:=Reach.step (Z:=Z') (a:=a) (i:=i) l (by rw[k];exact f) (by rw[hm];exact d) (by rw[hm,c];exact b)
  rw[hm]at this;exact this
section
variable {Z:TZ} {g F0:Int} {fw:Int->Option Int} {al:List Int} {s:Sp} {sz:Int->Nat} {ks:List (Int×Value)}
def TZ.more(Z:TZ)(w:Int):TZ:={Z with V:=λv=>v=w\/Z.V v}
theorem aX.more(S:aX Z g F0){w:Int}(c:aD w)(b:Good Z.m Z.sz w):aX (Z.more w) g F0:=
 ⟨S.ok,S.even,S.sound,S.old,S.rng,S.room,λv a=>by
  rcases a with rfl | a
  ·exact⟨c,b⟩
  ·exact S.V v a⟩
theorem Tri.more(t:Tri Z F0 fw al s sz)(w:Int):Tri (Z.more w) F0 fw al s sz:=
 ⟨t.ok,t.even,t.heads,t.oldN,t.curO,(by obtain⟨c,h⟩:=t.cap;exact⟨c,h.free,h.none,h.le⟩),⟨t.olds.nodup,t.olds.mem⟩,t.al,λa b h=>by
  obtain⟨e,d⟩:=t.img a b h
  exact⟨e,d.fit,d.here,d.new,d.gen,d.kind,d.out,d.even⟩,t.inj,t.apart,t.sz0,t.szn,t.word,t.keep,t.cover,t.val,λa b h=>Reach.of (Z:=Z) (Z':=Z.more w) rfl rfl rfl (λv i=>Or.inr i) (t.reach a b h),λp f=>by
  have N:=t.pair p f
  exact⟨N.used,N.new,N.gen,N.kind,N.out,N.even,N.sz,N.q⟩,t.pnd,λx w h=>by
  have W:=t.qok x w h
  exact⟨W.used,W.out,W.strong,W.word,W.young,W.good,W.head,W.mark,W.tagged⟩,t.qwas⟩
theorem Pend.more(p:Pend Z fw s ks)(w:Int):Pend (Z.more w) fw s ks:=⟨p.ok,p.here,p.pend⟩
theorem pq.done{w:Int}{f:Sp}{v:Int}{a:Int->Option Int}{b:List Int}{c:Int->Nat}(t:Tri Z F0 fw al s sz)(V:pq Z F0 fw s w f v a b c){x:Int}(e:s.mem.used x)(d:Z.O (x / 64).toNat=false)(h:Done Z fw s x):Done Z a f x:=
 h.keep t V.tri V.le e d (V.rest x e d)
theorem Tri.newT(t:Tri Z F0 fw al s sz){k:Sp}{d:Int->Option Int}{c:List Int}{f:Int->Nat}(l:Tri Z F0 d c k f){x:Int}(n:s.mem.used x)(hn: ¬k.mem.used x):s.mem.gAt x=Z.T:=by
 rcases t.cover x n with q | ⟨a,b,i,e,h,m⟩ | ⟨q,e,h⟩
 ·exact absurd (l.heads.used q) hn
 ·have j:=(t.img a b e).2
  have o:=j.fit
  unfold Mem.gAt
  rw[m,show(b+(i:Int)) / 64=b / 64 by omega];exact j.gen
 ·have N:=(l.pair q e).used
  rcases h with rfl | rfl
  ·exact absurd N.1 hn
  ·exact absurd N.2 hn
theorem Pend.visited{w:Int}{o:Sp}{v:Int}{b:Int->Option Int}{d:List Int}{m:Int->Nat}(t:Tri Z F0 fw al s sz)(p:Pend Z fw s ks)(V:pq Z F0 fw s w o v b d m):Pend Z b o ks:=by
 refine⟨p.ok,λk i q e f c=>V.heads.used (p.here k i q e f c),λx n c r=>?_⟩
 by_cases a:s.mem.used x
 ·have hk:=V.heads.l.kAt a
  have j:s.mem.strong x:=by unfold Mem.strong at*;rw[<-hk.1];exact r
  rcases p.pend x a c j with h | ⟨e,f⟩
  ·exact .inl (V.done t a c h)
  ·exact .inr ⟨hk.2.trans e,f⟩
 ·exact .inr ⟨V.tri.newT t n a,p.unseen n.1 c a⟩
def TZ.wrt(Z:TZ)(x w:Int):TZ:={Z with q:=λy=>if y=x then some w else Z.q y}
theorem aX.wrt(S:aX Z g F0)(x w:Int):aX (Z.wrt x w) g F0:=⟨S.ok,S.even,S.sound,S.old,S.rng,S.room,S.V⟩
theorem uI{x w y u:Int}(h:y≠x):Was (Z.wrt x w) fw y u ↔ Was Z fw y u:=by
 show((if y=x then some w else Z.q y)=some u\/((if y=x then some w else Z.q y)=none/\zP Z fw y u)) ↔ _
 rw[za h];exact Iff.rfl
theorem tc{x w u:Int}:Was (Z.wrt x w) fw x u ↔ u=w:=by
 show((if x=x then some w else Z.q x)=some u\/((if x=x then some w else Z.q x)=none/\zP Z fw x u)) ↔ _
 rw[qB rfl]
 constructor
 ·rintro(h | ⟨h,_⟩)
  ·exact(DH h).symm
  ·cases h
 ·rintro rfl;exact .inl rfl
theorem Tri.write(S:aX Z g F0)(t:Tri Z F0 fw al s sz){x w:Int}(G:s.mem.used x)(ho:Z.O (x / 64).toNat=false)(hs:s.mem.strong x)(hd:Done Z fw s x)(hh:sz x≠0->s.mem.kAt x<=1)(M:aD w)(C: ¬aO Z.O w)(Q:Good s.mem sz w)(Y:aZ w\/w=20):
  Tri (Z.wrt x w) F0 fw al {s with mem:=(s.mem.store x w).1} sz/\Done (Z.wrt x w) fw {s with mem:=(s.mem.store x w).1} x:=by
 have L:=Mem.store_headsL t.ok.mem (x:=x) M
 have f: ∀y,0<=y->(s.mem.store x w).1.get y=if y=x then w else s.mem.get y:=λy C=>DI G y C
 have E: ∀y,Z.O (y / 64).toNat=true->y≠x:=λy C e=>by rw[e,ho]at C;cases C
 have B: ∀y,sz y≠0->s.mem.used y:=λy h=>t.sz_used S h
 have A: ∀y,(s.mem.store x w).1.strong y ↔ s.mem.strong y:=λy=>by unfold Mem.strong;rw[(D3 y).1]
 obtain⟨c,j⟩:=t.cap
 refine⟨⟨t.ok.store x M,Mem.store_even t.even x w,t.heads.trans L,λk V X=>?_,t.curO,⟨c,?_,j.none,λk U=>?_⟩,⟨t.olds.nodup,t.olds.mem⟩,t.al,λa b r=>?_,t.inj,t.apart,t.sz0,t.szn,λa b r=>?_,λy z J a0=>?_,λy z=>t.cover y (Dx.1 z),λy u m=>?_,λa b h=>Reach.of (Z:=Z) (Z':=Z.wrt x w) rfl rfl rfl (λv I=>I) (t.reach a b h),λp hp=>?_,t.pnd,λy v l=>?_,λy v l I=>?_⟩,λu H=>?_⟩
 ·show((s.mem.store x w).1.seg k).n=_
  rw[(Dh k).2.2];exact t.oldN k V X
 ·show(s.mem.store x w).1.free+_=_
  rw[DO.2.1];exact j.free
 ·have:=j.le k U
  have e:({s with mem:=(s.mem.store x w).1}:Sp).fill Z.T k=s.fill Z.T k:=by
   unfold Sp.fill
   show(if s.cur Z.T.toNat k=0 then 0 else((s.mem.store x w).1.seg _).n)=_
   rw[(Dh _).2.2]
  show _+({s with mem:=(s.mem.store x w).1}:Sp).fill Z.T k<=_
  rw[e];exact this
 ·obtain⟨h1,D⟩:=t.img a b r
  exact⟨h1,D.fit,λi hi=>Dx.2 (D.here i hi),D.new,(D3 b).2.trans D.gen,(D3 b).1.trans D.kind,D.out,D.even⟩
 ·have ha:=t.olds.mem a ((t.al a).2 ⟨b,r⟩)
  show(s.mem.store x w).1.get a=_
  rw[f a (S.sound.used a ha.1).1.1,za (E a ha.2)];exact t.word a b r
 ·show(s.mem.store x w).1.get y=_
  rw[f y z.1,za (E y J)];exact t.keep y z J a0
 ·show(s.mem.store x w).1.get y=u\/_
  by_cases d:y=x
  ·subst d
   rw[tc]at m
   rw[f y G.1,qB rfl];exact .inl m.symm
  ·rw[uI d]at m
   rw[f y (t.usedOf m).1.1,za d]
   rcases t.val y u m with q | ⟨P,K,q3⟩
   ·exact .inl q
   ·exact .inr ⟨(A y).2 P,K,q3⟩
 ·have N:=(t.pair p hp).keep (s':={s with mem:=(s.mem.store x w).1}) L (λ_ _=>rfl)
  refine⟨N.used,N.new,N.gen,N.kind,N.out,N.even,N.sz,?_,?_⟩
  ·show(if p=x then some w else Z.q p)≠none
   split
   ·simp
   ·exact N.q.1
  ·show(if p+1=x then some w else Z.q (p+1))≠none
   split
   ·simp
   ·exact N.q.2
 ·have l:(if y=x then some w else Z.q y)=some v:=l
  by_cases d:y=x
  ·rw[qB d]at l
   cases l
   subst d
   have ht:aZ w->s.mem.used (w / 8):=λq=>B _ (Q.2 q).1
   have R:=qe L ht
   refine⟨Dx.2 G,ho,(A y).2 hs,M,C,⟨Q.1,λq=>by rw[(D3 _).1];exact Q.2 q⟩,λq=>by rw[(D3 _).1];exact hh q,λP K=>?_,Y⟩
   rw[R]at P K⊢
   rw[(D3 _).2]at K
   show((s.mem.store y w).1.seg _).cards _<=_
   rw[Mem.store_cards t.ok.mem G M,qB ⟨rfl,rfl⟩]
   unfold Mem.younger
   rw[qB ⟨P,hs.1,K⟩]
   exact Int.min_le_right _ _
  ·rw[za d]at l
   have W:=(t.qok y v l).keep (s':={s with mem:=(s.mem.store x w).1}) L B (λ_ _=>rfl)
   exact⟨W.used,W.out,W.strong,W.word,W.young,W.good,W.head,W.mark,W.tagged⟩
 ·by_cases d:y=x
  ·subst d
   by_cases F:Z.q y=none
   ·exact(hd v (.inr ⟨F,I⟩)).1
   ·exact t.qwas y v F I
  ·have l:(if y=x then some w else Z.q y)≠none:=l
   rw[za d]at l
   exact t.qwas y v l I
 ·rw[tc]at H
  subst H
  refine⟨λo=>absurd o C,?_⟩
  show(s.mem.store x u).1.get x=Fw Z.O fw u
  rw[f x G.1,qB rfl,jv C]
theorem Done.wrt(t:Tri Z F0 fw al s sz){x w y:Int}(f:s.mem.used x)(b:s.mem.used y)(a:y≠x)(h:Done Z fw s y):Done (Z.wrt x w) fw {s with mem:=(s.mem.store x w).1} y:=λv c=>by
 rw[uI a]at c
 obtain⟨d,e⟩:=h v c
 refine⟨d,?_⟩
 show(s.mem.store x w).1.get y=_
 rw[DI f y b.1,za a];exact e
theorem Pend.write(S:aX Z g F0)(t:Tri Z F0 fw al s sz)(p:Pend Z fw s ks){x w:Int}(q:s.mem.used x)(n:Done (Z.wrt x w) fw {s with mem:=(s.mem.store x w).1} x):Pend (Z.wrt x w) fw {s with mem:=(s.mem.store x w).1} ks:=by
 refine⟨p.ok,λk i l d e f=>Dx.2 (p.here k i l d e f),λy r f o=>?_⟩
 have b:s.mem.used y:=Dx.1 r
 by_cases c:y=x
 ·rw[c];exact .inl n
 ·have j:s.mem.strong y:=by unfold Mem.strong at*;rw[<-(D3 (m:=s.mem) (a:=x) (w:=w) y).1];exact o
  rcases p.pend y b f j with h | ⟨d,e⟩
  ·exact .inl (h.wrt t q b c)
  ·exact .inr ⟨(D3 y).2.trans d,e⟩
def TZ.putP(Z:TZ)(p a d:Int):TZ:={Z with q:=λy=>if y=p then some a else if y=p+1 then some d else Z.q y,P:=p::Z.P}
theorem aX.putP(S:aX Z g F0){p a d:Int}(h:2*((Z.yk 0:Int)+Z.yk 1+Z.yk 2+Z.yk 3)+8+(((Z.P.length+1) / 32:Nat):Int)<=F0):aX (Z.putP p a d) g F0:=⟨S.ok,S.even,S.sound,S.old,S.rng,h,S.V⟩
theorem td{p a d y u:Int}(h:y≠p/\y≠p+1):Was (Z.putP p a d) fw y u ↔ Was Z fw y u:=by
 show((if y=p then some a else if y=p+1 then some d else Z.q y)=some u\/((if y=p then some a else if y=p+1 then some d else Z.q y)=none/\zP Z fw y u)) ↔ _
 rw[za h.1,za h.2];exact Iff.rfl
theorem ru{p a d y u:Int}(h:y=p\/y=p+1):Was (Z.putP p a d) fw y u ↔ u=if y=p then a else d:=by
 show((if y=p then some a else if y=p+1 then some d else Z.q y)=some u\/((if y=p then some a else if y=p+1 then some d else Z.q y)=none/\zP Z fw y u)) ↔ _
 have e:(if y=p then some a else if y=p+1 then some d else Z.q y)=some (if y=p then a else d):=by
  by_cases b:y=p
  ·rw[qB b,qB b]
  ·rw[za b,za b,qB (h.resolve_left b)]
 rw[e]
 constructor
 ·rintro(h | ⟨h,_⟩)
  ·exact(DH h).symm
  ·cases h
 ·rintro rfl;exact .inl rfl
structure PutP (Z:TZ) (F0:Int) (fw:Int->Option Int) (al:List Int) (s:Sp) (sz:Int->Nat) (a d p:Int) (s':Sp) (sz':Int->Nat):Prop where
 tri:Tri (Z.putP p a d) F0 fw al s' sz'
 heads:fL s.mem s'.mem
 get: ∀x,s.mem.used x->s'.mem.get x=s.mem.get x
 szo: ∀y,s.mem.used y->sz' y=sz y
 new: ¬s.mem.used p/\ ¬s.mem.used (p+1)
 used: ∀x,s'.mem.used x ↔ s.mem.used x\/x=p\/x=p+1
 car:s'.mem.get p=a
 cdr:s'.mem.get (p+1)=d
 word:aD (p*8+1)/\Good s'.mem sz' (p*8+1)/\ ¬aO Z.O (p*8+1)/\p*8+1≠20
theorem Tri.putP(S:aX Z g F0)(t:Tri Z F0 fw al s sz){a d:Int}(ha:aD a)(hd:aD d)(ao: ¬aO Z.O a)(ap: ¬aO Z.O d)(ai:Good s.mem sz a)(aj:Good s.mem sz d)(aV:aZ a\/a=20)(aW:aZ d\/d=20){p:Int}{s':Sp}{m:Mem}
  (a0:(s.alloc Z.T 0 2).2.2=0) (hp:(s.alloc Z.T 0 2).2.1=p) (am:(s.alloc Z.T 0 2).1=s') (hm:m=s'.mem.sets p [a,d]):PutP Z F0 fw al s sz a d p {s' with mem:=m} (λx=>if x=p then 2 else sz x):=by
 obtain⟨av,K⟩:=DG t.ok a0
 obtain⟨ev,ae⟩:=K.even t.even (λ_=>by decide)
 rw[hp]at K ae
 obtain⟨c,ag⟩:=t.cap
 have sm:bG s'.mem m:=by rw[hm];exact bG.sets _ _ _
 obtain⟨c',Q⟩:=ag.put (Z':=Z.putP p a d) t.ok t.even (m:=m) a0 (by rw[am];exact sm) rfl (λ_=>rfl) rfl
 have ah:=Sp.alloc_curS t.ok a0
 have Y:=Sp.alloc_addr t.ok a0
 rw[hp]at Y
 rw[am]at av K ev ah Y Q
 have b8:=t.ok.mem.lim
 obtain⟨b5,a1,br⟩:=K.addr
 have aU:=ae (by decide)
 have ac:(p+1) / 64=p / 64:=by omega
 have b:fL s.mem m:=(K.heads (by omega)).trans sm.heads
 have a3: ∀k:Nat,k<1024->(s.mem.seg k).taken=0->Z.O k=false:=λk hk h0=>by
  by_cases L:Z.O k=true
  ·have:=((S.old k hk).1 L).1.2.2
   rw[show((k:Nat):Int).toNat=k by omega]at this
   have f:=(t.heads.seg k this).2.2.1
   rw[h0]at f;exact absurd f.symm this
  ·simpa using L
 have R: ∀k,k<4->s'.cur Z.T.toNat k≠0->Z.O (s'.cur Z.T.toNat k-1).toNat=false:=λk hk h0=>by
  rcases ah k h0 with e | ⟨e1,e2⟩
  ·rw[e]at h0⊢;exact t.curO k hk h0
  ·exact a3 _ (by omega) e1
 have E:Z.O (p / 64).toNat=false:=by
  rw[Y.1];exact R _ (by decide) Y.2
 have b1: ∀i:Nat,i<2->s'.mem.used (p+i):=λi hi=>(K.usedIff (by omega)).2 (.inr (by omega))
 have J: ∀x,0<=x->m.get x=if x=p then a else if x=p+1 then d else s'.mem.get x:=λx u=>by
  rw[hm,Mem.sets_get _ x u b5 (λi hi=>b1 i (by simpa using hi))]
  by_cases z:x=p
  ·rw[qB z,qB (by simp;omega),z];simp
  ·by_cases f:x=p+1
   ·rw[za z,qB f,qB (by simp;omega),f,show(p+1-p).toNat=1 by omega];rfl
   ·rw[za z,za f,za (by simp;omega)]
 have A: ¬s.mem.used p/\ ¬s.mem.used (p+1):=⟨λh=>K.not_in h (by omega),λh=>K.not_in h (by omega)⟩
 have C: ∀x,s.mem.used x->x≠p/\x≠p+1:=λx u=>⟨λe=>A.1 (e▸u),λe=>A.2 (e▸u)⟩
 have D: ∀x,s.mem.used x->m.get x=s.mem.get x:=λx u=>by
  rw[J x u.1,za (C x u).1,za (C x u).2,K.get u]
 have j: ∀x,m.used x ↔ s.mem.used x\/x=p\/x=p+1:=λx=>by
  rw[sm.used,K.usedIff (by omega)]
  exact⟨λh=>by rcases h with h | h;exact .inl h;exact .inr (by omega),λh=>by rcases h with h | h;exact .inl h;exact .inr (by omega)⟩
 have a5:m.used p/\m.used (p+1):=⟨(j p).2 (.inr (.inl rfl)),(j _).2 (.inr (.inr rfl))⟩
 have H:m.kAt p=0/\m.gAt p=Z.T:=⟨((sm.seg _).2.1).trans K.new.2.2.1,((sm.seg _).1).trans K.new.2.1⟩
 have U:m.kAt (p+1)=0/\m.gAt (p+1)=Z.T:=by unfold Mem.kAt Mem.gAt;rw[ac];exact H
 have G: ∀y,s.mem.used y->(λx=>if x=p then 2 else sz x) y=sz y:=λy I=>za (C y I).1
 have B: ∀y,sz y≠0->s.mem.used y:=λy h=>t.sz_used S h
 have bk:sz p=0/\sz (p+1)=0:=⟨by
  by_cases h:sz p=0
  ·exact h
  ·exact absurd (B _ h) A.1,by
  by_cases h:sz (p+1)=0
  ·exact h
  ·exact absurd (B _ h) A.2⟩
 have a4: ∀x,Z.m.used x->x≠p/\x≠p+1:=λx u=>C x (t.heads.used u)
 have a2: ∀v,Good s.mem sz v->Good m (λx=>if x=p then 2 else sz x) v:=λv hv=>⟨hv.1,λb0=>by
  obtain⟨z,f⟩:=hv.2 b0
  have M:=B _ z
  have e:(λx=>if x=p then 2 else sz x) (v / 8)=sz (v / 8):=G _ M
  rw[e,(b.l.kAt M).1]
  exact⟨z,f⟩⟩
 have F:m.strong p/\m.strong (p+1):=by
  unfold Mem.strong
  rw[H.1,U.1];exact⟨⟨by decide,.inl (by decide)⟩,⟨by decide,.inl (by decide)⟩⟩
 have a8: ∀x,sz x≠0-> ∀i:Nat,i<sz x->s.mem.used (x+i):=λx u i hi=>by
  rcases t.szn x u with q | ⟨a',q⟩ | q
  ·have e:=t.sz0 x q
   rw[e]at u hi
   exact t.heads.used (S.sound.usedAt u hi (λk=>(S.ok.seg k).n.2)).1
  ·obtain⟨f,az⟩:=t.img a' x q
   exact az.here i (by omega)
  ·have N:=t.pair x q
   rw[N.sz]at hi
   rcases(show i=0\/i=1 by omega)with rfl | rfl
   ·simpa using N.used.1
   ·exact N.used.2
 have X: ∀v,Good s.mem sz v-> ¬aO Z.O v->(m.genOf v).2=true-> ¬(m.genOf v).1<Z.T:=λv hv I z f=>by
  unfold Mem.genOf at z f
  by_cases V:gM v/\v % 8≠6
  ·rw[qB V]at z f
   have ht:aZ v:=by have:=V.1.1;have:=V.2;unfold aZ;omega
   have M:=B _ (hv.2 ht).1
   have b2:=b.used M
   simp only[qB b2.2.1]at f
   have L:Z.O (v / 8 / 64).toNat=false:=by
    by_cases q:Z.O (v / 8 / 64).toNat=true
    ·exact absurd ⟨V.1,V.2,q⟩ I
    ·simpa using q
   have h3:=t.gAtT S M L
   have h4:=(b.l.kAt M).2
   have h5:m.gAt (v / 8)<Z.T:=f
   omega
  ·rw[za V]at z;cases z
 have wr: ∀x v,(x=p/\v=a\/x=p+1/\v=d)->Wrt (Z.putP p a d) {s' with mem:=m} (λx=>if x=p then 2 else sz x) x v:=λx v h=>by
  rcases h with⟨rfl,rfl⟩ | ⟨rfl,rfl⟩
  ·exact⟨a5.1,E,F.1,ha,ao,a2 _ ai,λ_=>by show m.kAt x<=1;rw[H.1];decide,λq1 q2=>absurd (by rw[<-H.2];exact q2) (X v ai ao q1),aV⟩
  ·exact⟨a5.2,by show Z.O _=false;rw[ac];exact E,F.2,hd,ap,a2 _ aj,λ_=>by show m.kAt (p+1)<=1;rw[U.1];decide,λq1 q2=>absurd (by rw[<-U.2];exact q2) (X v aj ap q1),aW⟩
 have aa: ∀{x v},zP Z fw x v->s.mem.used x:=λh=>(t.used0 h).1
 have ay:Tri (Z.putP p a d) F0 fw al {s' with mem:=m} (λx=>if x=p then 2 else sz x):=by
  refine⟨?_,sm.even ev,t.heads.trans b.l,λk hk L=>?_,R,⟨c',Q⟩,⟨t.olds.nodup,t.olds.mem⟩,t.al,λx y h=>?_,t.inj,λx y u I b4=>?_,λx u=>?_,λy I=>?_,λx y h=>?_,λx u L h=>?_,λx u=>?_,λx v h=>?_,λx y h=>Reach.of (Z:=Z) (Z':=Z.putP p a d) rfl rfl rfl (λv hv=>hv) (t.reach x y h),λr hr=>?_,?_,λx v h=>?_,λx v V h=>?_⟩
  ·have:=av.sets p (ws:=[a,d]) (by intro w hw;simp at hw;rcases hw with rfl | rfl<;>assumption)
   rw[hm];exact this
  ·show(m.seg k).n=_
   rw[(sm.seg k).2.2.1]
   have ak:k≠(p / 64).toNat:=λe=>by
    have L:Z.O k=true:=L
    rw[e,E]at L;cases L
   rw[K.others k ak];exact t.oldN k hk L
  ·obtain⟨z,f⟩:=t.img x y h
   have bl:=(t.olds.mem x ((t.al x).2 ⟨y,h⟩)).1
   have a7:s.mem.used y:=by simpa using f.here 0 (by omega)
   exact⟨(G y a7).trans z,f.fit,λi hi=>(j _).2 (.inl (f.here i hi)),f.new,(b.l.kAt a7).2.trans f.gen,(b.l.kAt a7).1.trans f.kind,f.out,f.even⟩
  ·have u:(if x=p then 2 else sz x)≠0:=u
   have I:(if y=p then 2 else sz y)≠0:=I
   show x+((if x=p then 2 else sz x:Nat):Int)<=y
   by_cases z:x=p
   ·rw[za (show y≠p by omega)]at I
    rw[qB z]
    have:=C y (B y I)
    omega
   ·rw[za z]at u⊢
    by_cases f:y=p
    ·rcases DA p (x+sz x)with b9 | b7
     ·have:=a8 x u (p-x).toNat (by omega)
      rw[show x+((p-x).toNat:Int)=p by omega]at this
      exact absurd this A.1
     ·omega
    ·rw[za f]at I
     exact t.apart x y u I b4
  ·show(if x=p then 2 else sz x)=_
   rw[za (a4 x u).1];exact t.sz0 x u
  ·have I:(if y=p then 2 else sz y)≠0:=I
   show Z.m.used y\/_\/y∈p::Z.P
   by_cases au:y=p
   ·exact .inr (.inr (by rw[au];simp))
   ·rw[za au]at I
    rcases t.szn y I with q | q | q
    ·exact .inl q
    ·exact .inr (.inl q)
    ·exact .inr (.inr (Dt _ q))
  ·have b3:=(t.olds.mem x ((t.al x).2 ⟨y,h⟩)).1
   show m.get x=_
   rw[D x (t.heads.used (S.sound.used x b3).1)];exact t.word x y h
  ·show m.get x=_
   rw[D x (t.heads.used u)];exact t.keep x u L h
  ·show Z.m.used x\/_\/ ∃r∈p::Z.P,_
   rcases(j x).1 u with q | q
   ·rcases t.cover x q with r | r | ⟨r,r1,r2⟩
    ·exact .inl r
    ·exact .inr (.inl r)
    ·exact .inr (.inr ⟨r,Dt _ r1,r2⟩)
   ·exact .inr (.inr ⟨p,by simp,q⟩)
  ·show m.get x=v\/_
   by_cases an:x=p\/x=p+1
   ·rw[ru an]at h
    left
    rw[J x (by omega),h]
    by_cases z:x=p
    ·rw[qB z,qB z]
    ·rw[za z,za z,qB (an.resolve_left z)]
   ·rw[td (by omega)]at h
    have M:=(t.usedOf h).1
    rw[D x M]
    rcases t.val x v h with q | ⟨q1,q2,q3⟩
    ·exact .inl q
    ·refine .inr ⟨?_,q2,q3⟩
     show m.strong x
     unfold Mem.strong at*;rw[(b.l.kAt M).1];exact q1
  ·have hr:r∈p::Z.P:=hr
   rcases CR.1 hr with rfl | hr
   ·refine⟨a5,⟨λh=>(a4 _ h).1 rfl,λh=>(a4 _ h).2 rfl⟩,H.2,H.1,E,aU,qB rfl,?_,?_⟩
    ·show(if r=r then some a else _)≠none
     rw[qB rfl];simp
    ·show(if r+1=r then some a else if r+1=r+1 then some d else _)≠none
     rw[za (by omega),qB rfl];simp
   ·have N:=(t.pair r hr).keep (s':={s' with mem:=m}) b.l G
    have n1:=C _ (t.pair r hr).used.1
    have n2:=C _ (t.pair r hr).used.2
    refine⟨N.used,N.new,N.gen,N.kind,N.out,N.even,N.sz,?_,?_⟩
    ·show(if r=p then some a else if r=p+1 then some d else Z.q r)≠none
     rw[za n1.1,za n1.2];exact N.q.1
    ·show(if r+1=p then some a else if r+1=p+1 then some d else Z.q (r+1))≠none
     rw[za n2.1,za n2.2];exact N.q.2
  ·show(p::Z.P).Nodup
   rw[D2]
   exact⟨λh=>A.1 (t.pair p h).used.1,t.pnd⟩
  ·have h:(if x=p then some a else if x=p+1 then some d else Z.q x)=some v:=h
   by_cases z:x=p
   ·rw[qB z]at h;cases h;exact wr x _ (.inl ⟨z,rfl⟩)
   ·rw[za z]at h
    by_cases f:x=p+1
    ·rw[qB f]at h;cases h;exact wr x _ (.inr ⟨f,rfl⟩)
    ·rw[za f]at h
     have W:=(t.qok x v h).keep (s':={s' with mem:=m}) b.l B G
     exact⟨W.used,W.out,W.strong,W.word,W.young,W.good,W.head,W.mark,W.tagged⟩
  ·have M:=aa h
   have V:(if x=p then some a else if x=p+1 then some d else Z.q x)≠none:=V
   rw[za (C x M).1,za (C x M).2]at V
   exact t.qwas x v V h
 refine⟨ay,b,D,G,A,j,?_,?_,⟨⟨by omega,by omega⟩,⟨by omega,λ_=>?_⟩,λo=>?_,by omega⟩⟩
 ·show m.get p=a
  rw[J p b5,qB rfl]
 ·show m.get (p+1)=d
  rw[J (p+1) (by omega),za (by omega),qB rfl]
 ·rw[show(p*8+1) / 8=p by omega,show(p*8+1) % 8=1 by omega]
  show(if p=p then 2 else sz p)≠0/\1=zL (m.kAt p)
  rw[qB rfl,H.1]
  exact⟨by decide,rfl⟩
 ·have:=o.2.2
  rw[show(p*8+1) / 8=p by omega,E]at this
  cases this
theorem PutP.done(t:Tri Z F0 fw al s sz){a d p:Int}{i:Sp}{c:Int->Nat}(h:PutP Z F0 fw al s sz a d p i c){y:Int}(b:s.mem.used y)(l:Done Z fw s y):Done (Z.putP p a d) fw i y:=λv f=>by
 have hn:y≠p/\y≠p+1:=⟨λe=>h.new.1 (e▸b),λe=>h.new.2 (e▸b)⟩
 rw[td hn]at f
 obtain⟨j,k⟩:=l v f
 exact⟨j,by rw[h.get y b];exact k⟩
theorem PutP.doneN(S:aX Z g F0){a d p:Int}{i:Sp}{e:Int->Nat}(h:PutP Z F0 fw al s sz a d p i e){y:Int}(f:y=p\/y=p+1):Done (Z.putP p a d) fw i y:=λv c=>by
 have j:(Z.putP p a d).q y=some v:=by
  rw[ru f]at c
  show(if y=p then some a else if y=p+1 then some d else Z.q y)=some v
  rw[c]
  by_cases b:y=p
  ·rw[qB b,qB b]
  ·rw[za b,za b,qB (f.resolve_left b)]
 have W:=h.tri.qok y v j
 refine⟨λo=>absurd o W.young,?_⟩
 rw[jv W.young]
 rcases h.tri.val y v c with q | ⟨_,_,q⟩
 ·exact q
 ·rw[q,jv W.young]
theorem Pend.putP(S:aX Z g F0)(t:Tri Z F0 fw al s sz)(q:Pend Z fw s ks){a d p:Int}{m:Sp}{j:Int->Nat}(h:PutP Z F0 fw al s sz a d p m j):Pend (Z.putP p a d) fw m ks:=by
 refine⟨q.ok,λk i n o u e=>h.heads.used (q.here k i n o u e),λy w e v=>?_⟩
 by_cases c:y=p\/y=p+1
 ·exact .inl (h.doneN S c)
 ·have b:s.mem.used y:=((h.used y).1 w).resolve_right c
  have hk:=h.heads.l.kAt b
  have f:s.mem.strong y:=by unfold Mem.strong at*;rw[<-hk.1];exact v
  rcases q.pend y b e f with r | ⟨x,z⟩
  ·exact .inl (h.done t b r)
  ·exact .inr ⟨hk.2.trans x,z⟩
end
