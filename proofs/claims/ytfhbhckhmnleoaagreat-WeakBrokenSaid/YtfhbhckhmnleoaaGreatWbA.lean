/-
 A trace that is on: words more are come to, words are written, pairs of its own are put. Proves nothing of any one statement.
-/
import Derived.Test.YtfhbhckhmnleoaaGreatWnB
set_option linter.unusedVariables false
set_option linter.unusedSimpArgs false
namespace Go.Proofs.YtfhbhckhmnleoaaGreat
open Go
variable{a:Mem}
theorem Mem.mark_taken{k c v:Int}(j:Nat):((a.mark k c v).1.seg j).taken=(a.seg j).taken:=by
 unfold Mem.mark
 split
 ·rfl
 ·split
  ·rfl
  ·show((a.upd _ _).seg j).taken=_
   rw[Mem.upd_seg]
   split
   ·rename_i h;rw[h];rfl
   ·rfl
theorem Mem.store_taken{b w:Int}(j:Nat):((a.store b w).1.seg j).taken=(a.seg j).taken:=by
 unfold Mem.store
 split
 ·rw[Mem.mark_taken];exact((aT.set a b w).seg j).2.2.2.1
 ·rfl
theorem Mem.store_headsL(e:aU a){x v:Int}(d:aB v):eD a (a.store x v).1:=by
 refine⟨Mem.store_lim.1,λk _=>⟨(Mem.store_seg k).1,(Mem.store_seg k).2.1,Mem.store_taken k,by rw[(Mem.store_seg k).2.2];exact Int.le_refl _⟩,λk _ c=>?_⟩
 by_cases b:a.used x
 ·rw[Mem.store_cards e b d]
  split
  ·exact Mem.younger_le _ _ _ _
  ·exact Int.le_refl _
 ·unfold Mem.store;rw[if_neg b];exact Int.le_refl _
theorem Mem.store_kAt{m:Mem}{a w:Int}(x:Int):(m.store a w).1.kAt x=m.kAt x/\(m.store a w).1.gAt x=m.gAt x:=⟨(Mem.store_seg _).2.1,(Mem.store_seg _).1⟩
theorem Reach.of{Z Z':TZ}(hm:Z'.m=Z.m)(k:Z'.sz=Z.sz)(c:Z'.O=Z.O)(e: ∀v,Z.V v->Z'.V v){a:Int}(h:Reach Z a):Reach Z' a:=by
 induction h with
 | root h b=>exact .root (e _ h) (by rw[c];exact b)
 | @older x j hn d b=>
  have:=Reach.older (Z:=Z') (x:=x) (by rw[hm];exact j) (by rw[c];exact hn) (by rw[hm];exact d) (by rw[hm,c];exact b)
  rw[hm]at this;exact this
 | @step a i h f d b l=>
  have:=Reach.step (Z:=Z') (a:=a) (i:=i) l (by rw[k];exact f) (by rw[hm];exact d) (by rw[hm,c];exact b)
  rw[hm]at this;exact this
section
variable {Z:TZ} {g F0:Int} {fw:Int->Option Int} {al:List Int} {s:Sp} {sz:Int->Nat} {ks:List (Int×Value)}
def TZ.more(Z:TZ)(w:Int):TZ:={Z with V:=λv=>v=w\/Z.V v}
theorem aO.more(S:aO Z g F0){w:Int}(c:aB w)(b:Good Z.m Z.sz w):aO (Z.more w) g F0:=
 ⟨S.ok,S.even,S.sound,S.old,S.rng,S.room,λv a=>by
  rcases a with rfl | a
  ·exact⟨c,b⟩
  ·exact S.V v a⟩
theorem Tri.more(t:Tri Z F0 fw al s sz)(w:Int):Tri (Z.more w) F0 fw al s sz:=
 ⟨t.ok,t.even,t.heads,t.oldN,t.curO,(by obtain⟨c,h⟩:=t.cap;exact⟨c,h.free,h.none,h.le⟩),⟨t.olds.nodup,t.olds.mem⟩,t.al,λa b h=>by
  obtain⟨e,d⟩:=t.img a b h
  exact⟨e,d.fit,d.here,d.new,d.gen,d.kind,d.out,d.even⟩,t.inj,t.apart,t.sz0,t.szn,t.word,t.keep,t.cover,t.val,λa b h=>Reach.of (Z:=Z) (Z':=Z.more w) rfl rfl rfl (λv i=>Or.inr i) (t.reach a b h),λp f=>by
  have N:=t.pair p f
  exact⟨N.used,N.new,N.gen,N.kind,N.out,N.even,N.sz,N.q⟩,t.pnd,λx w h=>by
  have W:=t.qok x w h
  exact⟨W.used,W.out,W.strong,W.word,W.young,W.good,W.head,W.mark,W.tagged⟩,t.qwas,t.pim⟩
theorem Pend.more(p:Pend Z fw s ks)(w:Int):Pend (Z.more w) fw s ks:=⟨p.ok,p.here,p.pend⟩
theorem kh.done{w:Int}{f:Sp}{v:Int}{a:Int->Option Int}{b:List Int}{c:Int->Nat}(t:Tri Z F0 fw al s sz)(V:kh Z F0 fw s w f v a b c){x:Int}(e:s.mem.used x)(d:Z.O (x / 64).toNat=false)(h:Done Z fw s x):Done Z a f x:=
 h.keep t V.tri V.le e d (V.rest x e d)
theorem Tri.newT(t:Tri Z F0 fw al s sz){k:Sp}{d:Int->Option Int}{c:List Int}{f:Int->Nat}(l:Tri Z F0 d c k f){x:Int}(n:s.mem.used x)(hn: ¬k.mem.used x):s.mem.gAt x=Z.T:=by
 rcases t.cover x n with q | ⟨a,b,i,e,h,m⟩ | ⟨q,e,h⟩
 ·exact absurd (l.heads.used q) hn
 ·have j:=(t.img a b e).2
  have o:=j.fit
  unfold Mem.gAt
  rw[m,show(b+(i:Int)) / 64=b / 64 by omega];exact j.gen
 ·have N:=(l.pair q e).used
  rcases h with rfl | rfl
  ·exact absurd N.1 hn
  ·exact absurd N.2 hn
theorem Pend.visited{w:Int}{o:Sp}{v:Int}{b:Int->Option Int}{d:List Int}{m:Int->Nat}(t:Tri Z F0 fw al s sz)(p:Pend Z fw s ks)(V:kh Z F0 fw s w o v b d m):Pend Z b o ks:=by
 refine⟨p.ok,λk i q e f c=>V.heads.used (p.here k i q e f c),λx n c r=>?_⟩
 by_cases a:s.mem.used x
 ·have hk:=V.heads.l.kAt a
  have j:s.mem.strong x:=by unfold Mem.strong at*;rw[<-hk.1];exact r
  rcases p.pend x a c j with h | ⟨e,f⟩
  ·exact .inl (V.done t a c h)
  ·exact .inr ⟨hk.2.trans e,f⟩
 ·exact .inr ⟨V.tri.newT t n a,p.unseen n.1 c a⟩
def TZ.wrt(Z:TZ)(x w:Int):TZ:={Z with q:=λy=>if y=x then some w else Z.q y}
theorem aO.wrt(S:aO Z g F0)(x w:Int):aO (Z.wrt x w) g F0:=⟨S.ok,S.even,S.sound,S.old,S.rng,S.room,S.V⟩
theorem n9{x w y u:Int}(h:y≠x):Was (Z.wrt x w) fw y u ↔ Was Z fw y u:=by
 show((if y=x then some w else Z.q y)=some u\/((if y=x then some w else Z.q y)=none/\Was0 Z fw y u)) ↔ _
 rw[if_neg h];exact Iff.rfl
theorem mQ{x w u:Int}:Was (Z.wrt x w) fw x u ↔ u=w:=by
 show((if x=x then some w else Z.q x)=some u\/((if x=x then some w else Z.q x)=none/\Was0 Z fw x u)) ↔ _
 rw[if_pos rfl]
 constructor
 ·rintro(h | ⟨h,_⟩)
  ·exact(Option.some.inj h).symm
  ·cases h
 ·rintro rfl;exact .inl rfl
theorem Tri.write(S:aO Z g F0)(t:Tri Z F0 fw al s sz){x w:Int}(G:s.mem.used x)(ho:Z.O (x / 64).toNat=false)(hs:s.mem.strong x)(hd:Done Z fw s x)(hh:sz x≠0->s.mem.kAt x<=1)(M:aB w)(C: ¬aE Z.O w)(Q:Good s.mem sz w)(Y:isTag w\/w=20):
  Tri (Z.wrt x w) F0 fw al {s with mem:=(s.mem.store x w).1} sz/\Done (Z.wrt x w) fw {s with mem:=(s.mem.store x w).1} x:=by
 have L:=Mem.store_headsL t.ok.mem (x:=x) M
 have f: ∀y,0<=y->(s.mem.store x w).1.get y=if y=x then w else s.mem.get y:=λy C=>Mem.store_get G y C
 have E: ∀y,Z.O (y / 64).toNat=true->y≠x:=λy C e=>by rw[e,ho]at C;cases C
 have B: ∀y,sz y≠0->s.mem.used y:=λy h=>t.sz_used S h
 have A: ∀y,(s.mem.store x w).1.strong y ↔ s.mem.strong y:=λy=>by unfold Mem.strong;rw[(Mem.store_kAt y).1]
 obtain⟨c,j⟩:=t.cap
 refine⟨⟨t.ok.store x M,Mem.store_even t.even x w,t.heads.trans L,λk V X=>?_,t.curO,⟨c,?_,j.none,λk U=>?_⟩,⟨t.olds.nodup,t.olds.mem⟩,t.al,λa b r=>?_,t.inj,t.apart,t.sz0,t.szn,λa b r=>?_,λy z J a0=>?_,λy z=>t.cover y (Mem.store_used.1 z),λy u m=>?_,λa b h=>Reach.of (Z:=Z) (Z':=Z.wrt x w) rfl rfl rfl (λv I=>I) (t.reach a b h),λp hp=>?_,t.pnd,λy v l=>?_,λy v l I=>?_,t.pim⟩,λu H=>?_⟩
 ·show((s.mem.store x w).1.seg k).n=_
  rw[(Mem.store_seg k).2.2];exact t.oldN k V X
 ·show(s.mem.store x w).1.free+_=_
  rw[Mem.store_lim.2.1];exact j.free
 ·have:=j.le k U
  have e:({s with mem:=(s.mem.store x w).1}:Sp).fill Z.T k=s.fill Z.T k:=by
   unfold Sp.fill
   show(if s.cur Z.T.toNat k=0 then 0 else((s.mem.store x w).1.seg _).n)=_
   rw[(Mem.store_seg _).2.2]
  show _+({s with mem:=(s.mem.store x w).1}:Sp).fill Z.T k<=_
  rw[e];exact this
 ·obtain⟨h1,D⟩:=t.img a b r
  exact⟨h1,D.fit,λi hi=>Mem.store_used.2 (D.here i hi),D.new,(Mem.store_kAt b).2.trans D.gen,(Mem.store_kAt b).1.trans D.kind,D.out,D.even⟩
 ·have ha:=t.olds.mem a ((t.al a).2 ⟨b,r⟩)
  show(s.mem.store x w).1.get a=_
  rw[f a (S.sound.used a ha.1).1.1,if_neg (E a ha.2)];exact t.word a b r
 ·show(s.mem.store x w).1.get y=_
  rw[f y z.1,if_neg (E y J)];exact t.keep y z J a0
 ·show(s.mem.store x w).1.get y=u\/_
  by_cases d:y=x
  ·subst d
   rw[mQ]at m
   rw[f y G.1,if_pos rfl];exact .inl m.symm
  ·rw[n9 d]at m
   rw[f y (t.usedOf m).1.1,if_neg d]
   rcases t.val y u m with q | ⟨P,K,q3⟩
   ·exact .inl q
   ·exact .inr ⟨(A y).2 P,K,q3⟩
 ·have N:=(t.pair p hp).keep (s':={s with mem:=(s.mem.store x w).1}) L (λ_ _=>rfl)
  refine⟨N.used,N.new,N.gen,N.kind,N.out,N.even,N.sz,?_,?_⟩
  ·show(if p=x then some w else Z.q p)≠none
   split
   ·simp
   ·exact N.q.1
  ·show(if p+1=x then some w else Z.q (p+1))≠none
   split
   ·simp
   ·exact N.q.2
 ·have l:(if y=x then some w else Z.q y)=some v:=l
  by_cases d:y=x
  ·rw[if_pos d]at l
   cases l
   subst d
   have ht:isTag w->s.mem.used (w / 8):=λq=>B _ (Q.2 q).1
   have R:=kO L ht
   refine⟨Mem.store_used.2 G,ho,(A y).2 hs,M,C,⟨Q.1,λq=>by rw[(Mem.store_kAt _).1];exact Q.2 q⟩,λq=>by rw[(Mem.store_kAt _).1];exact hh q,λP K=>?_,Y⟩
   rw[R]at P K⊢
   rw[(Mem.store_kAt _).2]at K
   show((s.mem.store y w).1.seg _).cards _<=_
   rw[Mem.store_cards t.ok.mem G M,if_pos ⟨rfl,rfl⟩]
   unfold Mem.younger
   rw[if_pos ⟨P,hs.1,K⟩]
   exact Int.min_le_right _ _
  ·rw[if_neg d]at l
   have W:=(t.qok y v l).keep (s':={s with mem:=(s.mem.store x w).1}) L B (λ_ _=>rfl)
   exact⟨W.used,W.out,W.strong,W.word,W.young,W.good,W.head,W.mark,W.tagged⟩
 ·by_cases d:y=x
  ·subst d
   by_cases F:Z.q y=none
   ·exact(hd v (.inr ⟨F,I⟩)).1
   ·exact t.qwas y v F I
  ·have l:(if y=x then some w else Z.q y)≠none:=l
   rw[if_neg d]at l
   exact t.qwas y v l I
 ·rw[mQ]at H
  subst H
  refine⟨λo=>absurd o C,?_⟩
  show(s.mem.store x u).1.get x=Fw Z.O fw u
  rw[f x G.1,if_pos rfl,ee C]
theorem Done.wrt(t:Tri Z F0 fw al s sz){x w y:Int}(f:s.mem.used x)(b:s.mem.used y)(a:y≠x)(h:Done Z fw s y):Done (Z.wrt x w) fw {s with mem:=(s.mem.store x w).1} y:=λv c=>by
 rw[n9 a]at c
 obtain⟨d,e⟩:=h v c
 refine⟨d,?_⟩
 show(s.mem.store x w).1.get y=_
 rw[Mem.store_get f y b.1,if_neg a];exact e
theorem Pend.write(S:aO Z g F0)(t:Tri Z F0 fw al s sz)(p:Pend Z fw s ks){x w:Int}(q:s.mem.used x)(n:Done (Z.wrt x w) fw {s with mem:=(s.mem.store x w).1} x):Pend (Z.wrt x w) fw {s with mem:=(s.mem.store x w).1} ks:=by
 refine⟨p.ok,λk i l d e f=>Mem.store_used.2 (p.here k i l d e f),λy r f o=>?_⟩
 have b:s.mem.used y:=Mem.store_used.1 r
 by_cases c:y=x
 ·rw[c];exact .inl n
 ·have j:s.mem.strong y:=by unfold Mem.strong at*;rw[<-(Mem.store_kAt (m:=s.mem) (a:=x) (w:=w) y).1];exact o
  rcases p.pend y b f j with h | ⟨d,e⟩
  ·exact .inl (h.wrt t q b c)
  ·exact .inr ⟨(Mem.store_kAt y).2.trans d,e⟩
def TZ.putP(Z:TZ)(p a d:Int):TZ:={Z with q:=λy=>if y=p then some a else if y=p+1 then some d else Z.q y,P:=p::Z.P}
theorem aO.putP(S:aO Z g F0){p a d:Int}(h:2*((Z.yk 0:Int)+Z.yk 1+Z.yk 2+Z.yk 3)+8+(((Z.P.length+1) / 32:Nat):Int)<=F0):aO (Z.putP p a d) g F0:=⟨S.ok,S.even,S.sound,S.old,S.rng,h,S.V⟩
theorem mS{p a d y u:Int}(h:y≠p/\y≠p+1):Was (Z.putP p a d) fw y u ↔ Was Z fw y u:=by
 show((if y=p then some a else if y=p+1 then some d else Z.q y)=some u\/((if y=p then some a else if y=p+1 then some d else Z.q y)=none/\Was0 Z fw y u)) ↔ _
 rw[if_neg h.1,if_neg h.2];exact Iff.rfl
theorem lV{p a d y u:Int}(h:y=p\/y=p+1):Was (Z.putP p a d) fw y u ↔ u=if y=p then a else d:=by
 show((if y=p then some a else if y=p+1 then some d else Z.q y)=some u\/((if y=p then some a else if y=p+1 then some d else Z.q y)=none/\Was0 Z fw y u)) ↔ _
 have e:(if y=p then some a else if y=p+1 then some d else Z.q y)=some (if y=p then a else d):=by
  by_cases b:y=p
  ·rw[if_pos b,if_pos b]
  ·rw[if_neg b,if_neg b,if_pos (h.resolve_left b)]
 rw[e]
 constructor
 ·rintro(h | ⟨h,_⟩)
  ·exact(Option.some.inj h).symm
  ·cases h
 ·rintro rfl;exact .inl rfl
structure PutP (Z:TZ) (F0:Int) (fw:Int->Option Int) (al:List Int) (s:Sp) (sz:Int->Nat) (a d p:Int) (s':Sp) (sz':Int->Nat):Prop where
 tri:Tri (Z.putP p a d) F0 fw al s' sz'
 heads:dw s.mem s'.mem
 get: ∀x,s.mem.used x->s'.mem.get x=s.mem.get x
 szo: ∀y,s.mem.used y->sz' y=sz y
 new: ¬s.mem.used p/\ ¬s.mem.used (p+1)
 used: ∀x,s'.mem.used x ↔ s.mem.used x\/x=p\/x=p+1
 car:s'.mem.get p=a
 cdr:s'.mem.get (p+1)=d
 word:aB (p*8+1)/\Good s'.mem sz' (p*8+1)/\ ¬aE Z.O (p*8+1)/\p*8+1≠20
theorem Tri.putP(S:aO Z g F0)(t:Tri Z F0 fw al s sz){a d:Int}(ha:aB a)(hd:aB d)(ap: ¬aE Z.O a)(au: ¬aE Z.O d)(aj:Good s.mem sz a)(ak:Good s.mem sz d)(aX:isTag a\/a=20)(aY:isTag d\/d=20){p:Int}{s':Sp}{m:Mem}
  (a0:(s.alloc Z.T 0 2).2.2=0) (hp:(s.alloc Z.T 0 2).2.1=p) (an:(s.alloc Z.T 0 2).1=s') (hm:m=s'.mem.sets p [a,d]):PutP Z F0 fw al s sz a d p {s' with mem:=m} (λx=>if x=p then 2 else sz x):=by
 obtain⟨aw,K⟩:=Sp.alloc_ok t.ok a0
 obtain⟨ev,af⟩:=K.even t.even (λ_=>by decide)
 rw[hp]at K af
 obtain⟨c,ah⟩:=t.cap
 have sm:aT s'.mem m:=by rw[hm];exact aT.sets _ _ _
 obtain⟨c',Q⟩:=ah.put (Z':=Z.putP p a d) t.ok t.even (m:=m) a0 (by rw[an];exact sm) rfl (λ_=>rfl) rfl
 have ai:=Sp.alloc_curS t.ok a0
 have Y:=Sp.alloc_addr t.ok a0
 rw[hp]at Y
 rw[an]at aw K ev ai Y Q
 have b8:=t.ok.mem.lim
 obtain⟨b5,a1,bq⟩:=K.addr
 have aV:=af (by decide)
 have ae:(p+1) / 64=p / 64:=by omega
 have b:dw s.mem m:=(K.heads (by omega)).trans sm.heads
 have a3: ∀k:Nat,k<1024->(s.mem.seg k).taken=0->Z.O k=false:=λk hk h0=>by
  by_cases L:Z.O k=true
  ·have:=((S.old k hk).1 L).1.2.2
   rw[show((k:Nat):Int).toNat=k by omega]at this
   have f:=(t.heads.seg k this).2.2.1
   rw[h0]at f;exact absurd f.symm this
  ·simpa using L
 have R: ∀k,k<4->s'.cur Z.T.toNat k≠0->Z.O (s'.cur Z.T.toNat k-1).toNat=false:=λk hk h0=>by
  rcases ai k h0 with e | ⟨e1,e2⟩
  ·rw[e]at h0⊢;exact t.curO k hk h0
  ·exact a3 _ (by omega) e1
 have E:Z.O (p / 64).toNat=false:=by
  rw[Y.1];exact R _ (by decide) Y.2
 have b1: ∀i:Nat,i<2->s'.mem.used (p+i):=λi hi=>(K.usedIff (by omega)).2 (.inr (by omega))
 have J: ∀x,0<=x->m.get x=if x=p then a else if x=p+1 then d else s'.mem.get x:=λx u=>by
  rw[hm,Mem.sets_get _ x u b5 (λi hi=>b1 i (by simpa using hi))]
  by_cases z:x=p
  ·rw[if_pos z,if_pos (by simp;omega),z];simp
  ·by_cases f:x=p+1
   ·rw[if_neg z,if_pos f,if_pos (by simp;omega),f,show(p+1-p).toNat=1 by omega];rfl
   ·rw[if_neg z,if_neg f,if_neg (by simp;omega)]
 have A: ¬s.mem.used p/\ ¬s.mem.used (p+1):=⟨λh=>K.not_in h (by omega),λh=>K.not_in h (by omega)⟩
 have C: ∀x,s.mem.used x->x≠p/\x≠p+1:=λx u=>⟨λe=>A.1 (e▸u),λe=>A.2 (e▸u)⟩
 have D: ∀x,s.mem.used x->m.get x=s.mem.get x:=λx u=>by
  rw[J x u.1,if_neg (C x u).1,if_neg (C x u).2,K.get u]
 have j: ∀x,m.used x ↔ s.mem.used x\/x=p\/x=p+1:=λx=>by
  rw[sm.used,K.usedIff (by omega)]
  exact⟨λh=>by rcases h with h | h;exact .inl h;exact .inr (by omega),λh=>by rcases h with h | h;exact .inl h;exact .inr (by omega)⟩
 have a5:m.used p/\m.used (p+1):=⟨(j p).2 (.inr (.inl rfl)),(j _).2 (.inr (.inr rfl))⟩
 have H:m.kAt p=0/\m.gAt p=Z.T:=⟨((sm.seg _).2.1).trans K.new.2.2.1,((sm.seg _).1).trans K.new.2.1⟩
 have U:m.kAt (p+1)=0/\m.gAt (p+1)=Z.T:=by unfold Mem.kAt Mem.gAt;rw[ae];exact H
 have G: ∀y,s.mem.used y->(λx=>if x=p then 2 else sz x) y=sz y:=λy I=>if_neg (C y I).1
 have B: ∀y,sz y≠0->s.mem.used y:=λy h=>t.sz_used S h
 have bj:sz p=0/\sz (p+1)=0:=⟨by
  by_cases h:sz p=0
  ·exact h
  ·exact absurd (B _ h) A.1,by
  by_cases h:sz (p+1)=0
  ·exact h
  ·exact absurd (B _ h) A.2⟩
 have a4: ∀x,Z.m.used x->x≠p/\x≠p+1:=λx u=>C x (t.heads.used u)
 have a2: ∀v,Good s.mem sz v->Good m (λx=>if x=p then 2 else sz x) v:=λv hv=>⟨hv.1,λb0=>by
  obtain⟨z,f⟩:=hv.2 b0
  have M:=B _ z
  have e:(λx=>if x=p then 2 else sz x) (v / 8)=sz (v / 8):=G _ M
  rw[e,(b.l.kAt M).1]
  exact⟨z,f⟩⟩
 have F:m.strong p/\m.strong (p+1):=by
  unfold Mem.strong
  rw[H.1,U.1];exact⟨⟨by decide,.inl (by decide)⟩,⟨by decide,.inl (by decide)⟩⟩
 have a8: ∀x,sz x≠0-> ∀i:Nat,i<sz x->s.mem.used (x+i):=λx u i hi=>by
  rcases t.szn x u with q | ⟨a',q⟩ | q
  ·have e:=t.sz0 x q
   rw[e]at u hi
   exact t.heads.used (S.sound.usedAt u hi (λk=>(S.ok.seg k).n.2)).1
  ·obtain⟨f,aQ⟩:=t.img a' x q
   exact aQ.here i (by omega)
  ·have N:=t.pair x q
   rw[N.sz]at hi
   rcases(show i=0\/i=1 by omega)with rfl | rfl
   ·simpa using N.used.1
   ·exact N.used.2
 have X: ∀v,Good s.mem sz v-> ¬aE Z.O v->(m.genOf v).2=true-> ¬(m.genOf v).1<Z.T:=λv hv I z f=>by
  unfold Mem.genOf at z f
  by_cases V:dK v/\v % 8≠6
  ·rw[if_pos V]at z f
   have ht:isTag v:=by have:=V.1.1;have:=V.2;unfold isTag;omega
   have M:=B _ (hv.2 ht).1
   have b2:=b.used M
   simp only[if_pos b2.2.1]at f
   have L:Z.O (v / 8 / 64).toNat=false:=by
    by_cases q:Z.O (v / 8 / 64).toNat=true
    ·exact absurd ⟨V.1,V.2,q⟩ I
    ·simpa using q
   have h3:=t.gAtT S M L
   have h4:=(b.l.kAt M).2
   have h5:m.gAt (v / 8)<Z.T:=f
   omega
  ·rw[if_neg V]at z;cases z
 have wr: ∀x v,(x=p/\v=a\/x=p+1/\v=d)->Wrt (Z.putP p a d) {s' with mem:=m} (λx=>if x=p then 2 else sz x) x v:=λx v h=>by
  rcases h with⟨rfl,rfl⟩ | ⟨rfl,rfl⟩
  ·exact⟨a5.1,E,F.1,ha,ap,a2 _ aj,λ_=>by show m.kAt x<=1;rw[H.1];decide,λq1 q2=>absurd (by rw[<-H.2];exact q2) (X v aj ap q1),aX⟩
  ·exact⟨a5.2,by show Z.O _=false;rw[ae];exact E,F.2,hd,au,a2 _ ak,λ_=>by show m.kAt (p+1)<=1;rw[U.1];decide,λq1 q2=>absurd (by rw[<-U.2];exact q2) (X v ak au q1),aY⟩
 have aa: ∀{x v},Was0 Z fw x v->s.mem.used x:=λh=>(t.used0 h).1
 have az:Tri (Z.putP p a d) F0 fw al {s' with mem:=m} (λx=>if x=p then 2 else sz x):=by
  refine⟨?_,sm.even ev,t.heads.trans b.l,λk hk L=>?_,R,⟨c',Q⟩,⟨t.olds.nodup,t.olds.mem⟩,t.al,λx y h=>?_,t.inj,λx y u I b4=>?_,λx u=>?_,λy I=>?_,λx y h=>?_,λx u L h=>?_,λx u=>?_,λx v h=>?_,λx y h=>Reach.of (Z:=Z) (Z':=Z.putP p a d) rfl rfl rfl (λv hv=>hv) (t.reach x y h),λr hr=>?_,?_,λx v h=>?_,λx v V h=>?_,λx y h hp=>?_⟩
  ·have:=aw.sets p (ws:=[a,d]) (by intro w hw;simp at hw;rcases hw with rfl | rfl<;>assumption)
   rw[hm];exact this
  ·show(m.seg k).n=_
   rw[(sm.seg k).2.2.1]
   have am:k≠(p / 64).toNat:=λe=>by
    have L:Z.O k=true:=L
    rw[e,E]at L;cases L
   rw[K.others k am];exact t.oldN k hk L
  ·obtain⟨z,f⟩:=t.img x y h
   have bk:=(t.olds.mem x ((t.al x).2 ⟨y,h⟩)).1
   have a7:s.mem.used y:=by simpa using f.here 0 (by omega)
   exact⟨(G y a7).trans z,f.fit,λi hi=>(j _).2 (.inl (f.here i hi)),f.new,(b.l.kAt a7).2.trans f.gen,(b.l.kAt a7).1.trans f.kind,f.out,f.even⟩
  ·have u:(if x=p then 2 else sz x)≠0:=u
   have I:(if y=p then 2 else sz y)≠0:=I
   show x+((if x=p then 2 else sz x:Nat):Int)<=y
   by_cases z:x=p
   ·rw[if_neg (show y≠p by omega)]at I
    rw[if_pos z]
    have:=C y (B y I)
    omega
   ·rw[if_neg z]at u⊢
    by_cases f:y=p
    ·rcases Int.lt_or_le p (x+sz x)with b9 | b7
     ·have:=a8 x u (p-x).toNat (by omega)
      rw[show x+((p-x).toNat:Int)=p by omega]at this
      exact absurd this A.1
     ·omega
    ·rw[if_neg f]at I
     exact t.apart x y u I b4
  ·show(if x=p then 2 else sz x)=_
   rw[if_neg (a4 x u).1];exact t.sz0 x u
  ·have I:(if y=p then 2 else sz y)≠0:=I
   show Z.m.used y\/_\/y∈p::Z.P
   by_cases av:y=p
   ·exact .inr (.inr (by rw[av];simp))
   ·rw[if_neg av]at I
    rcases t.szn y I with q | q | q
    ·exact .inl q
    ·exact .inr (.inl q)
    ·exact .inr (.inr (List.mem_cons_of_mem _ q))
  ·have b3:=(t.olds.mem x ((t.al x).2 ⟨y,h⟩)).1
   show m.get x=_
   rw[D x (t.heads.used (S.sound.used x b3).1)];exact t.word x y h
  ·show m.get x=_
   rw[D x (t.heads.used u)];exact t.keep x u L h
  ·show Z.m.used x\/_\/ ∃r∈p::Z.P,_
   rcases(j x).1 u with q | q
   ·rcases t.cover x q with r | r | ⟨r,r1,r2⟩
    ·exact .inl r
    ·exact .inr (.inl r)
    ·exact .inr (.inr ⟨r,List.mem_cons_of_mem _ r1,r2⟩)
   ·exact .inr (.inr ⟨p,by simp,q⟩)
  ·show m.get x=v\/_
   by_cases ao:x=p\/x=p+1
   ·rw[lV ao]at h
    left
    rw[J x (by omega),h]
    by_cases z:x=p
    ·rw[if_pos z,if_pos z]
    ·rw[if_neg z,if_neg z,if_pos (ao.resolve_left z)]
   ·rw[mS (by omega)]at h
    have M:=(t.usedOf h).1
    rw[D x M]
    rcases t.val x v h with q | ⟨q1,q2,q3⟩
    ·exact .inl q
    ·refine .inr ⟨?_,q2,q3⟩
     show m.strong x
     unfold Mem.strong at*;rw[(b.l.kAt M).1];exact q1
  ·have hr:r∈p::Z.P:=hr
   rcases List.mem_cons.1 hr with rfl | hr
   ·refine⟨a5,⟨λh=>(a4 _ h).1 rfl,λh=>(a4 _ h).2 rfl⟩,H.2,H.1,E,aV,if_pos rfl,?_,?_⟩
    ·show(if r=r then some a else _)≠none
     rw[if_pos rfl];simp
    ·show(if r+1=r then some a else if r+1=r+1 then some d else _)≠none
     rw[if_neg (by omega),if_pos rfl];simp
   ·have N:=(t.pair r hr).keep (s':={s' with mem:=m}) b.l G
    have n1:=C _ (t.pair r hr).used.1
    have n2:=C _ (t.pair r hr).used.2
    refine⟨N.used,N.new,N.gen,N.kind,N.out,N.even,N.sz,?_,?_⟩
    ·show(if r=p then some a else if r=p+1 then some d else Z.q r)≠none
     rw[if_neg n1.1,if_neg n1.2];exact N.q.1
    ·show(if r+1=p then some a else if r+1=p+1 then some d else Z.q (r+1))≠none
     rw[if_neg n2.1,if_neg n2.2];exact N.q.2
  ·show(p::Z.P).Nodup
   rw[List.nodup_cons]
   exact⟨λh=>A.1 (t.pair p h).used.1,t.pnd⟩
  ·have h:(if x=p then some a else if x=p+1 then some d else Z.q x)=some v:=h
   by_cases z:x=p
   ·rw[if_pos z]at h;cases h;exact wr x _ (.inl ⟨z,rfl⟩)
   ·rw[if_neg z]at h
    by_cases f:x=p+1
    ·rw[if_pos f]at h;cases h;exact wr x _ (.inr ⟨f,rfl⟩)
    ·rw[if_neg f]at h
     have W:=(t.qok x v h).keep (s':={s' with mem:=m}) b.l B G
     exact⟨W.used,W.out,W.strong,W.word,W.young,W.good,W.head,W.mark,W.tagged⟩
  ·have M:=aa h
   have V:(if x=p then some a else if x=p+1 then some d else Z.q x)≠none:=V
   rw[if_neg (C x M).1,if_neg (C x M).2]at V
   exact t.qwas x v V h
  ·have hz:=(t.olds.mem x ((t.al x).2 ⟨y,h⟩)).1
   rcases List.mem_cons.1 hp with e | hp
   ·have:=(t.img x y h).2.here 0 (by omega)
    rw[e]at this
    exact A.1 (by simpa using this)
   ·exact t.pim x y h hp
 refine⟨az,b,D,G,A,j,?_,?_,⟨⟨by omega,by omega⟩,⟨by omega,λ_=>?_⟩,λo=>?_,by omega⟩⟩
 ·show m.get p=a
  rw[J p b5,if_pos rfl]
 ·show m.get (p+1)=d
  rw[J (p+1) (by omega),if_neg (by omega),if_pos rfl]
 ·rw[show(p*8+1) / 8=p by omega,show(p*8+1) % 8=1 by omega]
  show(if p=p then 2 else sz p)≠0/\1=tagK (m.kAt p)
  rw[if_pos rfl,H.1]
  exact⟨by decide,rfl⟩
 ·have:=o.2.2
  rw[show(p*8+1) / 8=p by omega,E]at this
  cases this
theorem PutP.done(t:Tri Z F0 fw al s sz){a d p:Int}{i:Sp}{c:Int->Nat}(h:PutP Z F0 fw al s sz a d p i c){y:Int}(b:s.mem.used y)(l:Done Z fw s y):Done (Z.putP p a d) fw i y:=λv f=>by
 have hn:y≠p/\y≠p+1:=⟨λe=>h.new.1 (e▸b),λe=>h.new.2 (e▸b)⟩
 rw[mS hn]at f
 obtain⟨j,k⟩:=l v f
 exact⟨j,by rw[h.get y b];exact k⟩
theorem PutP.doneN(S:aO Z g F0){a d p:Int}{i:Sp}{e:Int->Nat}(h:PutP Z F0 fw al s sz a d p i e){y:Int}(f:y=p\/y=p+1):Done (Z.putP p a d) fw i y:=λv c=>by
 have j:(Z.putP p a d).q y=some v:=by
  rw[lV f]at c
  show(if y=p then some a else if y=p+1 then some d else Z.q y)=some v
  rw[c]
  by_cases b:y=p
  ·rw[if_pos b,if_pos b]
  ·rw[if_neg b,if_neg b,if_pos (f.resolve_left b)]
 have W:=h.tri.qok y v j
 refine⟨λo=>absurd o W.young,?_⟩
 rw[ee W.young]
 rcases h.tri.val y v c with q | ⟨_,_,q⟩
 ·exact q
 ·rw[q,ee W.young]
theorem Pend.putP(S:aO Z g F0)(t:Tri Z F0 fw al s sz)(q:Pend Z fw s ks){a d p:Int}{m:Sp}{j:Int->Nat}(h:PutP Z F0 fw al s sz a d p m j):Pend (Z.putP p a d) fw m ks:=by
 refine⟨q.ok,λk i n o u e=>h.heads.used (q.here k i n o u e),λy w e v=>?_⟩
 by_cases c:y=p\/y=p+1
 ·exact .inl (h.doneN S c)
 ·have b:s.mem.used y:=((h.used y).1 w).resolve_right c
  have hk:=h.heads.l.kAt b
  have f:s.mem.strong y:=by unfold Mem.strong at*;rw[<-hk.1];exact v
  rcases q.pend y b e f with r | ⟨x,z⟩
  ·exact .inl (h.done t b r)
  ·exact .inr ⟨hk.2.trans x,z⟩
end
section
variable {Z:TZ} {g F0:Int} {fw:Int->Option Int} {al:List Int} {s:Sp} {sz:Int->Nat} {ks:List (Int×Value)}
theorem Tri.places(S:aO Z g F0)(t:Tri Z F0 fw al s sz){a:Int}(h:sz a≠0){i:Nat}(b:i<sz a):s.mem.used (a+i)/\(a+i) / 64=a / 64/\(a+i) % 64=a % 64+i:=by
 rcases t.szn a h with q | ⟨d,q⟩ | q
 ·have e:=t.sz0 a q
  rw[e]at h b
  have:=S.sound.usedAt h b (λk=>(S.ok.seg k).n.2)
  exact⟨t.heads.used this.1,this.2⟩
 ·obtain⟨j,c⟩:=t.img d a q
  have m:=c.fit
  exact⟨c.here i (by omega),by omega,by omega⟩
 ·have N:=t.pair a q
  have f:=N.used.1.1
  have l:=N.even
  rw[N.sz]at b
  refine⟨?_,by omega,by omega⟩
  rcases(show i=0\/i=1 by omega)with rfl | rfl
  ·simpa using N.used.1
  ·exact N.used.2
theorem Tri.pairs(S:aO Z g F0)(t:Tri Z F0 fw al s sz){a:Int}(h:sz a≠0)(hk:s.mem.kAt a<=1):sz a=2/\a % 2=0:=by
 rcases t.szn a h with q | ⟨c,q⟩ | q
 ·have e:=t.sz0 a q
  rw[e]at h⊢
  exact S.sound.two a h (by rw[<-(t.kAt q).1];exact hk)
 ·obtain⟨d,f⟩:=t.img c a q
  have b:Z.m.kAt c<=1:=by rw[<-f.kind];exact hk
  rw[d]
  exact⟨(S.sound.two c (by rw[<-d];exact h) b).1,f.even b⟩
 ·exact⟨(t.pair a q).sz,(t.pair a q).even⟩
theorem Tri.obj(S:aO Z g F0)(t:Tri Z F0 fw al s sz){a:Int}(h:sz a≠0)(n:Z.O (a / 64).toNat=false)(k:2<=s.mem.kAt a):ft (s.mem.get a)/\s.mem.kAt a=rawK (hk (s.mem.get a))/\(sz a:Int)=hn (s.mem.get a)+1:=by
 have d:Z.q a=none:=by
  cases d:Z.q a with
  | none=>rfl
  | some w=>have:=(t.qok a w d).head h;omega
 have key: ∀v,Was0 Z fw a v->ft v->s.mem.get a=v:=λv o m=>by
  rcases t.val a v (.inr ⟨d,o⟩)with e | ⟨_,_,e⟩
  ·exact e
  ·rw[e,ee (jV m _)]
 rcases t.szn a h with q | ⟨c,q⟩ | q
 ·have e:=t.sz0 a q
  have hk:=(t.kAt q).1
  obtain⟨b,f,i⟩:=S.sound.obj a (by rw[<-e];exact h) (by rw[<-hk];exact k)
  rw[key _ (.inl ⟨q,n,rfl⟩) b,hk,e]
  exact⟨b,f,i⟩
 ·obtain⟨j,l⟩:=t.img c a q
  obtain⟨b,f,i⟩:=S.sound.obj c (by rw[<-j];exact h) (by rw[<-l.kind];exact k)
  rw[key _ (.inr ⟨c,a,0,q,by omega,by simp,by simp⟩) b,l.kind,j]
  exact⟨b,f,i⟩
 ·have:=(t.pair a q).kind;omega
theorem Tri.alone(t:Tri Z F0 fw al s sz){a:Int}(h:sz a≠0){i:Nat}(c:0<i)(d:i<sz a):sz (a+i)=0:=by
 by_cases b:sz (a+i)=0
 ·exact b
 ·have:=t.apart a (a+i) h b (by omega);omega
theorem Tri.outOf(S:aO Z g F0)(t:Tri Z F0 fw al s sz){w:Int}(d:Good s.mem sz w)(e: ¬aE Z.O w)(a:isTag w):Z.O (w / 8 / 64).toNat=false/\dK w/\s.mem.used (w / 8):=by
 have b:=t.sz_used S (d.2 a).1
 have i:=t.ok.mem.lim
 have h:=b.2.1.2.1
 have f:=b.1
 have c:dK w:=⟨by unfold isTag at a;omega,by omega⟩
 refine⟨?_,c,b⟩
 by_cases q:Z.O (w / 8 / 64).toNat=true
 ·exact absurd ⟨c,by unfold isTag at a;omega,q⟩ e
 ·simpa using q
theorem Tri.isPair(S:aO Z g F0)(t:Tri Z F0 fw al s sz){w:Int}(i:Good s.mem sz w)(n: ¬aE Z.O w):s.mem.isPair w ↔ w % 8=1\/w % 8=2:=by
 constructor
 ·intro m
  rcases m.1 with q | q
  ·exact .inl q.2.1
  ·exact .inr q.2.1
 ·intro h
  have j:isTag w:=by unfold isTag;omega
  obtain⟨k,a⟩:=i.2 j
  obtain⟨_,f,d⟩:=t.outOf S i n j
  unfold tagK at a
  have e:s.mem.kAt (w / 8)<=1:=by
   by_cases b:s.mem.kAt (w / 8)=0
   ·omega
   ·rw[if_neg b]at a
    by_cases c:s.mem.kAt (w / 8)=1
    ·omega
    ·rw[if_neg c]at a;omega
  have l:=(t.pairs S k e).2
  refine⟨?_,l⟩
  by_cases b:s.mem.kAt (w / 8)=0
  ·rw[if_pos b]at a;exact .inl ⟨f,a,d.2.1,b,d.2.2⟩
  ·rw[if_neg b]at a
   by_cases c:s.mem.kAt (w / 8)=1
   ·rw[if_pos c]at a;exact .inr ⟨f,a,d.2.1,c,d.2.2⟩
   ·rw[if_neg c]at a;omega
theorem Tri.cdrAt(S:aO Z g F0)(t:Tri Z F0 fw al s sz){w:Int}(f:Good s.mem sz w)(n: ¬aE Z.O w)(h:w % 8=1\/w % 8=2):s.mem.used (w / 8+1)/\Z.O ((w / 8+1) / 64).toNat=false/\s.mem.strong (w / 8+1)/\sz (w / 8+1)=0/\s.mem.kAt (w / 8+1)<=1:=by
 have j:isTag w:=by unfold isTag;omega
 obtain⟨b,c⟩:=f.2 j
 obtain⟨m,q,r⟩:=t.outOf S f n j
 have e:=(t.ok.mem.seg (w / 8 / 64).toNat).kind
 have e:0<=s.mem.kAt (w / 8)/\s.mem.kAt (w / 8)<=3:=e
 have a:s.mem.kAt (w / 8)<=1:=by
  unfold tagK at c
  by_cases o:s.mem.kAt (w / 8)=0
  ·omega
  ·rw[if_neg o]at c
   by_cases p:s.mem.kAt (w / 8)=1
   ·omega
   ·rw[if_neg p]at c;omega
 obtain⟨u,v⟩:=t.pairs S b a
 obtain⟨k,d,x⟩:=t.places S b (i:=1) (by omega)
 have l:w / 8+((1:Nat):Int)=w / 8+1:=rfl
 rw[l]at k d
 have hk:s.mem.kAt (w / 8+1)=s.mem.kAt (w / 8):=by unfold Mem.kAt;rw[d]
 refine⟨k,by rw[d];exact m,?_,t.alone b (i:=1) (by decide) (by omega),by rw[hk];exact a⟩
 unfold Mem.strong
 rw[hk]
 exact⟨by omega,.inr (by omega)⟩
structure GdAt (Z:TZ) (s:Sp) (sz:Int->Nat) (gd:Int):Prop where
 tag:gd % 8=3
 three:sz (gd / 8)=3
 kind:s.mem.kAt (gd / 8)=2
 out:Z.O (gd / 8 / 64).toNat=false
 used: ∀i:Nat,i<3->s.mem.used (gd / 8+i)/\(gd / 8+i) / 64=gd / 8 / 64
 alone: ∀i:Nat,0<i->i<3->sz (gd / 8+i)=0
 head:ft (s.mem.get (gd / 8))/\hk (s.mem.get (gd / 8))=10/\hn (s.mem.get (gd / 8))=2
theorem GdAt.strong{a:Int}(h:GdAt Z s sz a){i:Nat}(b:i<3):s.mem.kAt (a / 8+i)=2/\s.mem.strong (a / 8+i)/\Z.O ((a / 8+i) / 64).toNat=false:=by
 have e:=(h.used i b).2
 have hk:s.mem.kAt (a / 8+i)=2:=by unfold Mem.kAt;rw[e];exact h.kind
 refine⟨hk,?_,by rw[e];exact h.out⟩
 unfold Mem.strong
 rw[hk];exact⟨by decide,.inl (by decide)⟩
theorem Tri.gdAt(S:aO Z g F0)(t:Tri Z F0 fw al s sz){a:Int}(h:Good s.mem sz a)(p: ¬aE Z.O a)(n:a % 8=3)(d:hk (s.mem.get (a / 8))=10/\hn (s.mem.get (a / 8))=2):GdAt Z s sz a:=by
 have k:isTag a:=by unfold isTag;omega
 obtain⟨c,b⟩:=h.2 k
 obtain⟨j,z,A⟩:=t.outOf S h p k
 have y:0<=s.mem.kAt (a / 8)/\s.mem.kAt (a / 8)<=3:=(t.ok.mem.seg (a / 8 / 64).toNat).kind
 have e:2<=s.mem.kAt (a / 8):=by
  unfold tagK at b
  by_cases l:s.mem.kAt (a / 8)=0
  ·rw[if_pos l]at b;omega
  ·rw[if_neg l]at b
   by_cases v:s.mem.kAt (a / 8)=1
   ·rw[if_pos v]at b;omega
   ·omega
 obtain⟨q,r,u⟩:=t.obj S c j e
 rw[d.2]at u
 have f:sz (a / 8)=3:=by omega
 exact⟨n,f,by rw[r,d.1];rfl,j,λi o=>by
  obtain⟨w,x,_⟩:=t.places S c (i:=i) (by omega)
  exact⟨w,x⟩,λi m o=>t.alone c m (by omega),q,d⟩
theorem GdAt.isObj(t:Tri Z F0 fw al s sz){a:Int}(h:GdAt Z s sz a):s.mem.isObj a/\s.mem.typ a=10/\s.mem.len a=2:=by
 have c:s.mem.used (a / 8):=by simpa using(h.used 0 (by decide)).1
 obtain⟨f,e⟩:=h.used 2 (by decide)
 have k:=t.ok.mem.lim
 have j:=c.2.1.2.1
 have i:=c.1
 have hn:=(t.ok.mem.seg (a / 8 / 64).toNat).n
 have b:s.mem.isObj a:=by
  refine⟨⟨⟨by have:=h.tag;omega,by omega⟩,h.tag,c.2.1,?_,c.2.2⟩,h.head.1,?_⟩
  ·rw[h.head.2.1];exact h.kind
  ·rw[h.head.2.2]
   have:=f.2.2
   have d:(a / 8+2) / 64=a / 8 / 64:=e
   rw[show(a / 8+((2:Nat):Int))=a / 8+2 from rfl,d]at this
   omega
 exact⟨b,by unfold Mem.typ;rw[if_pos b];exact h.head.2.1,by unfold Mem.len;rw[if_pos b];exact h.head.2.2⟩
theorem GdAt.field(t:Tri Z F0 fw al s sz){a:Int}(h:GdAt Z s sz a){i:Int}(e:i=0\/i=1):s.mem.fieldE a 10 i=0:=by
 obtain⟨b,c,d⟩:=h.isObj t
 unfold Mem.fieldE
 rw[if_neg (λq=>by rcases q with q | q;exact q b;exact q c),if_neg (by rw[d];omega)]
theorem Tri.gdOf(S:aO Z g F0)(t:Tri Z F0 fw al s sz){b:Int}(e:Good s.mem sz b)(f: ¬aE Z.O b)(c:s.mem.typ b=10)(d:s.mem.len b=2):GdAt Z s sz b:=by
 by_cases a:s.mem.isObj b
 ·unfold Mem.typ at c
  unfold Mem.len at d
  rw[if_pos a]at c d
  exact t.gdAt S e f a.1.2.1 ⟨c,d⟩
 ·unfold Mem.typ at c
  rw[if_neg a]at c;exact absurd c (by decide)
theorem GdAt.keep{a:Int}(h:GdAt Z s sz a){Z':TZ}{s':Sp}{c:Int->Nat}(k:Z'.O=Z.O)(d:eD s.mem s'.mem)(e: ∀y,s.mem.used y->c y=sz y)(l:s'.mem.get (a / 8)=s.mem.get (a / 8)):GdAt Z' s' c a:=by
 have f:s.mem.used (a / 8):=by simpa using(h.used 0 (by decide)).1
 exact⟨h.tag,(e _ f).trans h.three,(d.kAt f).1.trans h.kind,by rw[k];exact h.out,λi b=>⟨d.used (h.used i b).1,(h.used i b).2⟩,λi j b=>(e _ (h.used i b).1).trans (h.alone i j b),by rw[l];exact h.head⟩
theorem Good.keep{m c:Mem}{sz a:Int->Nat}{v:Int}(h:Good m sz v)(e:eD m c)(i: ∀y,sz y≠0->m.used y)(j: ∀y,m.used y->a y=sz y):Good c a v:=⟨h.1,λf=>by
 obtain⟨b,d⟩:=h.2 f
 have u:=i _ b
 rw[j _ u,(e.kAt u).1];exact⟨b,d⟩⟩
def jA(v:Int):Prop:=v % 8=1\/v % 8=2
instance (v:Int):Decidable (jA v):=by unfold jA;infer_instance
def iA(m:Mem)(gd th p x:Int):Int:=
 if x=p then th else if x=p+1 then 20 else if x=gd / 8+2 then p*8+1 else if x=(if jA (m.get (gd / 8+2))then m.get (gd / 8+2) / 8+1 else gd / 8+1)then p*8+1 else m.get x
structure qM (Z:TZ) (F0:Int) (fw:Int->Option Int) (al:List Int) (s:Sp) (sz:Int->Nat) (ks:List (Int×Value)) (gd th p:Int) (q:Int->Option Int) (s':Sp) (sz':Int->Nat):Prop where
 tri:Tri {Z with q:=q,P:=p::Z.P} F0 fw al s' sz'
 pend:Pend {Z with q:=q,P:=p::Z.P} fw s' ks
 heads:eD s.mem s'.mem
 new: ¬s.mem.used p/\ ¬s.mem.used (p+1)
 used: ∀x,s'.mem.used x ↔ s.mem.used x\/x=p\/x=p+1
 get: ∀x,s'.mem.used x->s'.mem.get x=iA s.mem gd th p x
 szo: ∀y,s.mem.used y->sz' y=sz y
 done: ∀y,s.mem.used y->Done Z fw s y->Done {Z with q:=q,P:=p::Z.P} fw s' y
 qo: ∀y,s.mem.used y->y≠gd / 8+2->y≠(if jA (s.mem.get (gd / 8+2))then s.mem.get (gd / 8+2) / 8+1 else gd / 8+1)->q y=Z.q y
 qz: ∀y,Z.q y≠none->q y≠none
 cf:s'.cf=s.cf
 qn: ∀y,q y≠none->Z.q y≠none\/(y=p\/y=p+1)\/y=gd / 8+2\/y=(if jA (s.mem.get (gd / 8+2))then s.mem.get (gd / 8+2) / 8+1 else gd / 8+1)
theorem Tri.putsG(S:aO Z g F0)(t:Tri Z F0 fw al s sz)(p:Pend Z fw s ks){a f:Int}(bm:aB a)(ao:Good s.mem sz a)(ap: ¬aE Z.O a)(ay:aB f)(aw:Good s.mem sz f)(az: ¬aE Z.O f)(ax:isTag f)
  (D:2*((Z.yk 0:Int)+Z.yk 1+Z.yk 2+Z.yk 3)+8+(((Z.P.length+1) / 32:Nat):Int)<=F0)
  (hg:s.mem.typ a=10/\s.mem.len a=2) (hf: ∀i:Nat,i=1\/i=2->Done Z fw s (a / 8+i))
  (hl:jA (s.mem.get (a / 8+2))->Good s.mem sz (s.mem.get (a / 8+2))/\ ¬aE Z.O (s.mem.get (a / 8+2))/\Done Z fw s (s.mem.get (a / 8+2) / 8+1)):
  ∃p q aV,qM Z F0 fw al s sz ks a f p q (s.putsG Z.T a f) aV:=by
 obtain⟨c,V⟩:=t.cap
 have av:=V.room t.ok S.sound S.ok t.olds S.room
 have b3:=S.rng
 have a3:may Z.T 0 2:=⟨by omega,.inl ⟨.inl rfl,rfl⟩⟩
 have U:=Sp.alloc_can t.ok a3 av
 have A:=t.putP S ay (by decide:aB 20) az (λo=>absurd o.1.1 (by decide)) aw ⟨by decide,λh=>absurd h (by decide)⟩ (.inl ax) (.inr rfl) U rfl rfl rfl
 have Y:(s.alloc Z.T 0 2).1.cf=s.cf:=Sp.alloc_cf _ _ _ _
 have e0:s.putT Z.T f 20=({(s.alloc Z.T 0 2).1 with mem:=(s.alloc Z.T 0 2).1.mem.sets (s.alloc Z.T 0 2).2.1 [f,20]},(s.alloc Z.T 0 2).2.1*8+1):=by unfold Sp.putT;rw[if_pos U]
 have W:({(s.alloc Z.T 0 2).1 with mem:=(s.alloc Z.T 0 2).1.mem.sets (s.alloc Z.T 0 2).2.1 [f,20]}:Sp).cf=s.cf:=by
  have h:=aT.sets [f,20] (s.alloc Z.T 0 2).1.mem (s.alloc Z.T 0 2).2.1
  rw[<-Y]
  unfold Sp.cf
  show((s.alloc Z.T 0 2).1.mem.sets _ _).count+((s.alloc Z.T 0 2).1.mem.sets _ _).free=_
  rw[h.count,h.free]
 generalize ({(s.alloc Z.T 0 2).1 with mem:=(s.alloc Z.T 0 2).1.mem.sets (s.alloc Z.T 0 2).2.1 [f,20]}:Sp)=b at*
 generalize (s.alloc Z.T 0 2).2.1=pa at*
 generalize b4:(λx=>if x=pa then 2 else sz x)=k at*
 obtain⟨w1,w2,w3,w4⟩:=A.word
 have w5:isTag (pa*8+1)\/pa*8+1=20:=.inl (by unfold isTag;omega)
 have H:aO (Z.putP pa f 20) g F0:=S.putP D
 have n:=A.tri
 have p1:=p.putP S t A
 have a6: ∀y,sz y≠0->s.mem.used y:=λy h=>t.sz_used S h
 have B:=t.gdOf S ao ap hg.1 hg.2
 have e1: ∀{z:Int},z+((1:Nat):Int)=z+1:=rfl
 have e2: ∀{z:Int},z+((2:Nat):Int)=z+2:=rfl
 have u0:s.mem.used (a / 8):=by simpa using(B.used 0 (by decide)).1
 have u1:s.mem.used (a / 8+1):=(B.used 1 (by decide)).1
 have u2:s.mem.used (a / 8+2):=(B.used 2 (by decide)).1
 have K:GdAt (Z.putP pa f 20) b k a:=B.keep rfl A.heads.l A.szo (A.get _ u0)
 have m:b.mem.lastG a=s.mem.get (a / 8+2):=by
  unfold Mem.lastG
  rw[if_pos (K.field n (.inr rfl)),show a / 8+1+1=a / 8+2 by omega,A.get _ u2]
 have d1: ∀i:Nat,i=1\/i=2->Done (Z.putP pa f 20) fw b (a / 8+i):=λi hi=>A.done t (B.used i (by omega)).1 (hf i hi)
 have C: ∀y,s.mem.used y->y≠pa/\y≠pa+1:=λy w=>⟨λe=>A.new.1 (e▸w),λe=>A.new.2 (e▸w)⟩
 have ev:s.putsG Z.T a f={b with mem:=b.mem.queued a (pa*8+1)}:=by
  unfold Sp.putsG
  rw[if_pos hg,e0,if_neg w4]
 rw[ev]
 generalize hL:s.mem.get (a / 8+2)=L at*
 obtain⟨d,E,M,c2,c3,c4,aj,a4,au⟩: ∃d,d=(if jA L then L / 8+1 else a / 8+1)/\s.mem.used d/\Z.O (d / 64).toNat=false/\b.mem.strong d/\k d=0/\Done (Z.putP pa f 20) fw b d/\(d≠a / 8/\d≠a / 8+2)/\b.mem.queued a (pa*8+1)=(b.mem.store d (pa*8+1)).1.fset a 10 1 (pa*8+1):=by
  by_cases j:jA L
  ·obtain⟨l1,l2,l3⟩:=hl j
   have v:Good b.mem k L:=l1.keep A.heads.l a6 A.szo
   obtain⟨u,c2,c3,c4,c5⟩:=n.cdrAt H v l2 j
   obtain⟨M,b2,bL,bM,b5⟩:=t.cdrAt S l1 l2 j
   have a2:=(n.isPair H v l2).2 j
   refine⟨L / 8+1,by rw[if_pos j],M,c2,c3,c4,A.done t M l3,⟨λe=>?_,λe=>?_⟩,?_⟩
   ·have k0:=B.kind
    rw[e,k0]at b5;omega
   ·have k2:s.mem.kAt (a / 8+2)=2:=(B.strong (i:=2) (by decide)).1
    rw[e,k2]at b5;omega
   ·have hE:b.mem.hsetE L 1 (pa*8+1)=0:=by unfold Mem.hsetE;rw[if_pos a2];exact Mem.store_0 n.ok.mem u w1
    unfold Mem.queued
    rw[m,if_pos hE]
    unfold Mem.hset
    rw[if_pos a2]
  ·have a5: ¬b.mem.isPair L:=λhp=>j (by
    rcases hp.1 with q | q
    ·exact .inl q.2.1
    ·exact .inr q.2.1)
   have F:=K.strong (i:=1) (by decide)
   rw[e1]at F
   refine⟨a / 8+1,by rw[if_neg j],u1,F.2.2,F.2.1,K.alone 1 (by decide) (by decide),d1 1 (.inl rfl),⟨by omega,by omega⟩,?_⟩
   have hE: ¬b.mem.hsetE L 1 (pa*8+1)=0:=by unfold Mem.hsetE;rw[if_neg a5];decide
   have hS:b.mem.hset L 1 (pa*8+1)=b.mem:=by unfold Mem.hset;rw[if_neg a5]
   have e:b.mem.fset a 10 0 (pa*8+1)=(b.mem.store (a / 8+1) (pa*8+1)).1:=by
    unfold Mem.fset
    rw[if_pos (K.field n (.inl rfl)),show a / 8+1+0=a / 8+1 by omega]
   unfold Mem.queued
   rw[m,if_neg hE,hS,e]
 have u:=A.heads.used M
 obtain⟨t2,N⟩:=n.write H u c2 c3 aj (λh=>absurd c4 h) w1 w3 w2 w5
 have p2:=p1.write H n u N
 have r:=Mem.store_headsL n.ok.mem (x:=d) w1
 have S2:=H.wrt d (pa*8+1)
 have G2:GdAt ((Z.putP pa f 20).wrt d (pa*8+1)) {b with mem:=(b.mem.store d (pa*8+1)).1} k a:=K.keep rfl r (λ_ _=>rfl) (by
  show(b.mem.store d (pa*8+1)).1.get _=_
  rw[Mem.store_get u _ u0.1,if_neg (λe=>a4.1 e.symm)])
 have hq:b.mem.queued a (pa*8+1)=((b.mem.store d (pa*8+1)).1.store (a / 8+2) (pa*8+1)).1:=by
  rw[au]
  unfold Mem.fset
  rw[if_pos (G2.field t2 (.inr rfl)),show a / 8+1+1=a / 8+2 by omega]
 have v2:=(G2.used 2 (by decide)).1
 have G:=G2.strong (i:=2) (by decide)
 rw[e2]at v2 G
 have af:Done ((Z.putP pa f 20).wrt d (pa*8+1)) fw {b with mem:=(b.mem.store d (pa*8+1)).1} (a / 8+2):=(d1 2 (.inr rfl)).wrt n u (A.heads.used u2) (λe=>a4.2 e.symm)
 have an:Good (b.mem.store d (pa*8+1)).1 k (pa*8+1):=w2.keep r (λy h=>n.sz_used H h) (λ_ _=>rfl)
 obtain⟨t3,Q⟩:=t2.write S2 v2 G.2.2 G.2.1 af (λh=>absurd (G2.alone 2 (by decide) (by decide)) h) w1 w3 an w5
 have p3:=p2.write S2 t2 v2 Q
 have ai:=Mem.store_headsL t2.ok.mem (x:=a / 8+2) w1
 rw[hq]
 have X:({b with mem:=((b.mem.store d (pa*8+1)).1.store (a / 8+2) (pa*8+1)).1}:Sp).cf=s.cf:=by
  rw[<-W]
  unfold Sp.cf
  show((b.mem.store _ _).1.store _ _).1.count+((b.mem.store _ _).1.store _ _).1.free=_
  rw[Mem.store_lim.2.2,Mem.store_lim.2.1,Mem.store_lim.2.2,Mem.store_lim.2.1]
 refine⟨pa,_,k,t3,p3,(A.heads.l.trans r).trans ai,A.new,λx=>?_,λx J=>?_,A.szo,λy w ak=>?_,λy w R I=>?_,λy h=>?_,X,λy h=>?_⟩
 ·show((b.mem.store _ _).1.store _ _).1.used x ↔ _
  rw[Mem.store_used,Mem.store_used,A.used]
 ·have J:((b.mem.store d (pa*8+1)).1.store (a / 8+2) (pa*8+1)).1.used x:=J
  rw[Mem.store_used,Mem.store_used]at J
  show((b.mem.store d (pa*8+1)).1.store (a / 8+2) (pa*8+1)).1.get x=_
  have aY:(b.mem.store d (pa*8+1)).1.used (a / 8+2):=v2
  rw[Mem.store_get aY x J.1,Mem.store_get u x J.1]
  unfold iA
  rw[hL,<-E]
  have n1:=C _ u2
  have n2:=C _ M
  by_cases R:x=pa
  ·rw[if_pos R,if_neg (by omega),if_neg (by omega),R,A.car]
  rw[if_neg R]
  by_cases I:x=pa+1
  ·rw[if_pos I,if_neg (by omega),if_neg (by omega),I,A.cdr]
  rw[if_neg I]
  refine ite_congr rfl (λ_=>rfl) (λ_=>ite_congr rfl (λ_=>rfl) (λ_=>?_))
  exact A.get x (((A.used x).1 J).resolve_right (by omega))
 ·have a0:=A.done t w ak
  have a1:Done ((Z.putP pa f 20).wrt d (pa*8+1)) fw {b with mem:=(b.mem.store d (pa*8+1)).1} y:=by
   by_cases e:y=d
   ·rw[e];exact N
   ·exact a0.wrt n u (A.heads.used w) e
  by_cases e:y=a / 8+2
  ·rw[e];exact Q
  ·exact a1.wrt t2 v2 (r.used (A.heads.used w)) e
 ·rw[hL,<-E]at I
  obtain⟨n1,n2⟩:=C y w
  show(if y=a / 8+2 then _ else if y=d then _ else if y=pa then _ else if y=pa+1 then _ else Z.q y)=_
  rw[if_neg R,if_neg I,if_neg n1,if_neg n2]
 ·show(if y=a / 8+2 then _ else if y=d then _ else if y=pa then _ else if y=pa+1 then _ else Z.q y)≠none
  split
  ·simp
  split
  ·simp
  split
  ·simp
  split
  ·simp
  ·exact h
 ·rw[hL,<-E]
  have h:(if y=a / 8+2 then some (pa*8+1)else if y=d then some (pa*8+1)else if y=pa then some f else if y=pa+1 then some 20 else Z.q y)≠none:=h
  by_cases q1:y=a / 8+2
  ·exact .inr (.inr (.inl q1))
  by_cases q2:y=d
  ·exact .inr (.inr (.inr q2))
  by_cases q3:y=pa
  ·exact .inr (.inl (.inl q3))
  by_cases q4:y=pa+1
  ·exact .inr (.inl (.inr q4))
  rw[if_neg q1,if_neg q2,if_neg q3,if_neg q4]at h
  exact .inl h
end
def reachedB(O:Nat->Bool)(m:Mem)(w:Int):Bool:=decide (¬aE O w) || (m.fwd w).isSome
def dnB(O:Nat->Bool)(fw:Int->Option Int)(w:Int):Bool:=decide (¬aE O w) || (fw (w / 8)).isSome
theorem ki{O:Nat->Bool}{fw:Int->Option Int}{w:Int}:dnB O fw w=true ↔ Dn O fw w:=by
 unfold dnB Dn
 by_cases h:aE O w
 ·rw[zQ (show ¬ ¬aE O w from λq=>q h),Bool.false_or,Option.isSome_iff_exists]
  exact⟨λq _=>q,λq=>q h⟩
 ·rw[zX h,Bool.true_or]
  exact⟨λ_ q=>absurd q h,λ_=>rfl⟩
def Fit(O:Nat->Bool)(m:Mem)(l:List (Int×Int))(lost:List Int)(i:Nat):Prop:= ∃e,l[i]?=some e/\lost[i]?=some 1/\reachedB O m e.2=true
def kY(O:Nat->Bool)(T:Int)(s:Sp)(e:Int×Int):Sp:=((s.visit O T e.1).1.visit O T e.2).1.putsG T ((s.visit O T e.1).1.visit O T e.2).2 (s.visit O T e.1).2
inductive Rdy (O:Nat->Bool) (T:Int) (l:List (Int×Int)) (s:Sp) (ks:List (Int×Value)) (lost:List Int):Sp->List (Int×Value)->List Int->Prop
 | refl:Rdy O T l s ks lost s ks lost
 | step {s1 s2:Sp} {k1 k2:List (Int×Value)} {lost1:List Int} {i:Nat} {e:Int×Int} (h:Rdy O T l s ks lost s1 k1 lost1) (he:l[i]?=some e) (hl:lost1[i]?=some 1) (hr:reachedB O s1.mem e.2=true) (hf: ∀j,j<i-> ¬Fit O s1.mem l lost1 j)
   (hd:dd O T (kY O T s1 e) k1 s2 k2) (hdd:fP O T s2 k2):Rdy O T l s ks lost s2 k2 (lost1.set i 2)
def gE(O:Nat->Bool)(m:Mem)(l:List (Int×Int)):List Int:=l.map λe=>if reachedB O m e.1=true then 0 else 1
def fl(O:Nat->Bool)(T:Int)(st:Sp×List (Int×Int))(e:(Int×Int)×Int):Sp×List (Int×Int):=
 if e.2<2/\reachedB O st.1.mem e.1.2=true then(((st.1.visit O T e.1.1).1.visit O T e.1.2).1,st.2++[((st.1.visit O T e.1.1).2,((st.1.visit O T e.1.1).1.visit O T e.1.2).2)])else st
def outG(O:Nat->Bool)(T:Int)(s:Sp)(l:List (Int×Int))(lost:List Int):Sp×List (Int×Int):=(l.zip lost).foldl (fl O T) (s,[])
section
variable {Z:TZ} {g F0:Int} {fw:Int->Option Int} {al:List Int} {s:Sp} {sz:Int->Nat} {ks:List (Int×Value)}
theorem Tri.reachedB(S:aO Z g F0)(t:Tri Z F0 fw al s sz){w:Int}(b:aB w)(a:Good Z.m Z.sz w):reachedB Z.O s.mem w=dnB Z.O fw w:=by
 unfold Go.Proofs.YtfhbhckhmnleoaaGreat.reachedB dnB
 by_cases h:aE Z.O w
 ·rw[t.fwd_is S b a h,Option.isSome_map]
 ·rw[zX h];rfl
theorem Tri.visit_dn(S:aO Z g F0)(t:Tri Z F0 fw al s sz){w:Int}(f:aB w)(d:Good Z.m Z.sz w)(c:Dn Z.O fw w):s.visit Z.O Z.T w=(s,Fw Z.O fw w):=by
 by_cases h:aE Z.O w
 ·obtain⟨b,a⟩:=c h
  have e:=t.fwd_is S f d h
  rw[a]at e
  rw[Sp.visit_fwd h e,fk h a]
 ·rw[Sp.visit_no h,ee h]
theorem Tri.goodFw(S:aO Z g F0)(t:Tri Z F0 fw al s sz){v:Int}(n:aB v)(c:Good Z.m Z.sz v)(h:Dn Z.O fw v):aB (Fw Z.O fw v)/\Good s.mem sz (Fw Z.O fw v)/\ ¬aE Z.O (Fw Z.O fw v):=by
 refine⟨t.fw_word S n,?_,t.fw_young h⟩
 by_cases d:aE Z.O v
 ·obtain⟨b,f⟩:=h d
  obtain⟨a,e,p,k⟩:=S.oldWord c d
  obtain⟨j,o⟩:=t.img _ _ f
  rw[fk d f]
  refine⟨by have:=c.1;omega,λ_=>?_⟩
  rw[show(b*8+v % 8) / 8=b by omega,show(b*8+v % 8) % 8=v % 8 by omega,j,o.kind]
  exact⟨a,k⟩
 ·rw[ee d]
  refine⟨c.1,λl=>?_⟩
  obtain⟨a,e⟩:=c.2 l
  have i:=(S.sound.used _ a).1
  rw[t.sz0 _ i,(t.kAt i).1]
  exact⟨a,e⟩
theorem Tri.doneWord(S:aO Z g F0)(t:Tri Z F0 fw al s sz){x:Int}(k:s.mem.used x)(i:Z.O (x / 64).toNat=false)(j:s.mem.strong x)(f:Done Z fw s x):aB (s.mem.get x)/\Good s.mem sz (s.mem.get x)/\ ¬aE Z.O (s.mem.get x):=by
 obtain⟨v,a⟩:=t.was k i
 obtain⟨d,e⟩:=f v a
 rw[e]
 rcases a with h | ⟨_,h⟩
 ·have W:=t.qok x v h
  rw[ee W.young];exact⟨W.word,W.good,W.young⟩
 ·obtain⟨b,c⟩:=t.was0_any S h j.1
  exact t.goodFw S b c d
theorem Tri.sz_same(t:Tri Z F0 fw al s sz){Z':TZ}(hm:Z'.m=Z.m)(f:Z'.sz=Z.sz)(i: ∀p∈Z.P,p∈Z'.P){b:Int->Option Int}{d:List Int}{k:Sp}{c:Int->Nat}(e:Tri Z' F0 b d k c)(j:Le fw b){y:Int}(h:sz y≠0):c y=sz y:=by
 rcases t.szn y h with q | ⟨a,q⟩ | q
 ·rw[t.sz0 y q,e.sz0 y (by rw[hm];exact q),f]
 ·rw[(t.img a y q).1,(e.img a y (j _ _ q)).1,f]
 ·rw[(t.pair y q).sz,(e.pair y (i y q)).sz]
theorem Tri.stay(t:Tri Z F0 fw al s sz){a:Int->Option Int}{d:List Int}{b:Sp}{i:Int->Nat}(y:Tri Z F0 a d b i)(h:Le fw a)(hk:eD s.mem b.mem){x:Int}(j:s.mem.used x)(w:Z.O (x / 64).toNat=false)(u:s.mem.strong x->Done Z fw s x/\Done Z a b x):b.mem.get x=s.mem.get x:=by
 obtain⟨v,c⟩:=t.was j w
 by_cases e:s.mem.strong x
 ·obtain⟨p,r⟩:=u e
  obtain⟨k,l⟩:=p v c
  obtain⟨z,m⟩:=r v (c.mono h)
  rw[l,m,gK k h]
 ·have f: ¬b.mem.strong x:=λq=>e (by unfold Mem.strong at*;rw[<-(hk.kAt j).1];exact q)
  have n:s.mem.get x=v:=by
   rcases t.val x v c with q | ⟨q,_⟩
   ·exact q
   ·exact absurd q e
  have o:b.mem.get x=v:=by
   rcases y.val x v (c.mono h)with q | ⟨q,_⟩
   ·exact q
   ·exact absurd q f
  rw[n,o]
theorem nD{O:Nat->Bool}{fw:Int->Option Int}(v:Int):Fw O fw v % 8=v % 8:=by
 unfold Fw
 split
 ·cases fw (v / 8)with
  | none=>rfl
  | some b=>show(b*8+v % 8) % 8=_;omega
 ·rfl
structure On (M:Mem) (szM:Int->Nat) (O:Nat->Bool) (T g F0:Int) (V:Int->Prop) (q:Int->Option Int) (P:List Int) (fw:Int->Option Int) (al:List Int) (s:Sp) (sz:Int->Nat) (ks:List (Int×Value)):Prop where
 S:aO ⟨M,szM,O,T,V,q,P⟩ g F0
 tri:Tri ⟨M,szM,O,T,V,q,P⟩ F0 fw al s sz
 fin:Fin ⟨M,szM,O,T,V,q,P⟩ fw s
 pend:Pend ⟨M,szM,O,T,V,q,P⟩ fw s ks
 roots: ∀v,V v->Dn O fw v
end
structure pZ (M:Mem) (szM:Int->Nat) (O:Nat->Bool) (T g F0:Int) (V:Int->Prop) (q:Int->Option Int) (P:List Int) (fw:Int->Option Int) (s:Sp) (sz:Int->Nat) (o gd:Int) (q':Int->Option Int) (P':List Int) (fw':Int->Option Int) (al':List Int) (s2:Sp) (sz':Int->Nat) (ks2:List (Int×Value)):Prop where
 on:On M szM O T g F0 (λv=>v=o\/V v) q' P' fw' al' s2 sz' ks2
 le:Le fw fw'
 heads:eD s.mem s2.mem
 cf:s2.cf=s.cf
 szo: ∀y,sz y≠0->sz' y=sz y
 qz: ∀y,q y≠none->q' y≠none
 how:(¬(s.mem.typ (Fw O fw gd)=10/\s.mem.len (Fw O fw gd)=2)/\q'=q/\P'=P/\ ∀x,s.mem.used x->O (x / 64).toNat=false->s2.mem.get x=s.mem.get x)\/
  ((s.mem.typ (Fw O fw gd)=10/\s.mem.len (Fw O fw gd)=2)/\ ∃p,P'=p::P/\ ¬s.mem.used p/\ ¬s.mem.used (p+1)/\ ∀x,(s.mem.used x/\O (x / 64).toNat=false)\/x=p\/x=p+1->s2.mem.get x=iA s.mem (Fw O fw gd) (Fw O fw' o) p x)
 qn: ∀y,q' y≠none->q y≠none\/(∃p,P'=p::P/\(y=p\/y=p+1))\/y=Fw O fw gd / 8+2\/y=(if jA (s.mem.get (Fw O fw gd / 8+2))then s.mem.get (Fw O fw gd / 8+2) / 8+1 else Fw O fw gd / 8+1)
theorem On.ready{M:Mem}{j:Int->Nat}{O:Nat->Bool}{T g F0:Int}{V:Int->Prop}{q:Int->Option Int}{P:List Int}{fw:Int->Option Int}{al:List Int}{s:Sp}{sz:Int->Nat}{ks:List (Int×Value)}(h:On M j O T g F0 V q P fw al s sz ks)
  {o d:Int} (ag:aB o) (af:Good M j o) (b2:isTag o) (ae:aB d) (ac:Good M j d) (hr:reachedB O s.mem d=true) (a1: ∀Z:TZ,Z.m=M->Z.O=O->2*((Z.yk 0:Int)+Z.yk 1+Z.yk 2+Z.yk 3)+8+(((P.length+1) / 32:Nat):Int)<=F0)
  {s2:Sp} {ai:List (Int×Value)} (hd:dd O T (kY O T s (o,d)) ks s2 ai) (ap:fP O T s2 ai):
  ∃q' P' K Y a4,pZ M j O T g F0 V q P fw s sz o d q' P' K Y s2 a4 ai:=by
 obtain⟨S,t,f,p,r⟩:=h
 have ab:Dn O fw d:=by
  have:=t.reachedB S ae ac
  rw[this]at hr
  exact ki.1 hr
 have w:aO ⟨M,j,O,T,λv=>v=o\/V v,q,P⟩ g F0:=S.more ag af
 have I:Tri ⟨M,j,O,T,λv=>v=o\/V v,q,P⟩ F0 fw al s sz:=t.more o
 have p1:Pend ⟨M,j,O,T,λv=>v=o\/V v,q,P⟩ fw s ks:=p.more o
 have f1:Fin ⟨M,j,O,T,λv=>v=o\/V v,q,P⟩ fw s:=f
 clear t p f S
 obtain⟨b,bl,aw,W⟩:=I.visit w ag af (λC=> .root (.inl rfl) C)
 have t2:=W.tri
 have A:=W.le
 have au:Dn O b d:=ab.mono A
 have b6:(s.visit O T o).1.visit O T d=((s.visit O T o).1,Fw O b d):=t2.visit_dn w ae ac au
 have b0:Fw O b d=Fw O fw d:=gK ab A
 have b7:(s.visit O T o).2=Fw O b o:=W.val
 have e:kY O T s (o,d)=(s.visit O T o).1.putsG T (Fw O fw d) (Fw O b o):=by
  unfold kY
  show((s.visit O T o).1.visit O T d).1.putsG T ((s.visit O T o).1.visit O T d).2 (s.visit O T o).2=_
  rw[b6,b7,b0]
 rw[e]at hd
 have av:=p1.visited I W
 obtain⟨bk,a7,a3⟩:=I.goodFw w ae ac ab
 obtain⟨bm,bn,bo⟩:=t2.goodFw w ag af W.dn
 have bp:isTag (Fw O b o):=by
  have e:=nD (O:=O) (fw:=b) o
  unfold isTag at*;rw[e];exact b2
 have a8:(s.visit O T o).1.cf=s.cf:=Sp.visit_cf _ _ _ _
 have ah: ∀y,sz y≠0->aw y=sz y:=λy R=>I.sz_same rfl rfl (λ_ h=>h) t2 A R
 have a2: ∀y,sz y≠0->s.mem.used y:=λy R=>I.sz_used w R
 have n: ∀v,Good s.mem sz v->Good (s.visit O T o).1.mem aw v:=λv E=>⟨E.1,λht=>by
  obtain⟨g1,g2⟩:=E.2 ht
  rw[ah _ g1,(W.heads.l.kAt (a2 _ g1)).1]
  exact⟨g1,g2⟩⟩
 have B:=W.rest
 have a:=W.heads
 have k: ∀x,s.mem.used x->O (x / 64).toNat=false->s.mem.strong x->Done ⟨M,j,O,T,λv=>v=o\/V v,q,P⟩ b (s.visit O T o).1 x:=λx hu C hs=>W.done I hu C (f1 x hu C hs)
 have D: ∀v,(v=o\/V v)->Dn O b v:=λv E=>by
  rcases E with rfl | E
  ·exact W.dn
  ·exact(r v E).mono A
 generalize (s.visit O T o).1=X at*
 have J:(X.mem.typ (Fw O fw d)=10/\X.mem.len (Fw O fw d)=2) ↔ (s.mem.typ (Fw O fw d)=10/\s.mem.len (Fw O fw d)=2):=by
  constructor
  ·rintro⟨c1,c2⟩
   have G:=t2.gdOf w (n _ a7) a3 c1 c2
   have h3:=G.tag
   have hu:s.mem.used (Fw O fw d / 8):=a2 _ (a7.2 (by unfold isTag;omega)).1
   have C:=G.out
   have:=(I.gdAt w a7 a3 h3 (by rw[<-B _ hu C];exact G.head.2)).isObj I
   exact this.2
  ·rintro⟨c1,c2⟩
   have G:=I.gdOf w a7 a3 c1 c2
   have h3:=G.tag
   have hu:s.mem.used (Fw O fw d / 8):=a2 _ (a7.2 (by unfold isTag;omega)).1
   have:=(t2.gdAt w (n _ a7) a3 h3 (by rw[B _ hu G.out];exact G.head.2)).isObj t2
   exact this.2
 by_cases hG:X.mem.typ (Fw O fw d)=10/\X.mem.len (Fw O fw d)=2
 case neg=>
  have ep:X.putsG T (Fw O fw d) (Fw O b o)=X:=by unfold Sp.putsG;rw[if_neg hG]
  rw[ep]at hd
  obtain⟨K,Y,a4,L,a0,H⟩:=t2.pends w av hd ap
  refine⟨q,P,K,Y,a4,⟨w,L.tri,a0,H,λv E=>(D v E).mono L.le⟩,A.trans L.le,a.l.trans L.heads.l,(jK hd).trans a8,λy R=>?_,λy R=>R,.inl ⟨λq=>hG (J.2 q),rfl,rfl,λx hu C=>?_⟩,λy R=> .inl R⟩
  ·exact I.sz_same rfl rfl (λ_ h=>h) L.tri (A.trans L.le) R
  ·exact I.stay L.tri (A.trans L.le) (a.l.trans L.heads.l) hu C (λhs=>⟨f1 x hu C hs,L.done x (a.used hu) C (k x hu C hs)⟩)
 have G1:=I.gdOf w a7 a3 (J.1 hG).1 (J.1 hG).2
 have u2:s.mem.used (Fw O fw d / 8+2):=(G1.used 2 (by decide)).1
 have U:=G1.strong (i:=2) (by decide)
 have e2:Fw O fw d / 8+((2:Nat):Int)=Fw O fw d / 8+2:=rfl
 rw[e2]at U
 have F:X.mem.get (Fw O fw d / 8+2)=s.mem.get (Fw O fw d / 8+2):=B _ u2 U.2.2
 obtain⟨l1,l2,l3⟩:=I.doneWord w u2 U.2.2 U.2.1 (f1 _ u2 U.2.2 U.2.1)
 have aQ:=λa6=>I.cdrAt w l2 l3 a6
 obtain⟨pa,q',bD,Q⟩:=t2.putsG w av bk (n _ a7) a3 bm bn bo bp (a1 _ rfl rfl) hG (λi hi=>by
   have u:=G1.used i (by omega)
   have st:=G1.strong (i:=i) (by omega)
   exact k _ u.1 st.2.2 st.2.1) (λa6=>by
   rw[F]at a6⊢
   obtain⟨c1,c2,c3,_,_⟩:=aQ a6
   exact⟨n _ l2,l3,k _ c1 c2 c3⟩)
 have t3:=Q.tri
 have S3:aO ⟨M,j,O,T,λv=>v=o\/V v,q',pa::P⟩ g F0:=⟨w.ok,w.even,w.sound,w.old,w.rng,a1 ⟨M,j,O,T,λv=>v=o\/V v,q',pa::P⟩ rfl rfl,w.V⟩
 obtain⟨K,Y,a4,L,a0,H⟩:=t3.pends S3 Q.pend hd ap
 have b4: ∀x,s.mem.used x->(X.putsG T (Fw O fw d) (Fw O b o)).mem.used x:=λx z=>Q.heads.used (a.used z)
 have b1:Fw O K o=Fw O b o:=gK W.dn L.le
 refine⟨q',pa::P,K,Y,a4,⟨S3,L.tri,a0,H,λv E=>(D v E).mono L.le⟩,A.trans L.le,(a.l.trans Q.heads).trans L.heads.l,((jK hd).trans Q.cf).trans a8,λy R=>?_,Q.qz,.inr ⟨J.1 hG,pa,rfl,λq=>Q.new.1 (a.used q),λq=>Q.new.2 (a.used q),λx z=>?_⟩,λy R=>by
  rcases Q.qn y R with q | q | q | q
  ·exact .inl q
  ·exact .inr (.inl ⟨pa,rfl,q⟩)
  ·exact .inr (.inr (.inl q))
  ·rw[F]at q;exact .inr (.inr (.inr q))⟩
 ·exact I.sz_same (Z':=⟨M,j,O,T,λv=>v=o\/V v,q',pa::P⟩) rfl rfl (λ_ h=>List.mem_cons_of_mem _ h) L.tri (A.trans L.le) R
 ·-- what stands there
  have b8:(X.putsG T (Fw O fw d) (Fw O b o)).mem.used x/\O (x / 64).toNat=false/\((X.putsG T (Fw O fw d) (Fw O b o)).mem.strong x->Done ⟨M,j,O,T,λv=>v=o\/V v,q',pa::P⟩ b (X.putsG T (Fw O fw d) (Fw O b o)) x):=by
   rcases z with⟨z,C⟩ | z
   ·refine⟨b4 x z,C,λhs=>Q.done x (a.used z) (k x z C ?_)⟩
    have hk:=(a.l.trans Q.heads).kAt z
    unfold Mem.strong at*;rw[<-hk.1];exact hs
   ·have N:=t3.pair pa (by simp)
    have h0:=N.used.1.1
    have he:=N.even
    have C:O (x / 64).toNat=false:=by
     have:=N.out
     rcases z with rfl | rfl
     ·exact this
     ·rw[show(pa+1) / 64=pa / 64 by omega];exact this
    have b5:(X.putsG T (Fw O fw d) (Fw O b o)).mem.used x:=by
     rcases z with rfl | rfl
     ·exact N.used.1
     ·exact N.used.2
    refine⟨b5,C,λhs v E=>?_⟩
    have hq:q' x≠none:=by
     rcases z with rfl | rfl
     ·exact N.q.1
     ·exact N.q.2
    rcases E with E | ⟨E,_⟩
    ·have Wr:=t3.qok x v E
     refine⟨λo'=>absurd o' Wr.young,?_⟩
     rw[ee Wr.young]
     rcases t3.val x v (.inl E)with c | ⟨_,_,c⟩
     ·exact c
     ·rw[c,ee Wr.young]
    ·exact absurd E hq
  obtain⟨x1,x2,x3⟩:=b8
  have b3:=t3.stay L.tri L.le L.heads.l x1 x2 (λhs=>⟨x3 hs,L.done x x1 x2 (x3 hs)⟩)
  rw[b3,Q.get x x1,b1]
  unfold iA
  rw[F]
  refine ite_congr rfl (λ_=>rfl) (λn1=>ite_congr rfl (λ_=>rfl) (λn2=>ite_congr rfl (λ_=>rfl) (λn3=>ite_congr rfl (λ_=>rfl) (λn4=>?_))))
  rcases z with⟨z,C⟩ | z
  ·exact B x z C
  ·rcases z with z | z
   ·exact absurd z n1
   ·exact absurd z n2
theorem jW: ∀(l:List Int) {i:Nat},l[i]?=some 1->(l.set i 2).countP (λv=>decide (v=1))+1=l.countP (λv=>decide (v=1))
 | [],i,h=>by simp at h
 | a::l,0,h=>by
  simp only[List.getElem?_cons_zero,Option.some.injEq]at h
  subst h
  rw[List.set_cons_zero,List.countP_cons,List.countP_cons];simp
 | a::l,i+1,h=>by
  rw[List.getElem?_cons_succ]at h
  have:=jW l h
  rw[List.set_cons_succ,List.countP_cons,List.countP_cons];omega
theorem pn{l:List Int}{i j:Nat}{v:Int}(h:(l.set i 2)[j]?=some v):l[j]?=some v\/v=2:=by
 rw[List.getElem?_set]at h
 by_cases e:i=j
 ·rw[if_pos e]at h
  split at h
  ·exact .inr (Option.some.inj h).symm
  ·cases h
 ·rw[if_neg e]at h;exact .inl h
def qW(M:Mem)(szM:Int->Nat)(e:Int×Int):Prop:=(aB e.1/\Good M szM e.1)/\aB e.2/\Good M szM e.2
section
variable {M:Mem} {szM:Int->Nat} {O:Nat->Bool} {T g F0:Int} {V:Int->Prop} {q:Int->Option Int} {P:List Int} {fw:Int->Option Int} {al:List Int} {s:Sp} {sz:Int->Nat} {ks:List (Int×Value)}
theorem Rdy.lost{l:List (Int×Int)}{b a:List Int}{k:Sp}{f:List (Int×Value)}(R:Rdy O T l s ks b k f a):a.length=b.length/\ ∀(i:Nat) (v:Int),a[i]?=some v->b[i]?=some v\/v=2:=by
 induction R with
 | refl=>exact⟨rfl,λi v h=> .inl h⟩
 | @step x k w f c i e R r o u t p m d=>
  refine⟨by rw[List.length_set];exact d.1,λj v n=>?_⟩
  rcases pn n with h | h
  ·exact d.2 j v h
  ·exact .inr h
theorem On.settled(t:On M szM O T g F0 V q P fw al s sz ks){l:List (Int×Int)}(E: ∀e∈l,qW M szM e){y:Int->Prop}{G:Int->Option Int}{x:List Int}{c:Int->Option Int}{j:List Int}{f:Sp}{r:Int->Nat}{w:List (Int×Value)}{a:List Int}(h:On M szM O T g F0 y G x c j f r w)(F:Le fw c)
  (R:Rdy O T l s ks (gE O s.mem l) f w a) (hn: ∀i,i<l.length-> ¬Fit O f.mem l a i): ∀(i:Nat) (e:Int×Int) (v:Int),l[i]?=some e->a[i]?=some v->v<2->Dn O c e.2->Dn O c e.1:=by
 intro i e v d u I D
 obtain⟨_,H⟩:=R.lost
 have k:e∈l:=List.mem_of_getElem? d
 obtain⟨⟨z,A⟩,B,C⟩:=E e k
 have m:i<l.length:=by
  rcases Nat.lt_or_ge i l.length with q | q
  ·exact q
  ·rw[List.getElem?_eq_none q]at d;cases d
 have b:=(H i v u).resolve_right (by omega)
 unfold gE at b
 rw[List.getElem?_map,d]at b
 have b:(if reachedB O s.mem e.1=true then(0:Int)else 1)=v:=Option.some.inj b
 by_cases n:reachedB O s.mem e.1=true
 ·have o:reachedB O s.mem e.1=dnB O fw e.1:=t.tri.reachedB t.S z A
  rw[o]at n
  exact(ki.1 n).mono F
 ·rw[if_neg n]at b
  have p:reachedB O f.mem e.2=dnB O c e.2:=h.tri.reachedB h.S B C
  exact absurd ⟨e,d,by rw[u,b],by rw[p];exact ki.2 D⟩ (hn i m)
end
variable{a:Sp}
theorem jX{s0:Sp}{f:Int->Nat}{g T e:Int}{c:Tr}{b:List Int}{p:List (Int×Value)}(I:Inv s0 f)(n:0<=e)(o:eU s0 g T e=0)(B:fh s0.mem g T c)(z: ∀w∈b,aB w/\Good s0.mem f w)
  (t:dd c.old T (((s0.fresh (bK g)).visL c.old T b).1.lookCards c.old T c.cards) c.seen a p) (m:fP c.old T a p):
  ∃h k q,On s0.mem f c.old T g s0.mem.free (· ∈b) (λ_=>none) [] h k a q p/\((s0.fresh (bK g)).visL c.old T b).2=b.map (Fw c.old h)/\a.cf=s0.cf:=by
 obtain⟨S,E⟩:=I.static (V:=(· ∈b)) n o B (λv i=>z v i)
 obtain⟨y,x,D,F,_,C,r⟩:=Tri.visL S b (acc:=[]) E (λw A=>A)
 obtain⟨h,k,q,G,u,l,j,_⟩:=Tri.final S F I.marked B rfl rfl (λ_=>rfl) t m
 have d: ∀v,v∈b->Dn c.old h v:=λv i=>(r v i).mono u
 refine⟨h,k,q,⟨S,G,l,j,d⟩,?_,?_⟩
 ·refine Eq.trans C ?_
  rw[List.nil_append]
  exact List.map_congr_left λv i=>(gK (r v i) u).symm
 ·have s:=jK t
  rw[Sp.lookCards_cf,Sp.visL_cf]at s
  exact s
theorem p8{f:Int->Nat}{g T c:Int}{n:Nat}{h:Tr}(I:Inv a f)(hm:((n / 32:Nat):Int)<=c)(e:eU a g T c=0)(B:fh a.mem g T h): ∀Z:TZ,Z.m=a.mem->Z.O=h.old->2*((Z.yk 0:Int)+Z.yk 1+Z.yk 2+Z.yk 3)+8+((n / 32:Nat):Int)<=a.mem.free:=λZ d i=>by
 have b:=kW (by omega) e
 have j:=pd (Z:=Z) (g:=g) (by rw[d];exact I.ok.mem) b.1.1 (λk hk=>by rw[d,i];exact B.old k hk)
 have l:=b.2
 rw[d]at j
 omega
theorem Rdy.nil{O:Nat->Bool}{T:Int}{f:Sp}{e d:List (Int×Value)}{c b:List Int}(R:Rdy O T [] a e c f d b):f=a/\d=e/\b=c:=by
 induction R with
 | refl=>exact⟨rfl,rfl,rfl⟩
 | step h i l m k j g n=>simp at i
def EnAt(H:zV)(B:zW)(l:List (Int×Int)):Prop:= ∀i (h:i<l.length),∃a,B=some a/\aS H (a.add (i*2)) 0 [vu l[i].1,vu l[i].2]
theorem EnAt.keep{S:List Nat}{H d:zV}{B:zW}{l:List (Int×Int)}(h:EnAt H B l)(f:Fr S H d)(e: ∀j∈blks B,j ∉ S):EnAt d B l:=λi g=>by
 obtain⟨a,rfl,k⟩:=h i g
 refine⟨a,rfl,f.rowAt ?_ k⟩
 have:(a.add (i*2)).block=a.block:=by unfold Addr.add;split<;>rfl
 rw[this];exact e _ (by simp)
theorem EnAt.ext{H a:zV}{B:zW}{l:List (Int×Int)}(h:EnAt H B l)(e:Ext H a):EnAt a B l:=h.keep (S:=[]) e.fr (λ_ _=>by simp)
def evs(l:List (Int×Int)):List Value:=l.flatMap λe=> [vu e.1,vu e.2]
theorem po(l:List (Int×Int))(e:Int×Int):evs (l++[e])=evs l++[vu e.1,vu e.2]:=by unfold evs;rw[List.flatMap_append];rfl
theorem Own.entries{H:zV}{T:TypeId}{B:zW}{n c:Nat}{l:List (Int×Int)}(h:Own H T 2 B n c (evs l)):EnAt H B l:=λi g=>by
 obtain⟨a,d,_,j⟩:=Own.elem (f:=λe:Int×Int=> [Value.int .u64 e.1,vu e.2]) h (λ_=>rfl) (by decide) g
 exact⟨a,d,j⟩
def pp(v:Value):Bool:=match v with | .int _ n=>decide (n=1) | _=>false
def kZ(A:zV)(c:Nat):Nat:=match A[c]? with | some (Obj.cells cs _ _)=>cs.toList.countP pp | _=>0
theorem pq(l:List Int):(ivs l).countP pp=l.countP (λv=>decide (v=1)):=by
 unfold ivs
 rw[List.countP_map];rfl
theorem Own.ones{A:zV}{T:TypeId}{c n:Nat}{l:List Int}(h:Own A T 1 (some ⟨c,0,none⟩) n n (ivs l)):kZ A c=l.countP (λv=>decide (v=1)):=by
 obtain⟨_,d,a,g,_,f,e⟩:=h
 unfold kZ
 have a:A[c]?=some (.cells d T (0,0)):=a
 rw[a]
 show d.toList.countP pp=_
 rw[<-pq]
 congr 1
 refine List.ext_getElem? λj=>?_
 rw[Array.getElem?_toList]
 rcases Nat.lt_or_ge j (n*1)with q | q
 ·exact e j q
 ·rw[Array.getElem?_eq_none (by omega),List.getElem?_eq_none (by omega)]
theorem p9(l:List Int)(i:Nat)(v:Int):(ivs l).set i (vi v)=ivs (l.set i v):=by unfold ivs;rw[List.map_set]
theorem qa{l:List Int}{i:Nat}{v:Int}(h:l[i]?=some v):(ivs l)[i]?=some (vi v):=by unfold ivs;rw[List.getElem?_map,h];rfl
theorem pv(n:Nat):List.replicate n (Value.int .i64 0)=ivs (List.replicate n 0):=by unfold ivs;rw[List.map_replicate]
def fJ(L:List Int)(k:Nat):List Int:=L.take k++List.replicate (L.length-k) 0
theorem mT(L:List Int){k:Nat}(h:k<=L.length):(fJ L k).length=L.length:=by unfold fJ;rw[List.length_append,List.length_take,List.length_replicate];omega
theorem mj(L:List Int){k:Nat}(h:k<L.length):fJ L (k+1)=(fJ L k).set k L[k]:=by
 refine List.ext_getElem? λj=>?_
 unfold fJ
 rw[List.getElem?_set]
 by_cases e:k=j
 ·subst e
  rw[if_pos rfl,if_pos (by rw[List.length_append,List.length_take,List.length_replicate];omega),List.getElem?_append_left (by rw[List.length_take];omega),List.getElem?_take,if_pos (by omega),List.getElem?_eq_getElem h]
 ·rw[if_neg e]
  rcases Nat.lt_or_ge j k with q | q
  ·rw[List.getElem?_append_left (by rw[List.length_take];omega),List.getElem?_append_left (by rw[List.length_take];omega),List.getElem?_take,List.getElem?_take,if_pos (by omega),if_pos q]
  ·rw[List.getElem?_append_right (by rw[List.length_take];omega),List.getElem?_append_right (by rw[List.length_take];omega),List.length_take,List.length_take,List.getElem?_replicate,List.getElem?_replicate]
   have:(j-min (k+1) L.length<L.length-(k+1)) ↔ (j-min k L.length<L.length-k):=by omega
   simp only[this]
theorem nE(L:List Int){k:Nat}(h:k<L.length):(fJ L k)[k]?=some 0:=by
 unfold fJ
 rw[List.getElem?_append_right (by rw[List.length_take];omega),List.length_take,List.getElem?_replicate,if_pos (by omega)]
theorem mU(L:List Int):fJ L L.length=L:=by unfold fJ;rw[List.take_length,Nat.sub_self];simp
theorem px{l:List Int}{k:Nat}{v:Int}(h:l[k]?=some v):l.set k v=l:=by
 refine List.ext_getElem? λj=>?_
 rw[List.getElem?_set]
 by_cases e:k=j
 ·subst e
  rw[if_pos rfl,h]
  split
  ·rfl
  ·rename_i q;rw[List.getElem?_eq_none (by omega)]at h;cases h
 ·rw[if_neg e]
structure GdL (H:zV) (b:Blk) (x:Hp) (q:TB) (t:Tr) (c c2 c3 c4:Nat) (lB:zW) (lC:Nat) (l:List (Int×Int)) (lost:List Int) (A:zV):Prop where
 tg:Tg A b x q t
 g0:A[c]?=some (.cells #[vp (some ⟨q.t,0,none⟩)] 37 (0,0))
 g2:A[c2]?=some (.cells #[vs lB l.length lC] 31 (0,0))
 g4:A[c4]?=some (.cells #[vs (some ⟨c3,0,none⟩) l.length l.length] 75 (0,0))
 g3:Own A 3 1 (some ⟨c3,0,none⟩) l.length l.length (ivs lost)
 row:EnAt A lB l
 fr:Fr (q.s::spB b) H A
 new:H.size<=c/\H.size<=c2/\H.size<=c3/\H.size<=c4/\c≠c3/\c2≠c3/\c4≠c3
 lb: ∀j∈blks lB,j<H.size/\j ∉ b.all/\j ∉ q.all
 all: ∀i,i∈b.all\/i∈q.all->i<H.size
 len:lost.length=l.length
section
variable {H A A':zV} {b:Blk} {x:Hp} {q:TB} {t:Tr} {c c2 c3 c4:Nat} {lB:zW} {lC:Nat} {l:List (Int×Int)} {lost:List Int}
theorem GdL.ext(h:GdL H b x q t c c2 c3 c4 lB lC l lost A)(e:Ext A A'):GdL H b x q t c c2 c3 c4 lB lC l lost A':=
 ⟨h.tg.grow e,e.get h.g0,e.get h.g2,e.get h.g4,h.g3.ext e,h.row.ext e,h.fr.trans e.fr,h.new,h.lb,h.all,h.len⟩
theorem GdL.small(h:GdL H b x q t c c2 c3 c4 lB lC l lost A): ∀i∈q.s::spB b,i<H.size:=λi d=>by
 rcases List.mem_cons.1 d with a | a
 ·exact h.all i (.inr (by rw[a];simp[TB.all]))
 ·exact h.all i (.inl (eR a))
theorem GdL.go{i:Hp}{g:Tr}(h:GdL H b x q t c c2 c3 c4 lB lC l lost A)(T:Tg A' b i q g)(f:Fr (q.s::spB b) A A'):GdL H b i q g c c2 c3 c4 lB lC l lost A':=by
 obtain⟨o,p,r,u,v,w,y⟩:=h.new
 have k:=h.small
 have no: ∀j,H.size<=j->j ∉ q.s::spB b:=λj a d=>by have:=k j d;omega
 refine⟨T,f.get (no _ o) h.g0,f.get (no _ p) h.g2,f.get (no _ u) h.g4,h.g3.keep f (λj a=>by simp at a;rw[a];exact no _ r),h.row.keep f (λj a d=>?_),h.fr.trans f,h.new,h.lb,h.all,h.len⟩
 obtain⟨_,m,n⟩:=h.lb j a
 rcases List.mem_cons.1 d with e | e
 ·exact n (by rw[e];simp[TB.all])
 ·exact m (eR e)
theorem GdL.mark(h:GdL H b x q t c c2 c3 c4 lB lC l lost A){i:Nat}(a:i<l.length)(v:Int):aL A ((Addr.mk c3 0 none).add (i*1)) 0 1/\ ∀A',A'=aN A ((Addr.mk c3 0 none).add (i*1)) [vi v] 0->GdL H b x q t c c2 c3 c4 lB lC l (lost.set i v) A'/\Fr [c3] A A':=by
 obtain⟨p,r,s,u,w,y,z⟩:=h.new
 obtain⟨k,m⟩:=h.g3.put a (vi v)
 rw[Nat.mul_one]
 refine⟨k,λA' e=>?_⟩
 obtain⟨o,f⟩:=m A' e
 have f:Fr [c3] A A':=f
 rw[p9]at o
 refine⟨⟨h.tg.stay f (λj d g=>by simp at d;have:=h.all j (.inl g);omega) (λj d g=>by simp at d;have:=h.all j (.inr g);omega),f.get (by simp;omega) h.g0,f.get (by simp;omega) h.g2,f.get (by simp;omega) h.g4,o,h.row.keep f (λj d a=>?_),h.fr.trans' f (λi a _=>a) (λi a n=>by simp at a;omega),h.new,h.lb,h.all,by rw[List.length_set];exact h.len⟩,f⟩
 have:=(h.lb j d).1
 simp at a;omega
theorem GdL.atMark(h:GdL H b x q t c c2 c3 c4 lB lC l lost A){i:Nat}{v:Int}(f:lost[i]?=some v):hat A ((Addr.mk c3 0 none).add (i*1))=some (vi v):=by
 obtain⟨a,d,e⟩:=h.g3.at (qa f)
 cases d
 rw[Nat.mul_one];exact e
theorem k8(h:t.over=false)(m:Mem)(w:Int):(decide (¬(t.over=false/\aE t.old w)) || (m.fwd w).isSome)=reachedB t.old m w:=by
 unfold reachedB
 by_cases o:aE t.old w
 ·rw[zQ (show ¬ ¬(t.over=false/\aE t.old w)from λq=>q ⟨h,o⟩),zQ (show ¬ ¬aE t.old w from λq=>q o)]
 ·rw[zX (show ¬(t.over=false/\aE t.old w)from λq=>o q.2),zX (show ¬aE t.old w from o)]
theorem qN(S:GdL H b x q t c c2 c3 c4 lB lC l lost A){i:Nat}{e:Int×Int}{h:Int}(g:l[i]?=some e)(j:lost[i]?=some h)(r:aB e.2):
  cS.C (i:Int) (some (Addr.mk c4 0 none)) (some (Addr.mk c 0 none)) (some (Addr.mk c2 0 none)) A (λv A'=>v=.bool (decide (h=1) && reachedB t.old x.sp.mem e.2)/\Ext A A'):=by
 refine HC.via λR m=>cS.link ?_
 unfold cS.pt
 have o:i<l.length:=by
  rcases Nat.lt_or_ge i l.length with q | q
  ·exact q
  ·rw[List.getElem?_eq_none q]at g;cases g
 have n:(0:Int)<=(i:Int)/\(i:Int)< (l.length:Int):=by omega
 have k:Int.toNat (i:Int)=i:=by omega
 refine⟨_,rfl,_,_,_,by rw[aG S.g4];rfl,_,rfl,n,h,by rw[k];exact S.atMark j,?_⟩
 by_cases f:h=1
 ·rw[if_pos f]
  obtain⟨a,p,d⟩:=S.row i o
  have d:=d.2.1
  rw[List.getElem?_eq_getElem o]at g
  cases g
  refine⟨_,rfl,_,by rw[aG S.g0];rfl,_,rfl,_,_,_,by rw[aG S.g2];rfl,a,p,n,l[i].2,by
   rw[k]
   rw[Nat.zero_add]at d;exact d,HC.mono (fI S.tg.toTc r) ?_⟩
  rintro _ A' ⟨rfl,e⟩
  exact⟨_,rfl,m _ _ ⟨by rw[zX f,Bool.true_and,k8 S.tg.on],e⟩⟩
 ·rw[if_neg f]
  exact m _ _ ⟨by rw[zQ f,Bool.false_and],Ext.refl _⟩
end
set_option maxRecDepth 100000 in
set_option maxHeartbeats 2000000 in
theorem lr{H:zV}{b:Blk}{x:Hp}{q:TB}{t:Tr}{lB:zW}{lC:Nat}{l:List (Int×Int)}(T:Tg H b x q t)(cO:dx t.seen)(cR:0<=t.tgt)(bs:EnAt H lB l)(hw: ∀e∈l,aB e.1/\aB e.2)(cK: ∀j∈blks lB,j<H.size/\j ∉ b.all/\j ∉ q.all)(hl:l.length<=1000000):
  du.C (some ⟨q.t,0,none⟩) lB l.length lC H (λv H'=> ∃(p:Sp) (V:List (Int×Value)) (d:List Int) (B:zW) (df:Nat),Rdy t.old t.tgt l x.sp t.seen (gE t.old x.sp.mem l) p V d/\(∀i,i<l.length-> ¬Fit t.old p.mem l d i)/\
   v=.slice B (outG t.old t.tgt p l d).2.length df/\Own H' 36 2 B (outG t.old t.tgt p l d).2.length df (evs (outG t.old t.tgt p l d).2)/\(∀j∈blks B,H.size<=j)/\Tg H' b {x with sp:=(outG t.old t.tgt p l d).1} q {t with seen:=V}/\dx V/\Fr (q.s::spB b) H H'):=by
 refine HC.via λR hR=>du.link ?_
 unfold du.pt zY
 intro c H1 hc ap c2 H2 cA au
 have eq:Ext H H1:=Ext.push' ap
 have ep:Ext H1 H2:=Ext.push' au
 have z1:H1.size=H.size+1:=by rw[ap];simp
 have z2:H2.size=H1.size+1:=by rw[au];simp
 have k0:=ep.get (aK hc ap)
 have k2:=aK cA au
 refine⟨_,by rw[aG k0];rfl,HC.mono (iz (T.grow (eq.trans ep)).toTc) ?_⟩
 rintro _ HH ⟨rfl,cw⟩
 obtain rfl:H2=HH:=cw.symm
 refine⟨_,rfl,?_⟩
 rw[if_neg (by rw[T.on];decide)]
 refine⟨lB,l.length,lC,by rw[aG k2];rfl,by omega,by omega,by omega,by omega,λc3 H5 cB a5 c4 H6 cC bg=>?_⟩
 have er:Ext H2 H5:=Ext.push' a5
 have z5:H5.size=H2.size+1:=by rw[a5];simp
 have z6:H6.size=H5.size+1:=by rw[bg];simp
 have en:Int.toNat (l.length:Int)=l.length:=by omega
 rw[en]at a5⊢
 obtain⟨q6,s6⟩:=eO (A3:=aN H6 (Addr.mk c4 0 none) [vs (some (Addr.mk c3 0 none)) l.length l.length] 0) cC bg [vs (some (Addr.mk c3 0 none)) l.length l.length] rfl
 refine⟨q6,λH7 cu=>?_⟩
 have bh:H7=aN H6 (Addr.mk c4 0 none) [vs (some (Addr.mk c3 0 none)) l.length l.length] 0:=cu
 obtain⟨k4,e7⟩:=s6 rfl
 rw[<-bh]at k4 e7
 have k3:=oX cB a5
 rw[pv]at k3
 have E7:=((eq.trans ep).trans er).trans e7
 have ao:=er.trans e7
 have cz: ∀i,i∈b.all\/i∈q.all->i<H.size:=λi F=>T.lt F
 have a6:(gE t.old x.sp.mem l).length=l.length:=by unfold gE;rw[List.length_map]
 have cx: ∀(k:Nat) (h:k<l.length),(gE t.old x.sp.mem l)[k]'(by rw[a6];exact h)=if reachedB t.old x.sp.mem l[k].1=true then 0 else 1:=λk h=>by unfold gE;rw[List.getElem_map]
 have S0:GdL H b x q t c c2 c3 c4 lB lC l (fJ (gE t.old x.sp.mem l) 0) H7:=⟨T.grow E7,ao.get k0,ao.get k2,k4,by
   unfold fJ;rw[List.take_zero,List.nil_append,Nat.sub_zero,a6];exact k3.ext e7,bs.ext E7,E7.fr,by omega,cK,cz,by rw[mT _ (by omega)];exact a6⟩
 have cJ: ∀{k:Nat} (h:k<l.length),l[k]?=some l[k]:=λh=>List.getElem?_eq_getElem h
 have ax: ∀{k:Nat} (h:k<l.length),aB l[k].1/\aB l[k].2:=λh=>hw _ (List.getElem_mem h)
 refine⟨lB,l.length,lC,by rw[aG (ao.get k2)];rfl,λi A=> ∃k:Nat,i=k/\k<=l.length/\GdL H b x q t c c2 c3 c4 lB lC l (fJ (gE t.old x.sp.mem l) k) A,λi _=>(l.length-i).toNat,⟨0,rfl,by omega,S0⟩,?_⟩
 rintro _ H8 ⟨k,rfl,hk,S8⟩
 by_cases u:(k:Int)< (l.length:Int)
 ·rw[if_pos u]
  have m:k<l.length:=by omega
  have hd:((l.length:Int)-((k:Int)+1)).toNat< ((l.length:Int)-(k:Int)).toNat:=by omega
  rw[w64 (n:=(k:Int)+1) (by omega)]
  obtain⟨a,ha,hr⟩:=S8.row k m
  refine⟨a,ha,⟨by omega,u⟩,l[k].1,l[k].2,by rw[show Int.toNat (k:Int)=k by omega];exact hr,λda H9 cD cv=>?_⟩
  obtain⟨q9,s9⟩:=eO (A3:=aN H9 (Addr.mk da 0 none) [vu l[k].1,vu l[k].2] 0) cD cv [vu l[k].1,vu l[k].2] rfl
  refine⟨q9,λbN b9=>?_⟩
  obtain⟨k5,b6⟩:=s9 rfl
  rw[<-b9]at k5 b6
  have cW:bN[da]?=some (.cells #[vu l[k].1,vu l[k].2] 36 (0,0)):=k5
  have ag:=S8.ext b6
  refine⟨_,by rw[aG ag.g0];rfl,l[k].1,by rw[aG cW];rfl,HC.mono (fI ag.tg.toTc (ax m).1) ?_⟩
  rintro _ dv ⟨rfl,ck⟩
  refine⟨_,rfl,?_⟩
  rw[k8 T.on]
  have ah:=ag.ext ck
  have U:=mj (gE t.old x.sp.mem l) (k:=k) (by omega)
  rw[cx k m]at U
  by_cases br:reachedB t.old x.sp.mem l[k].1=true
  ·rw[if_pos br]at U⊢
   rw[px (nE _ (by omega))]at U
   exact⟨⟨k+1,by omega,by omega,by rw[U];exact ah⟩,hd⟩
  ·rw[if_neg br]at U⊢
   refine⟨_,_,_,by rw[aG ah.g4];rfl,_,rfl,⟨by omega,u⟩,?_⟩
   rw[show Int.toNat (k:Int)=k by omega]
   obtain⟨p1,p2⟩:=ah.mark m 1
   refine⟨p1,λbO ba=>⟨⟨k+1,by omega,by omega,?_⟩,hd⟩⟩
   rw[U];exact(p2 bO ba).1
 rw[if_neg u]
 obtain rfl:k=l.length:=by omega
 rw[show fJ (gE t.old x.sp.mem l) l.length=gE t.old x.sp.mem l by rw[<-a6];exact mU _]at S8
 refine⟨λA=> ∃(p:Sp) (V:List (Int×Value)) (d:List Int),Rdy t.old t.tgt l x.sp t.seen (gE t.old x.sp.mem l) p V d/\dx V/\GdL H b {x with sp:=p} q {t with seen:=V} c c2 c3 c4 lB lC l d A,λA=>kZ A c3,⟨_,_,_,.refl,cO,S8⟩,?_⟩
 rintro bP ⟨p,V,d,bi,af,ai⟩
 have d0:=ai.g3.ones
 refine⟨lB,l.length,lC,by rw[aG ai.g2];rfl,λi A=> ∃k:Nat,i=k/\k<=l.length/\(∀j,j<k-> ¬Fit t.old p.mem l d j)/\GdL H b {x with sp:=p} q {t with seen:=V} c c2 c3 c4 lB lC l d A,λi _=>(l.length-i).toNat,⟨0,rfl,by omega,λj y=>by omega,ai⟩,?_⟩
 rintro _ X ⟨k,rfl,hk,aw,f⟩
 by_cases u:(k:Int)< (l.length:Int)
 ·rw[if_pos u]
  have m:k<l.length:=by omega
  have hd:((l.length:Int)-((k:Int)+1)).toNat< ((l.length:Int)-(k:Int)).toNat:=by omega
  rw[w64 (n:=(k:Int)+1) (by omega)]
  obtain⟨a,ha,hr⟩:=f.row k m
  obtain⟨lv,Q⟩: ∃lv,d[k]?=some lv:=⟨_,List.getElem?_eq_getElem (by have:=f.len;omega)⟩
  have z:=ax m
  have av:=cJ m
  generalize l[k]=e at*
  refine⟨a,ha,⟨by omega,u⟩,e.1,e.2,by rw[show Int.toNat (k:Int)=k by omega];exact hr,λc6 bQ cF bb=>?_⟩
  obtain⟨d3,d5⟩:=eO (A3:=aN bQ (Addr.mk c6 0 none) [vu e.1,vu e.2] 0) cF bb [vu e.1,vu e.2] rfl
  refine⟨d3,λbS bc=>?_⟩
  obtain⟨k6,b7⟩:=d5 rfl
  rw[<-bc]at k6 b7
  have cX:bS[c6]?=some (.cells #[vu e.1,vu e.2] 36 (0,0)):=k6
  have b3:=f.ext b7
  refine HC.mono (qN b3 av Q z.2) ?_
  rintro _ dA ⟨rfl,b8⟩
  refine⟨_,rfl,?_⟩
  have aj:=b3.ext b8
  by_cases E:(decide (lv=1) && reachedB t.old p.mem e.2)=true
  case neg=>
   rw[if_neg E]
   refine⟨⟨k+1,by omega,by omega,λj y=>?_,aj⟩,hd⟩
   rcases Nat.lt_or_ge j k with r | r
   ·exact aw j r
   ·obtain rfl:j=k:=by omega
    rintro⟨e',f1,f2,f3⟩
    rw[av]at f1;rw[Q]at f2
    cases f1;cases f2
    exact E (by rw[f3];rfl)
  rw[if_pos E]
  rw[Bool.and_eq_true,decide_eq_true_eq]at E
  obtain⟨rfl,S⟩:=E
  refine⟨_,_,_,by rw[aG aj.g4];rfl,_,rfl,⟨by omega,u⟩,?_⟩
  rw[show Int.toNat (k:Int)=k by omega]
  obtain⟨p1,p2⟩:=aj.mark m 2
  refine⟨p1,λaX bd=>?_⟩
  obtain⟨Y,cn⟩:=p2 aX bd
  have cP:H.size<=X.size:=f.fr.size
  have l3:c3<X.size:=f.g3.lt c3 (by simp)
  have bl:c6≠c3:=by omega
  have a4:=cn.get (by simp;exact bl) (b8.get cX)
  have a7:=Y.small
  have ci:c6 ∉ q.s::spB b:=λh=>by have:=a7 c6 h;omega
  refine⟨_,by rw[aG Y.g0];rfl,e.1,by rw[aG a4];rfl,HC.mono (dZ Y.tg z.1) ?_⟩
  rintro _ bT ⟨rfl,cc,co⟩
  have a9:Fr (q.s::spB b) aX bT:=co.mono (λi F _=>List.mem_cons_of_mem _ F)
  have Z:=Y.go cc a9
  have ay:=a9.get ci a4
  refine⟨_,rfl,_,by rw[aG Z.g0];rfl,_,by rw[aG Z.g0];rfl,e.2,iN ay 1,HC.mono (dZ Z.tg z.2) ?_⟩
  rintro _ dB ⟨rfl,cd,cp⟩
  have ak:=Z.go cd (cp.mono (λi F _=>List.mem_cons_of_mem _ F))
  refine⟨_,rfl,iw ak.g0,HC.mono (pm ak.tg (Sp.visit_word Z.tg.ok z.2) (Sp.visit_word Y.tg.ok z.1)) ?_⟩
  rintro _ dC ⟨ce,cq⟩
  have al:=ak.go ce (cq.mono (λi F _=>List.mem_cons_of_mem _ F))
  refine⟨_,by rw[aG al.g0];rfl,HC.mono (ix al.tg af cR) ?_⟩
  rintro _ bU ⟨s',cY,cI,cH,cf,bu,cr⟩
  have b4:=al.go cf cr
  refine⟨⟨s',cY,d.set k 2,.step bi av Q S aw cI cH,bu,b4⟩,?_⟩
  show kZ bU c3<kZ bP c3
  rw[b4.g3.ones,d0]
  have:=jW d Q
  omega
 rw[if_neg u]
 obtain rfl:k=l.length:=by omega
 refine⟨lB,l.length,lC,by rw[aG f.g2];rfl,λoB oN oC i A=> ∃k:Nat,i=k/\k<=l.length/\oN=((((l.zip d).take k).foldl (fl t.old t.tgt) (p,[])).2).length/\Own A 36 2 oB oN oC (evs (((l.zip d).take k).foldl (fl t.old t.tgt) (p,[])).2)/\(∀j∈blks oB,X.size<=j)/\oN<=k/\X.size<=A.size/\
   GdL H b {x with sp:=(((l.zip d).take k).foldl (fl t.old t.tgt) (p,[])).1} q {t with seen:=V} c c2 c3 c4 lB lC l d A,λ_ _ _ i _=>(l.length-i).toNat,⟨0,rfl,by omega,by rw[List.take_zero];rfl,by rw[List.take_zero];exact gH,λj y=>by simp at y,by omega,Nat.le_refl _,by rw[List.take_zero];exact f⟩,?_⟩
 rintro oB oN oC _ b0 ⟨k,rfl,hk,a3,ho,I,dl,zA,a0⟩
 have dQ:(l.zip d).length=l.length:=by rw[List.length_zip];have:=f.len;omega
 by_cases L:(k:Int)< (l.length:Int)
 case neg=>
  rw[if_neg L]
  obtain rfl:k=l.length:=by omega
  have cN:Own b0 36 2 oB oN oC (evs (outG t.old t.tgt p l d).2):=by
   unfold outG
   rw[List.take_of_length_le (by omega)]at ho;exact ho
  have bm:oN=(outG t.old t.tgt p l d).2.length:=by
   unfold outG
   rw[List.take_of_length_le (by omega)]at a3;exact a3
  have S':GdL H b {x with sp:=(outG t.old t.tgt p l d).1} q {t with seen:=V} c c2 c3 c4 lB lC l d b0:=by
   unfold outG
   rw[List.take_of_length_le (by omega)]at a0;exact a0
  have d7:=f.fr.size
  exact hR _ _ ⟨p,V,d,oB,oC,bi,aw,by rw[bm],by rw[<-bm];exact cN,λj y=>by have:=I j y;omega,S'.tg,af,S'.fr⟩
 rw[if_pos L]
 have m:k<l.length:=by omega
 have hd:((l.length:Int)-((k:Int)+1)).toNat< ((l.length:Int)-(k:Int)).toNat:=by omega
 rw[w64 (n:=(k:Int)+1) (by omega)]
 obtain⟨a,ha,hr⟩:=a0.row k m
 have cL:k<d.length:=by have:=f.len;omega
 have cS:(l.zip d).take (k+1)=(l.zip d).take k++[(l[k],d[k])]:=by rw[List.take_succ_eq_append_getElem (by omega),List.getElem_zip]
 have w:((l.zip d).take (k+1)).foldl (fl t.old t.tgt) (p,[])=fl t.old t.tgt (((l.zip d).take k).foldl (fl t.old t.tgt) (p,[])) (l[k],d[k]):=by rw[cS,List.foldl_append];rfl
 have Q:d[k]?=some d[k]:=List.getElem?_eq_getElem cL
 have z:=ax m
 generalize ((l.zip d).take k).foldl (fl t.old t.tgt) (p,[])=st at*
 generalize l[k]=e at*
 generalize d[k]=lv at*
 obtain⟨W,O⟩:=st
 refine⟨a,ha,⟨by omega,L⟩,e.1,e.2,by rw[show Int.toNat (k:Int)=k by omega];exact hr,λc7 bV cG be=>?_⟩
 obtain⟨d4,d6⟩:=eO (A3:=aN bV (Addr.mk c7 0 none) [vu e.1,vu e.2] 0) cG be [vu e.1,vu e.2] rfl
 refine⟨d4,λbW bf=>?_⟩
 obtain⟨k7,P⟩:=d6 rfl
 rw[<-bf]at k7 P
 have bw:bW[c7]?=some (.cells #[vu e.1,vu e.2] 36 (0,0)):=k7
 have M:=a0.ext P
 have ac:=ho.ext P
 have ek:Int.toNat (k:Int)=k:=by omega
 refine⟨_,_,_,by rw[aG M.g4];rfl,_,rfl,⟨by omega,L⟩,lv,by rw[ek];exact M.atMark Q,?_⟩
 by_cases h2:lv<2
 case neg=>
  rw[if_neg h2]
  have o:fl t.old t.tgt (W,O) (e,lv)=(W,O):=by unfold fl;rw[if_neg (λq=>h2 q.1)]
  exact⟨⟨k+1,by omega,by omega,by rw[w,o];exact a3,by rw[w,o];exact ac,I,by omega,by have:=P.size;omega,by rw[w,o];exact M⟩,hd⟩
 rw[if_pos h2]
 refine⟨_,by rw[aG M.g0];rfl,e.2,iN bw 1,HC.mono (fI M.tg.toTc z.2) ?_⟩
 rintro _ bX ⟨rfl,a1⟩
 refine⟨_,rfl,?_⟩
 rw[k8 T.on]
 have N:=M.ext a1
 have ae:=ac.ext a1
 by_cases S:reachedB t.old W.mem e.2=true
 case neg=>
  rw[if_neg S]
  have o:fl t.old t.tgt (W,O) (e,lv)=(W,O):=by unfold fl;rw[if_neg (λq=>S q.2)]
  exact⟨⟨k+1,by omega,by omega,by rw[w,o];exact a3,by rw[w,o];exact ae,I,by omega,by have:=P.size;have:=a1.size;omega,by rw[w,o];exact N⟩,hd⟩
 rw[if_pos S]
 have o:fl t.old t.tgt (W,O) (e,lv)=(((W.visit t.old t.tgt e.1).1.visit t.old t.tgt e.2).1,O++[((W.visit t.old t.tgt e.1).2,((W.visit t.old t.tgt e.1).1.visit t.old t.tgt e.2).2)]):=by unfold fl;rw[if_pos ⟨h2,S⟩]
 have J:=a1.get bw
 refine⟨_,by rw[aG N.g0];rfl,e.1,by rw[aG J];rfl,_,by rw[aG N.g0];rfl,e.2,iN J 1,HC.mono (dZ N.tg z.1) ?_⟩
 rintro _ b1 ⟨rfl,cg,cs⟩
 have K:Fr (q.s::spB b) bX b1:=cs.mono (λi F _=>List.mem_cons_of_mem _ F)
 have am:=N.go cg K
 have a7:=N.small
 have d7:=f.fr.size
 have e1:=a0.fr.size
 have cj:c7 ∉ q.s::spB b:=λh=>by have:=a7 c7 h;omega
 have az:=K.get cj J
 refine⟨_,rfl,iw am.g0,⟨iN az 1,trivial⟩,HC.mono (dZ am.tg z.2) ?_⟩
 rintro _ b2 ⟨rfl,ch,ct⟩
 have a2:Fr (q.s::spB b) b1 b2:=ct.mono (λi F _=>List.mem_cons_of_mem _ F)
 have c8:=am.go ch a2
 refine⟨_,rfl,λe9 bY cy aa=>?_⟩
 have an:Ext b2 bY:=Ext.push' aa
 have g:=c8.ext an
 have bk: ∀j∈blks oB,j ∉ q.s::spB b:=λj y h=>by have:=a7 j h;have:=I j y;omega
 have bo:=((ae.keep K bk).keep a2 bk).ext an
 have e6:=g.fr.size
 have e5:=a2.size
 have e4:=K.size
 have e3:=a1.size
 have e2:=P.size
 have dt:=an.size
 refine fo (ys:=[vu (W.visit t.old t.tgt e.1).2,vu ((W.visit t.old t.tgt e.1).1.visit t.old t.tgt e.2).2]) bo (iw (aK cy aa)) rfl rfl rfl (by omega) ?_
 intro B' c' c5 bp D bn
 have G: ∀j∈blks oB,j≠c/\j≠c2/\j≠c3/\j≠c4/\j ∉ b.all/\j ∉ q.all/\j ∉ blks lB:=λj y=>by
  have dO:=I j y
  have l0:=aZ f.g0
  have l2:=aZ f.g2
  have l4:=aZ f.g4
  have l3:c3<X.size:=f.g3.lt c3 (by simp)
  exact⟨by omega,by omega,by omega,by omega,λh=>by have:=f.all j (.inl h);omega,λh=>by have:=f.all j (.inr h);omega,λh=>by have:=(f.lb j h).1;omega⟩
 have c9:GdL H b {x with sp:=((W.visit t.old t.tgt e.1).1.visit t.old t.tgt e.2).1} q {t with seen:=V} c c2 c3 c4 lB lC l d c5:=
  ⟨g.tg.stay D (λj y=>(G j y).2.2.2.2.1) (λj y=>(G j y).2.2.2.2.2.1),D.get (λh=>(G _ h).1 rfl) g.g0,D.get (λh=>(G _ h).2.1 rfl) g.g2,D.get (λh=>(G _ h).2.2.2.1 rfl) g.g4,g.g3.keep D (λj y h=>(G j h).2.2.1 (by simpa using y)),g.row.keep D (λj y h=>(G j h).2.2.2.2.2.2 y),g.fr.trans' D (λi F _=>F) (λi F u=>by have:=I i F;omega),g.new,g.lb,g.all,g.len⟩
 refine⟨⟨k+1,by omega,by omega,by rw[w,o,List.length_append,a3];rfl,?_,λj y=>?_,by omega,by have:=D.size;omega,by rw[w,o];exact c9⟩,hd⟩
 ·rw[w,o,po];exact bp
 ·rcases bn j y with h | h
  ·exact I j h
  ·omega
variable{a:Int}
def bA(L:List (Int×Int)):Int:=match L with | []=>20 | e::_=>e.1
def i0:List (Int×Int)->Int
 | []=>20
 | [e]=>e.1
 | _::e::l=>i0 (e::l)
structure QAt (m:Mem) (gd:Int) (L:List (Int×Int)):Prop where
 fld:m.fieldE gd 10 0=0/\m.fieldE gd 10 1=0
 f0:m.get (gd / 8+1)=bA L
 f1:m.get (gd / 8+2)=i0 L
 el: ∀l1 e l2,L=l1++e::l2->m.isPair e.1/\aB e.1/\(m.used (e.1 / 8+0)/\m.used (e.1 / 8+1))/\m.get (e.1 / 8)=e.2/\m.get (e.1 / 8+1)=bA l2
 nd:(L.map Prod.fst).Nodup
theorem mV{m:Mem}{L:List (Int×Int)}(h: ∀e∈L,m.isPair e.1)(hn:L≠[]):bA L≠20:=λq=>by
 cases L with
 | nil=>exact hn rfl
 | cons e l=>
  have:=h e (by simp)
  have q:e.1=20:=q
  rw[q]at this
  rcases this.1 with r | r
  ·exact absurd r.2.1 (by decide)
  ·exact absurd r.2.1 (by decide)
theorem mW{m:Mem}{L:List (Int×Int)}(h: ∀e∈L,m.isPair e.1):bA L=20 ↔ L=[]:=by
 cases L with
 | nil=>exact⟨λ_=>rfl,λ_=>rfl⟩
 | cons e l=>
  have:=h e (by simp)
  refine⟨λq=>?_,λq=>by cases q⟩
  have q:e.1=20:=q
  rw[q]at this
  rcases this.1 with r | r
  ·exact absurd r.2.1 (by decide)
  ·exact absurd r.2.1 (by decide)
theorem jL: ∀(e:Int×Int) (l:List (Int×Int)),∃x∈e::l,i0 (e::l)=x.1
 | e,[]=>⟨e,by simp,rfl⟩
 | e,f::l=>by
  obtain⟨x,a,h⟩:=jL f l
  exact⟨x,List.mem_cons_of_mem _ a,h⟩
theorem oF(c:List (Int×Int))(e:Int×Int)(a:List (Int×Int)):i0 (c++e::a)=i0 (e::a):=by
 induction c with
 | nil=>rfl
 | cons x l b=>
  rw[List.cons_append]
  cases h:l++e::a with
  | nil=>simp at h
  | cons y t=>rw[h]at b;exact b
theorem QAt.pair{m:Mem}{L:List (Int×Int)}(Q:QAt m a L): ∀e∈L,m.isPair e.1:=λe b=>by
 obtain⟨c,d,rfl⟩:=List.append_of_mem b
 exact(Q.el c e d rfl).1
theorem k9{m:Mem}{i:Int}(h:m.isPair a)(b:m.used (a / 8+i)):m.halfE a i=0:=by unfold Mem.halfE;rw[if_pos h,if_pos b]
set_option maxRecDepth 100000 in
theorem qb{H:zV}{b:Blk}{x:Hp}{L:List (Int×Int)}(V:View H (some ⟨b.h,0,none⟩) (some (b,x)))(s:aB a)(Q:QAt x.sp.mem a L)(hL:L.length<=100000):
  bP.C (some ⟨b.h,0,none⟩) a H (λv S=> ∃B c,v=.tuple #[vs B L.length c,vT]/\Own S 28 1 B L.length c (wvs (L.map Prod.snd))/\(∀j∈blks B,H.size<=j)/\Ext H S):=by
 refine HC.via λR hR=>bP.link ?_
 unfold bP.pt
 have hm: ∀y:Hp,mof (some (b,y))=y.sp.mem:=λ_=>rfl
 obtain⟨g0,g1⟩:=Q.fld
 have N:=Q.pair
 refine HC.mono (iM V s (by decide)) ?_
 rw[hm,g0,if_pos rfl,Int.add_zero,Q.f0]
 rintro _ H1 ⟨rfl,U⟩
 refine⟨_,_,rfl,?_⟩
 refine HC.mono (iM (V.ext U) s (by decide)) ?_
 rw[hm,g1,if_pos rfl,show a / 8+1+1=a / 8+2 by omega,Q.f1]
 rintro _ H2 ⟨rfl,e2⟩
 have F:=U.trans e2
 refine⟨_,_,rfl,?_⟩
 have h0:(bA L==20)=(i0 L==20):=by
  cases L with
  | nil=>rfl
  | cons e l=>
   obtain⟨y,D,J⟩:=jL e l
   have O:=mV N (by simp)
   have P:i0 (e::l)≠20:=λq=>by
    rw[J]at q
    have:=(mW (m:=x.sp.mem) (L:=[y]) (by simp;exact N y D)).1 q
    cases this
   rw[beq_eq_false_iff_ne.2 O,beq_eq_false_iff_ne.2 P]
 rw[if_neg (by rw[h0];simp)]
 refine⟨λB n c p A=> ∃g d,L=g++d/\p=bA d/\n=g.length/\Own A 28 1 B n c (wvs (g.map Prod.snd))/\(∀j∈blks B,H.size<=j)/\Ext H A,λ_ n _ _ _=>L.length-n,⟨[],L,rfl,rfl,rfl,gH,λj t=>by simp at t,F⟩,?_⟩
 rintro B n c p A ⟨g,d,i,rfl,rfl,X,G,o⟩
 have z: ∀e∈d,x.sp.mem.isPair e.1:=λe he=>N e (by rw[i];exact List.mem_append_right _ he)
 by_cases E:bA d=20
 ·rw[if_pos E]
  have:=(mW z).1 E
  subst this
  rw[List.append_nil]at i
  subst i
  exact hR _ _ ⟨B,c,rfl,X,G,o⟩
 rw[if_neg E]
 cases d with
 | nil=>exact absurd rfl E
 | cons e d=>
  obtain⟨Y,Z,⟨u1,u2⟩,k3,k4⟩:=Q.el g e d i
  rw[show bA (e::d)=e.1 from rfl]
  refine HC.mono (il (V.ext o) Z) ?_
  rw[hm,k9 Y u1,if_pos rfl,Int.add_zero,k3]
  rintro _ A1 ⟨rfl,T⟩
  refine⟨_,_,rfl,?_⟩
  refine HC.mono (lJ (V.ext (o.trans T)) Z) ?_
  rw[hm,k9 Y u2,if_pos rfl,k4]
  rintro _ A2 ⟨rfl,a2⟩
  refine⟨_,_,rfl,?_⟩
  have W:L.length=g.length+(d.length+1):=by rw[i,List.length_append,List.length_cons]
  have K:(bA d==20)=(e.1==i0 L):=by
   rw[i,oF]
   cases d with
   | nil=>show(20==20)=(e.1==e.1);simp
   | cons f d=>
    have O:=mV (m:=x.sp.mem) (L:=f::d) (λy D=>z y (List.mem_cons_of_mem _ D)) (by simp)
    obtain⟨y,D,J⟩:=jL f d
    have P:e.1≠i0 (e::f::d):=λq=>by
     have q:e.1=i0 (f::d):=q
     have u:=Q.nd
     rw[i,List.map_append,List.map_cons]at u
     have:=(List.nodup_append.1 u).2.1
     rw[List.nodup_cons]at this
     exact this.1 (by rw[q,J];exact List.mem_map_of_mem D)
    rw[beq_eq_false_iff_ne.2 O,beq_eq_false_iff_ne.2 P]
  rw[if_neg (by
   rw[show bA d=bA d from rfl,K]
   have: ¬((g.length:Int)>100000):=by omega
   simp[this])]
  intro b6 H6 I r
  have e6:Ext A2 H6:=Ext.push' r
  have k:=(T.trans a2).trans e6
  refine fo (ys:=wvs [e.2]) (X.ext k) (fi (aK I r) _ 0 0 (λj t=>by
   simp only[wvs,List.map_cons,List.map_nil,List.length_cons,List.length_nil]at t
   obtain rfl:j=0:=by omega
   rfl)) rfl (je _) rfl (by omega) ?_
  intro B' c' H7 w f7 M
  have zA:=o.size
  have ag:=k.size
  refine⟨⟨g++[e],d,by rw[i];simp,rfl,by simp,?_,λj t=>?_,(o.trans k).fr_trans f7 G⟩,by show L.length-(g.length+1)<L.length-g.length;omega⟩
  ·unfold wvs at w⊢
   rw[List.map_append,List.map_append];exact w
  ·rcases M j t with q | q
   ·exact G j q
   ·omega
variable{a:Int}{b:Nat->Nat}{d:Hp}{g:Int->Nat}{i:Blk}{H j:zV}{k:Mem}{o:Sp}
structure Cap0 (F0:Int) (s:Sp) (u:Nat->Nat):Prop where
 ex: ∃c:Nat->Nat,s.mem.free+((c 0:Nat)+(c 1:Nat)+(c 2:Nat)+(c 3:Nat):Int)=F0/\(∀k,k<4->s.cur 0 k=0->c k=0)/\ ∀k,k<4->64*(c k:Int)+s.fill 0 k<=(u k:Int)+64
 gen: ∀k:Nat,(s.mem.seg k).taken≠0->(s.mem.seg k).gen=0
 lim:(s.mem.limit:Int)=F0
theorem Cap0.same(h:Cap0 a o b)(hm:aT o.mem k):Cap0 a {o with mem:=k} b:=by
 obtain⟨c,d,e,f⟩:=h.ex
 refine⟨⟨c,?_,e,λg hk=>?_⟩,λg hk=>?_,?_⟩
 ·show k.free+_=a
  rw[hm.free];exact d
 ·rw[Sp.fill_same hm];exact f g hk
 ·show(k.seg g).gen=0
  rw[(hm.seg g).1];exact h.gen g (by rw[<-(hm.seg g).2.2.2.1];exact hk)
 ·show(k.limit:Int)=a
  rw[hm.limit];exact h.lim
theorem Cap0.alloc(h:Cap0 a o b)(q:SpOK o){k:Nat}{n:Nat}(hk:k<4)(w:(o.alloc 0 k n).2.2=0):Cap0 a (o.alloc 0 k n).1 (λj=>if j=k then b j+2*n else b j):=by
 obtain⟨c,C,r,y⟩:=h.ex
 obtain⟨d,z,s,l,t⟩:=Sp.alloc_fill q w
 obtain⟨_,p⟩:=Sp.alloc_ok q w
 generalize B:(o.alloc 0 k n).1=x at*
 generalize D:(o.alloc 0 k n).2.1=F at*
 have u:((0:Int)).toNat=0:=rfl
 have v:((k:Int)).toNat=k:=by omega
 rw[u,v]at s t
 rw[u,v]at l
 refine⟨⟨λj=>c j+if j=k then d else 0,?_,λj f g=>?_,λj f=>?_⟩,λj f=>?_,?_⟩
 ·show x.mem.free+_=a
  rw[z]
  have:k=0\/k=1\/k=2\/k=3:=by omega
  rcases this with rfl | rfl | rfl | rfl<;>simp<;>omega
 ·show c j+(if j=k then d else 0)=0
  by_cases e:j=k
  ·rw[e]at g;exact absurd g s
  ·rw[(l j e).1]at g
   rw[if_neg e,r j f g]
 ·show 64*((c j+(if j=k then d else 0):Nat):Int)+x.fill 0 j<=((if j=k then b j+2*n else b j:Nat):Int)+64
  have A:=y j f
  by_cases e:j=k
  ·subst e
   rw[if_pos rfl,if_pos rfl]
   have E:=Sp.fill_rng q 0 j
   rcases t with⟨rfl,_,m⟩ | ⟨rfl,i,m⟩
   ·rw[m];omega
   ·rw[m]
    rcases i with i | i
    ·have:=r j f i
     omega
    ·omega
  ·rw[if_neg e,if_neg e,(l j e).2];omega
 ·by_cases e:j=(F / 64).toNat
  ·rw[e];exact p.new.2.1
  ·rw[p.others j e]at f⊢;exact h.gen j f
 ·rw[p.limit];exact h.lim
theorem Cap0.put{s:Sp}(h:Cap0 a s b)(o:SpOK s){k:Nat}{tag:Int}{ws:List Int}(hk:k<4):Cap0 a (s.put k tag ws).1 (λj=>if j=k then b j+2*ws.length else b j):=by
 unfold Sp.put
 split
 ·rename_i m
  exact(h.alloc o hk m).same (aT.sets _ _ _)
 ·obtain⟨c,d,g,i⟩:=h.ex
  refine⟨⟨c,d,g,λj n=>?_⟩,h.gen,h.lim⟩
  have l:64*(c j:Int)+s.fill 0 j<=(b j:Int)+64:=i j n
  show 64*(c j:Int)+s.fill 0 j<=((if j=k then b j+2*ws.length else b j:Nat):Int)+64
  generalize s.fill 0 j=f at*
  by_cases e:j=k
  ·rw[if_pos e];omega
  ·rw[if_neg e];exact l
theorem Cap0.free{s:Sp}(h:Cap0 a s b)(e:SpOK s):a-((b 0 / 64+b 1 / 64+b 2 / 64+b 3 / 64+4:Nat):Int)<=s.mem.free:=by
 obtain⟨c,f,g,d⟩:=h.ex
 have i:=Sp.fill_rng e 0 0
 have j:=Sp.fill_rng e 0 1
 have k:=Sp.fill_rng e 0 2
 have l:=Sp.fill_rng e 0 3
 have m:=d 0 (by decide)
 have n:=d 1 (by decide)
 have o:=d 2 (by decide)
 have p:=d 3 (by decide)
 omega
theorem Mem.nyoung_le(f:aU k)(g:Int):(k.nyoung g:Int)+k.free<=k.limit:=by
 have h:k.nyoung g<=(List.range k.limit).countP (λj=> !((k.seg j).taken==0)):=by
  unfold Mem.nyoung Mem.takenTo
  rw[<-List.countP_eq_length_filter]
  refine List.countP_mono_left λi _ d=>?_
  rw[Bool.and_eq_true,decide_eq_true_eq]at d
  have:(k.seg i).taken≠0:=by omega
  simpa using this
 have b:=List.length_eq_countP_add_countP (λj=>(k.seg j).taken==0) (l:=List.range k.limit)
 rw[List.length_range]at b
 have c:=f.free
 have e:(List.range k.limit).countP (λa=>decide ¬((λj=>(k.seg j).taken==0) a=true))=(List.range k.limit).countP (λj=> !((k.seg j).taken==0)):=by
  refine List.countP_congr λi _=>?_
  simp
 rw[e]at b
 unfold Mem.nfree at c
 omega
theorem Cap0.start{c:Int}(h:Cap0 a o b)(d:SpOK o)(hm:0<=c)(i:3*((b 0 / 64+b 1 / 64+b 2 / 64+b 3 / 64+4:Nat):Int)+8+c<=a):eU o 0 1 c=0:=by
 have e:=h.free d
 have f:=Mem.nyoung_le d.mem 0
 have g:=h.lim
 unfold eU
 rw[if_neg (by omega),if_neg (by omega)]
theorem Cap0.fresh(n:Nat):Cap0 n ⟨Mem.fresh n,λ_ _=>0⟩ (λ_=>0):=by
 refine⟨⟨λ_=>0,?_,λ_ _ _=>rfl,λk _=>?_⟩,λk hk=>absurd rfl hk,rfl⟩
 ·show((n:Int))+_=_
  simp
 ·show 64*((0:Nat):Int)+Sp.fill _ 0 k<=_
  unfold Sp.fill
  rw[if_pos rfl];omega
structure Bd (H0 H:zV) (b:Blk) (x:Hp) (sz:Int->Nat) (F0:Int) (u:Nat->Nat):Prop where
 live:Live H0 H b x
 inv:Inv x.sp sz
 cap:Cap0 F0 x.sp u
 cf:x.sp.cf=F0
def WG(x:Hp)(sz:Int->Nat)(w:Int):Prop:=aB w/\Good x.sp.mem sz w
structure Bdd (x:Hp) (sz:Int->Nat) (x':Hp) (sz':Int->Nat) (w:Int):Prop where
 lift:Lift x.sp.mem sz x'.sp.mem sz'
 new:WG x' sz' w
theorem Bd.pair(B:Bd H j i d g a b){k:Nat}{x y:Int}(hk:k<=1)(n:WG d g x)(o:WG d g y)(r:1<=d.sp.mem.free):
  ∃(w:Int) (e:Hp) (c:Int->Nat),putR (some (i,d)) k (k+1) [x,y]=(w,0)/\putO (some (i,d)) k (k+1) [x,y]=some (i,e)/\ma d e w (k+1) x y/\Inv e.sp c/\Cap0 a e.sp (λz=>if z=k then b z+4 else b z)/\e.sp.cf=a/\Bdd d g e c w:=by
 obtain⟨w,e,l,m,hm⟩:=ot B.live B.inv.even (tag:=k+1) (by omega) n.1 o.1 r
 rw[show((k:Int)+1-1)=k by omega]at l m
 have q:some (i,({d with sp:=(d.sp.put k (k+1) [x,y]).1}:Hp))=some (i,e):=m
 cases q
 have p:(d.sp.put k (k+1) [x,y]).2=(w,0):=l
 obtain⟨c,s,t,u,v⟩:=B.inv.put (kind:=k) (tag:=k+1) (ws:=[x,y]) (by omega) (by
  have:k=0\/k=1:=by omega
  rcases this with rfl | rfl<;>rfl) (λw f=>by simp at f;rcases f with rfl | rfl;exact n.1;exact o.1) (λ_=>rfl) (λh=>by omega) (λ_ w f=>by simp at f;rcases f with rfl | rfl;exact n.2;exact o.2)
 refine⟨w,_,c,l,m,hm,s,B.cap.put B.live.ok (ws:=[x,y]) (by omega),v.trans B.cf,t,?_⟩
 have:=u (by rw[p])
 rw[p]at this
 exact this
theorem Bd.count(B:Bd H j i d g a b)(h:a<4611686018427387904):d.sp.mem.count<4611686018427387904:=Sp.cf_count B.live.ok (by rw[B.cf];exact h)
theorem Bd.Cons{l:Int}(B:Bd H j i d g l b){a E:Int}(p:WG d g a)(q:WG d g E)(z:1<=d.sp.mem.free)(y:l<4611686018427387904):
  cR.C (some ⟨i.h,0,none⟩) a E j (λv o=> ∃(w:Int) (e:Hp) (c:Int->Nat),v=.tuple #[vu w,vi 0]/\Bd H o i e c l (λF=>if F=0 then b F+4 else b F)/\ma d e w 1 a E/\Bdd d g e c w/\Fr i.all j o):=by
 refine HC.mono (kG B.live.view p.1 q.1 (B.count y)) ?_
 rintro _ D ⟨rfl,V,f⟩
 obtain⟨w,e,c,t,u,hm,A,r,x,s⟩:=B.pair (k:=0) (by decide) p q z
 have m:putR (some (i,d)) 0 1 [a,E]=(w,0):=t
 have n:putO (some (i,d)) 0 1 [a,E]=some (i,e):=u
 rw[n]at V
 exact⟨w,e,c,by rw[m],⟨B.live.step V f,A,r,x⟩,hm,s,Live.others f⟩
theorem Bd.Weak{l:Int}(B:Bd H j i d g l b){a E:Int}(p:WG d g a)(q:WG d g E)(z:1<=d.sp.mem.free)(y:l<4611686018427387904):
  dg.C (some ⟨i.h,0,none⟩) a E j (λv o=> ∃(w:Int) (e:Hp) (c:Int->Nat),v=.tuple #[vu w,vi 0]/\Bd H o i e c l (λF=>if F=1 then b F+4 else b F)/\ma d e w 2 a E/\Bdd d g e c w/\Fr i.all j o):=by
 refine HC.mono (kH B.live.view p.1 q.1 (B.count y)) ?_
 rintro _ D ⟨rfl,V,f⟩
 obtain⟨w,e,c,t,u,hm,A,r,x,s⟩:=B.pair (k:=1) (by decide) p q z
 have m:putR (some (i,d)) 1 2 [a,E]=(w,0):=t
 have n:putO (some (i,d)) 1 2 [a,E]=some (i,e):=u
 rw[n]at V
 exact⟨w,e,c,by rw[m],⟨B.live.step V f,A,r,x⟩,hm,s,Live.others f⟩
theorem Bd.guardian{H0 H:zV}(B:Bd H0 H i d g a b)(z:1<=d.sp.mem.free)(y:a<4611686018427387904){u:zW}{I:Nat}(A:ec H u (wvs [20,20])):
  df.C (some ⟨i.h,0,none⟩) 10 0 u 2 I H (λv q=> ∃(w:Int) (o:Hp) (c:Int->Nat),v=.tuple #[vu w,vi 0]/\Bd H0 q i o c a (λj=>if j=2 then b j+6 else b j)/\fg o.sp.mem w 10 0 [20,20]/\Made d.sp.mem o.sp.mem w 2/\Bdd d g o c w/\Fr i.all H q):=by
 have l: ∀w∈[(20:Int),20],aB w:=λw e=>by simp at e;rw[e];decide
 refine HC.mono (kD (ws:=[20,20]) B.live.view A rfl l (by decide) (by decide) (B.count y) (by decide)) ?_
 rintro _ K ⟨rfl,V,f⟩
 obtain⟨w,o,r,s,hm⟩:=oq B.live (kind:=10) (more:=0) (by decide) (by decide) (by decide) l z
 obtain⟨J,x⟩:=lL i d 10 0 [20,20]
 rw[x]at s
 cases s
 have m:d.sp.make 10 0 [20,20]=d.sp.put 2 3 [597,20,20]:=rfl
 have t:(d.sp.put 2 3 [597,20,20]).2=(w,0):=by rw[<-m,<-J];exact r
 have p:Good d.sp.mem g 20:=⟨by decide,λh=>absurd h (by decide)⟩
 have n:Good d.sp.mem g 597:=⟨by decide,λh=>absurd h (by decide)⟩
 obtain⟨c,D,E,F,G⟩:=B.inv.put (kind:=2) (tag:=3) (ws:=[597,20,20]) (by decide) rfl (λw e=>by simp at e;rcases e with rfl | rfl<;>decide) (λh=>absurd h (by decide)) (λ_=>⟨597,[20,20],rfl,by decide,by decide,by decide⟩) (λ_ w e=>by simp at e;rcases e with rfl | rfl;exact n;exact p)
 rw[x]at V
 refine⟨w,_,c,by rw[r],⟨B.live.step V f,?_,?_,?_⟩,hm.thing,hm.made,⟨?_,?_⟩,Live.others f⟩
 ·show Inv (d.sp.make 10 0 [20,20]).1 c
  rw[m];exact D
 ·show Cap0 a (d.sp.make 10 0 [20,20]).1 _
  rw[m];exact B.cap.put B.live.ok (k:=2) (ws:=[597,20,20]) (by decide)
 ·show(d.sp.make 10 0 [20,20]).1.cf=a
  rw[m];exact G.trans B.cf
 ·show Lift _ _ (d.sp.make 10 0 [20,20]).1.mem c
  rw[m];exact E
 ·have:=F (by rw[t])
  rw[t]at this
  show aB w/\Good (d.sp.make 10 0 [20,20]).1.mem c w
  rw[m];exact this
theorem qr(e:aB a)(b:a % 8≠6)(c: ¬isTag a):WG d g a:=⟨e,b,λh=>absurd h c⟩
def fV(m:Mem)(tag:Int):List (Int×Int)->Prop
 | []=>True
 | e::l=>Pr m e.1 tag e.2 (bA l)/\fV m tag l
theorem fV.keep{m b:Mem}(k:Keep m b): ∀{l:List (Int×Int)},fV m a l->fV b a l
 | [],_=>trivial
 | e::l,h=>⟨h.1.keep k,h.2.keep k⟩
theorem fV.mem{m:Mem}{tag:Int}: ∀{l:List (Int×Int)},fV m tag l-> ∀(b a:List (Int×Int)) (e:Int×Int),l=b++e::a->Pr m e.1 tag e.2 (bA a)
 | [],_,b,a,e,h=>by simp at h
 | d::l,h,[],a,e,q=>by
  rw[List.nil_append]at q
  cases q;exact h.1
 | d::l,h,c::b,a,e,q=>by
  rw[List.cons_append]at q
  cases q;exact fV.mem h.2 b a e rfl
