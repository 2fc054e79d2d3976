/-
 A trace that is on puts a thing behind a guardian's queue. Proves nothing of any one statement.
-/
import Derived.Test.YtfhbhckhmnleoaaGreatGcJ
set_option linter.unusedVariables false
set_option linter.unusedSimpArgs false
namespace Go.Proofs.YtfhbhckhmnleoaaGreat
open Go
section
variable {Z:TZ} {g F0:Int} {fw:Int->Option Int} {al:List Int} {s:Sp} {sz:Int->Nat} {ks:List (Int×Value)}
theorem Tri.places(S:aO Z g F0)(t:Tri Z F0 fw al s sz){a:Int}(h:sz a≠0){i:Nat}(b:i<sz a):s.mem.used (a+i)/\(a+i) / 64=a / 64/\(a+i) % 64=a % 64+i:=by
 rcases t.szn a h with q | ⟨d,q⟩ | q
 ·have e:=t.sz0 a q
  rw[e]at h b
  have:=S.sound.usedAt h b (λk=>(S.ok.seg k).n.2)
  exact⟨t.heads.used this.1,this.2⟩
 ·obtain⟨j,c⟩:=t.img d a q
  have m:=c.fit
  exact⟨c.here i (by omega),by omega,by omega⟩
 ·have N:=t.pair a q
  have f:=N.used.1.1
  have l:=N.even
  rw[N.sz]at b
  refine⟨?_,by omega,by omega⟩
  rcases(show i=0\/i=1 by omega)with rfl | rfl
  ·simpa using N.used.1
  ·exact N.used.2
theorem Tri.pairs(S:aO Z g F0)(t:Tri Z F0 fw al s sz){a:Int}(h:sz a≠0)(hk:s.mem.kAt a<=1):sz a=2/\a % 2=0:=by
 rcases t.szn a h with q | ⟨c,q⟩ | q
 ·have e:=t.sz0 a q
  rw[e]at h⊢
  exact S.sound.two a h (by rw[<-(t.kAt q).1];exact hk)
 ·obtain⟨d,f⟩:=t.img c a q
  have b:Z.m.kAt c<=1:=by rw[<-f.kind];exact hk
  rw[d]
  exact⟨(S.sound.two c (by rw[<-d];exact h) b).1,f.even b⟩
 ·exact⟨(t.pair a q).sz,(t.pair a q).even⟩
theorem Tri.obj(S:aO Z g F0)(t:Tri Z F0 fw al s sz){a:Int}(h:sz a≠0)(n:Z.O (a / 64).toNat=false)(k:2<=s.mem.kAt a):fu (s.mem.get a)/\s.mem.kAt a=rawK (hk (s.mem.get a))/\(sz a:Int)=hn (s.mem.get a)+1:=by
 have d:Z.q a=none:=by
  cases d:Z.q a with
  | none=>rfl
  | some w=>have:=(t.qok a w d).head h;omega
 have key: ∀v,Was0 Z fw a v->fu v->s.mem.get a=v:=λv o m=>by
  rcases t.val a v (.inr ⟨d,o⟩)with e | ⟨_,_,e⟩
  ·exact e
  ·rw[e,eL (io m _)]
 rcases t.szn a h with q | ⟨c,q⟩ | q
 ·have e:=t.sz0 a q
  have hk:=(t.kAt q).1
  obtain⟨b,f,i⟩:=S.sound.obj a (by rw[<-e];exact h) (by rw[<-hk];exact k)
  rw[key _ (.inl ⟨q,n,rfl⟩) b,hk,e]
  exact⟨b,f,i⟩
 ·obtain⟨j,l⟩:=t.img c a q
  obtain⟨b,f,i⟩:=S.sound.obj c (by rw[<-j];exact h) (by rw[<-l.kind];exact k)
  rw[key _ (.inr ⟨c,a,0,q,by omega,by simp,by simp⟩) b,l.kind,j]
  exact⟨b,f,i⟩
 ·have:=(t.pair a q).kind;omega
theorem Tri.alone(t:Tri Z F0 fw al s sz){a:Int}(h:sz a≠0){i:Nat}(c:0<i)(d:i<sz a):sz (a+i)=0:=by
 by_cases b:sz (a+i)=0
 ·exact b
 ·have:=t.apart a (a+i) h b (by omega);omega
theorem Tri.outOf(S:aO Z g F0)(t:Tri Z F0 fw al s sz){w:Int}(d:Good s.mem sz w)(e: ¬aF Z.O w)(a:isTag w):Z.O (w / 8 / 64).toNat=false/\dH w/\s.mem.used (w / 8):=by
 have b:=t.sz_used S (d.2 a).1
 have i:=t.ok.mem.lim
 have h:=b.2.1.2.1
 have f:=b.1
 have c:dH w:=⟨by unfold isTag at a;omega,by omega⟩
 refine⟨?_,c,b⟩
 by_cases q:Z.O (w / 8 / 64).toNat=true
 ·exact absurd ⟨c,by unfold isTag at a;omega,q⟩ e
 ·simpa using q
theorem Tri.isPair(S:aO Z g F0)(t:Tri Z F0 fw al s sz){w:Int}(i:Good s.mem sz w)(n: ¬aF Z.O w):s.mem.isPair w ↔ w % 8=1\/w % 8=2:=by
 constructor
 ·intro m
  rcases m.1 with q | q
  ·exact .inl q.2.1
  ·exact .inr q.2.1
 ·intro h
  have j:isTag w:=by unfold isTag;omega
  obtain⟨k,a⟩:=i.2 j
  obtain⟨_,f,d⟩:=t.outOf S i n j
  unfold tagK at a
  have e:s.mem.kAt (w / 8)<=1:=by
   by_cases b:s.mem.kAt (w / 8)=0
   ·omega
   ·rw[if_neg b]at a
    by_cases c:s.mem.kAt (w / 8)=1
    ·omega
    ·rw[if_neg c]at a;omega
  have l:=(t.pairs S k e).2
  refine⟨?_,l⟩
  by_cases b:s.mem.kAt (w / 8)=0
  ·rw[if_pos b]at a;exact .inl ⟨f,a,d.2.1,b,d.2.2⟩
  ·rw[if_neg b]at a
   by_cases c:s.mem.kAt (w / 8)=1
   ·rw[if_pos c]at a;exact .inr ⟨f,a,d.2.1,c,d.2.2⟩
   ·rw[if_neg c]at a;omega
theorem Tri.cdrAt(S:aO Z g F0)(t:Tri Z F0 fw al s sz){w:Int}(f:Good s.mem sz w)(n: ¬aF Z.O w)(h:w % 8=1\/w % 8=2):s.mem.used (w / 8+1)/\Z.O ((w / 8+1) / 64).toNat=false/\s.mem.strong (w / 8+1)/\sz (w / 8+1)=0/\s.mem.kAt (w / 8+1)<=1:=by
 have j:isTag w:=by unfold isTag;omega
 obtain⟨b,c⟩:=f.2 j
 obtain⟨m,q,r⟩:=t.outOf S f n j
 have e:=(t.ok.mem.seg (w / 8 / 64).toNat).kind
 have e:0<=s.mem.kAt (w / 8)/\s.mem.kAt (w / 8)<=3:=e
 have a:s.mem.kAt (w / 8)<=1:=by
  unfold tagK at c
  by_cases o:s.mem.kAt (w / 8)=0
  ·omega
  ·rw[if_neg o]at c
   by_cases p:s.mem.kAt (w / 8)=1
   ·omega
   ·rw[if_neg p]at c;omega
 obtain⟨u,v⟩:=t.pairs S b a
 obtain⟨k,d,x⟩:=t.places S b (i:=1) (by omega)
 have l:w / 8+((1:Nat):Int)=w / 8+1:=rfl
 rw[l]at k d
 have hk:s.mem.kAt (w / 8+1)=s.mem.kAt (w / 8):=by unfold Mem.kAt;rw[d]
 refine⟨k,by rw[d];exact m,?_,t.alone b (i:=1) (by decide) (by omega),by rw[hk];exact a⟩
 unfold Mem.strong
 rw[hk]
 exact⟨by omega,.inr (by omega)⟩
structure GdAt (Z:TZ) (s:Sp) (sz:Int->Nat) (gd:Int):Prop where
 tag:gd % 8=3
 three:sz (gd / 8)=3
 kind:s.mem.kAt (gd / 8)=2
 out:Z.O (gd / 8 / 64).toNat=false
 used: ∀i:Nat,i<3->s.mem.used (gd / 8+i)/\(gd / 8+i) / 64=gd / 8 / 64
 alone: ∀i:Nat,0<i->i<3->sz (gd / 8+i)=0
 head:fu (s.mem.get (gd / 8))/\hk (s.mem.get (gd / 8))=10/\hn (s.mem.get (gd / 8))=2
theorem GdAt.strong{a:Int}(h:GdAt Z s sz a){i:Nat}(b:i<3):s.mem.kAt (a / 8+i)=2/\s.mem.strong (a / 8+i)/\Z.O ((a / 8+i) / 64).toNat=false:=by
 have e:=(h.used i b).2
 have hk:s.mem.kAt (a / 8+i)=2:=by unfold Mem.kAt;rw[e];exact h.kind
 refine⟨hk,?_,by rw[e];exact h.out⟩
 unfold Mem.strong
 rw[hk];exact⟨by decide,.inl (by decide)⟩
theorem Tri.gdAt(S:aO Z g F0)(t:Tri Z F0 fw al s sz){a:Int}(h:Good s.mem sz a)(p: ¬aF Z.O a)(n:a % 8=3)(d:hk (s.mem.get (a / 8))=10/\hn (s.mem.get (a / 8))=2):GdAt Z s sz a:=by
 have k:isTag a:=by unfold isTag;omega
 obtain⟨c,b⟩:=h.2 k
 obtain⟨j,z,A⟩:=t.outOf S h p k
 have y:0<=s.mem.kAt (a / 8)/\s.mem.kAt (a / 8)<=3:=(t.ok.mem.seg (a / 8 / 64).toNat).kind
 have e:2<=s.mem.kAt (a / 8):=by
  unfold tagK at b
  by_cases l:s.mem.kAt (a / 8)=0
  ·rw[if_pos l]at b;omega
  ·rw[if_neg l]at b
   by_cases v:s.mem.kAt (a / 8)=1
   ·rw[if_pos v]at b;omega
   ·omega
 obtain⟨q,r,u⟩:=t.obj S c j e
 rw[d.2]at u
 have f:sz (a / 8)=3:=by omega
 exact⟨n,f,by rw[r,d.1];rfl,j,λi o=>by
  obtain⟨w,x,_⟩:=t.places S c (i:=i) (by omega)
  exact⟨w,x⟩,λi m o=>t.alone c m (by omega),q,d⟩
theorem GdAt.isObj(t:Tri Z F0 fw al s sz){a:Int}(h:GdAt Z s sz a):s.mem.isObj a/\s.mem.typ a=10/\s.mem.len a=2:=by
 have c:s.mem.used (a / 8):=by simpa using(h.used 0 (by decide)).1
 obtain⟨f,e⟩:=h.used 2 (by decide)
 have k:=t.ok.mem.lim
 have j:=c.2.1.2.1
 have i:=c.1
 have hn:=(t.ok.mem.seg (a / 8 / 64).toNat).n
 have b:s.mem.isObj a:=by
  refine⟨⟨⟨by have:=h.tag;omega,by omega⟩,h.tag,c.2.1,?_,c.2.2⟩,h.head.1,?_⟩
  ·rw[h.head.2.1];exact h.kind
  ·rw[h.head.2.2]
   have:=f.2.2
   have d:(a / 8+2) / 64=a / 8 / 64:=e
   rw[show(a / 8+((2:Nat):Int))=a / 8+2 from rfl,d]at this
   omega
 exact⟨b,by unfold Mem.typ;rw[if_pos b];exact h.head.2.1,by unfold Mem.len;rw[if_pos b];exact h.head.2.2⟩
theorem GdAt.field(t:Tri Z F0 fw al s sz){a:Int}(h:GdAt Z s sz a){i:Int}(e:i=0\/i=1):s.mem.fieldE a 10 i=0:=by
 obtain⟨b,c,d⟩:=h.isObj t
 unfold Mem.fieldE
 rw[if_neg (λq=>by rcases q with q | q;exact q b;exact q c),if_neg (by rw[d];omega)]
theorem Tri.gdOf(S:aO Z g F0)(t:Tri Z F0 fw al s sz){b:Int}(e:Good s.mem sz b)(f: ¬aF Z.O b)(c:s.mem.typ b=10)(d:s.mem.len b=2):GdAt Z s sz b:=by
 by_cases a:s.mem.isObj b
 ·unfold Mem.typ at c
  unfold Mem.len at d
  rw[if_pos a]at c d
  exact t.gdAt S e f a.1.2.1 ⟨c,d⟩
 ·unfold Mem.typ at c
  rw[if_neg a]at c;exact absurd c (by decide)
theorem GdAt.keep{a:Int}(h:GdAt Z s sz a){Z':TZ}{s':Sp}{c:Int->Nat}(k:Z'.O=Z.O)(d:dX s.mem s'.mem)(e: ∀y,s.mem.used y->c y=sz y)(l:s'.mem.get (a / 8)=s.mem.get (a / 8)):GdAt Z' s' c a:=by
 have f:s.mem.used (a / 8):=by simpa using(h.used 0 (by decide)).1
 exact⟨h.tag,(e _ f).trans h.three,(d.kAt f).1.trans h.kind,by rw[k];exact h.out,λi b=>⟨d.used (h.used i b).1,(h.used i b).2⟩,λi j b=>(e _ (h.used i b).1).trans (h.alone i j b),by rw[l];exact h.head⟩
theorem Good.keep{m c:Mem}{sz a:Int->Nat}{v:Int}(h:Good m sz v)(e:dX m c)(i: ∀y,sz y≠0->m.used y)(j: ∀y,m.used y->a y=sz y):Good c a v:=⟨h.1,λf=>by
 obtain⟨b,d⟩:=h.2 f
 have u:=i _ b
 rw[j _ u,(e.kAt u).1];exact⟨b,d⟩⟩
def jh(v:Int):Prop:=v % 8=1\/v % 8=2
instance (v:Int):Decidable (jh v):=by unfold jh;infer_instance
def jJ(m:Mem)(gd th p x:Int):Int:=
 if x=p then th else if x=p+1 then 20 else if x=gd / 8+2 then p*8+1 else if x=(if jh (m.get (gd / 8+2))then m.get (gd / 8+2) / 8+1 else gd / 8+1)then p*8+1 else m.get x
structure rD (Z:TZ) (F0:Int) (fw:Int->Option Int) (al:List Int) (s:Sp) (sz:Int->Nat) (ks:List (Int×Value)) (gd th p:Int) (q:Int->Option Int) (s':Sp) (sz':Int->Nat):Prop where
 tri:Tri {Z with q:=q,P:=p::Z.P} F0 fw al s' sz'
 pend:Pend {Z with q:=q,P:=p::Z.P} fw s' ks
 heads:dX s.mem s'.mem
 new: ¬s.mem.used p/\ ¬s.mem.used (p+1)
 used: ∀x,s'.mem.used x ↔ s.mem.used x\/x=p\/x=p+1
 get: ∀x,s'.mem.used x->s'.mem.get x=jJ s.mem gd th p x
 szo: ∀y,s.mem.used y->sz' y=sz y
 done: ∀y,s.mem.used y->Done Z fw s y->Done {Z with q:=q,P:=p::Z.P} fw s' y
 qo: ∀y,s.mem.used y->y≠gd / 8+2->y≠(if jh (s.mem.get (gd / 8+2))then s.mem.get (gd / 8+2) / 8+1 else gd / 8+1)->q y=Z.q y
 qz: ∀y,Z.q y≠none->q y≠none
 cf:s'.cf=s.cf
 qn: ∀y,q y≠none->Z.q y≠none\/(y=p\/y=p+1)\/y=gd / 8+2\/y=(if jh (s.mem.get (gd / 8+2))then s.mem.get (gd / 8+2) / 8+1 else gd / 8+1)
theorem Tri.putsG(S:aO Z g F0)(t:Tri Z F0 fw al s sz)(p:Pend Z fw s ks){a f:Int}(bn:aC a)(ao:Good s.mem sz a)(ap: ¬aF Z.O a)(ay:aC f)(aw:Good s.mem sz f)(az: ¬aF Z.O f)(ax:isTag f)
  (D:2*((Z.yk 0:Int)+Z.yk 1+Z.yk 2+Z.yk 3)+8+(((Z.P.length+1) / 32:Nat):Int)<=F0)
  (hg:s.mem.typ a=10/\s.mem.len a=2) (hf: ∀i:Nat,i=1\/i=2->Done Z fw s (a / 8+i))
  (hl:jh (s.mem.get (a / 8+2))->Good s.mem sz (s.mem.get (a / 8+2))/\ ¬aF Z.O (s.mem.get (a / 8+2))/\Done Z fw s (s.mem.get (a / 8+2) / 8+1)):
  ∃p q aX,rD Z F0 fw al s sz ks a f p q (s.putsG Z.T a f) aX:=by
 obtain⟨c,V⟩:=t.cap
 have av:=V.room t.ok S.sound S.ok t.olds S.room
 have b4:=S.rng
 have a3:may Z.T 0 2:=⟨by omega,.inl ⟨.inl rfl,rfl⟩⟩
 have U:=Sp.alloc_can t.ok a3 av
 have A:=t.putP S ay (by decide:aC 20) az (λo=>absurd o.1.1 (by decide)) aw ⟨by decide,λh=>absurd h (by decide)⟩ (.inl ax) (.inr rfl) U rfl rfl rfl
 have Y:(s.alloc Z.T 0 2).1.cf=s.cf:=Sp.alloc_cf _ _ _ _
 have e0:s.putT Z.T f 20=({(s.alloc Z.T 0 2).1 with mem:=(s.alloc Z.T 0 2).1.mem.sets (s.alloc Z.T 0 2).2.1 [f,20]},(s.alloc Z.T 0 2).2.1*8+1):=by unfold Sp.putT;rw[if_pos U]
 have W:({(s.alloc Z.T 0 2).1 with mem:=(s.alloc Z.T 0 2).1.mem.sets (s.alloc Z.T 0 2).2.1 [f,20]}:Sp).cf=s.cf:=by
  have h:=aS.sets [f,20] (s.alloc Z.T 0 2).1.mem (s.alloc Z.T 0 2).2.1
  rw[<-Y]
  unfold Sp.cf
  show((s.alloc Z.T 0 2).1.mem.sets _ _).count+((s.alloc Z.T 0 2).1.mem.sets _ _).free=_
  rw[h.count,h.free]
 generalize ({(s.alloc Z.T 0 2).1 with mem:=(s.alloc Z.T 0 2).1.mem.sets (s.alloc Z.T 0 2).2.1 [f,20]}:Sp)=b at*
 generalize (s.alloc Z.T 0 2).2.1=pa at*
 generalize b5:(λx=>if x=pa then 2 else sz x)=k at*
 obtain⟨w1,w2,w3,w4⟩:=A.word
 have w5:isTag (pa*8+1)\/pa*8+1=20:=.inl (by unfold isTag;omega)
 have H:aO (Z.putP pa f 20) g F0:=S.putP D
 have n:=A.tri
 have p1:=p.putP S t A
 have a6: ∀y,sz y≠0->s.mem.used y:=λy h=>t.sz_used S h
 have B:=t.gdOf S ao ap hg.1 hg.2
 have e1: ∀{z:Int},z+((1:Nat):Int)=z+1:=rfl
 have e2: ∀{z:Int},z+((2:Nat):Int)=z+2:=rfl
 have u0:s.mem.used (a / 8):=by simpa using(B.used 0 (by decide)).1
 have u1:s.mem.used (a / 8+1):=(B.used 1 (by decide)).1
 have u2:s.mem.used (a / 8+2):=(B.used 2 (by decide)).1
 have K:GdAt (Z.putP pa f 20) b k a:=B.keep rfl A.heads.l A.szo (A.get _ u0)
 have m:b.mem.lastG a=s.mem.get (a / 8+2):=by
  unfold Mem.lastG
  rw[if_pos (K.field n (.inr rfl)),show a / 8+1+1=a / 8+2 by omega,A.get _ u2]
 have d1: ∀i:Nat,i=1\/i=2->Done (Z.putP pa f 20) fw b (a / 8+i):=λi hi=>A.done t (B.used i (by omega)).1 (hf i hi)
 have C: ∀y,s.mem.used y->y≠pa/\y≠pa+1:=λy w=>⟨λe=>A.new.1 (e▸w),λe=>A.new.2 (e▸w)⟩
 have ev:s.putsG Z.T a f={b with mem:=b.mem.queued a (pa*8+1)}:=by
  unfold Sp.putsG
  rw[if_pos hg,e0,if_neg w4]
 rw[ev]
 generalize hL:s.mem.get (a / 8+2)=L at*
 obtain⟨d,E,M,c2,c3,c4,aj,a4,au⟩: ∃d,d=(if jh L then L / 8+1 else a / 8+1)/\s.mem.used d/\Z.O (d / 64).toNat=false/\b.mem.strong d/\k d=0/\Done (Z.putP pa f 20) fw b d/\(d≠a / 8/\d≠a / 8+2)/\b.mem.queued a (pa*8+1)=(b.mem.store d (pa*8+1)).1.fset a 10 1 (pa*8+1):=by
  by_cases j:jh L
  ·obtain⟨l1,l2,l3⟩:=hl j
   have v:Good b.mem k L:=l1.keep A.heads.l a6 A.szo
   obtain⟨u,c2,c3,c4,c5⟩:=n.cdrAt H v l2 j
   obtain⟨M,b2,b3,bM,bO⟩:=t.cdrAt S l1 l2 j
   have a2:=(n.isPair H v l2).2 j
   refine⟨L / 8+1,by rw[if_pos j],M,c2,c3,c4,A.done t M l3,⟨λe=>?_,λe=>?_⟩,?_⟩
   ·have k0:=B.kind
    rw[e,k0]at bO;omega
   ·have k2:s.mem.kAt (a / 8+2)=2:=(B.strong (i:=2) (by decide)).1
    rw[e,k2]at bO;omega
   ·have hE:b.mem.hsetE L 1 (pa*8+1)=0:=by unfold Mem.hsetE;rw[if_pos a2];exact Mem.store_0 n.ok.mem u w1
    unfold Mem.queued
    rw[m,if_pos hE]
    unfold Mem.hset
    rw[if_pos a2]
  ·have a5: ¬b.mem.isPair L:=λhp=>j (by
    rcases hp.1 with q | q
    ·exact .inl q.2.1
    ·exact .inr q.2.1)
   have F:=K.strong (i:=1) (by decide)
   rw[e1]at F
   refine⟨a / 8+1,by rw[if_neg j],u1,F.2.2,F.2.1,K.alone 1 (by decide) (by decide),d1 1 (.inl rfl),⟨by omega,by omega⟩,?_⟩
   have hE: ¬b.mem.hsetE L 1 (pa*8+1)=0:=by unfold Mem.hsetE;rw[if_neg a5];decide
   have hS:b.mem.hset L 1 (pa*8+1)=b.mem:=by unfold Mem.hset;rw[if_neg a5]
   have e:b.mem.fset a 10 0 (pa*8+1)=(b.mem.store (a / 8+1) (pa*8+1)).1:=by
    unfold Mem.fset
    rw[if_pos (K.field n (.inl rfl)),show a / 8+1+0=a / 8+1 by omega]
   unfold Mem.queued
   rw[m,if_neg hE,hS,e]
 have u:=A.heads.used M
 obtain⟨t2,N⟩:=n.write H u c2 c3 aj (λh=>absurd c4 h) w1 w3 w2 w5
 have p2:=p1.write H n u N
 have r:=Mem.store_headsL n.ok.mem (x:=d) w1
 have S2:=H.wrt d (pa*8+1)
 have G2:GdAt ((Z.putP pa f 20).wrt d (pa*8+1)) {b with mem:=(b.mem.store d (pa*8+1)).1} k a:=K.keep rfl r (λ_ _=>rfl) (by
  show(b.mem.store d (pa*8+1)).1.get _=_
  rw[Mem.store_get u _ u0.1,if_neg (λe=>a4.1 e.symm)])
 have hq:b.mem.queued a (pa*8+1)=((b.mem.store d (pa*8+1)).1.store (a / 8+2) (pa*8+1)).1:=by
  rw[au]
  unfold Mem.fset
  rw[if_pos (G2.field t2 (.inr rfl)),show a / 8+1+1=a / 8+2 by omega]
 have v2:=(G2.used 2 (by decide)).1
 have G:=G2.strong (i:=2) (by decide)
 rw[e2]at v2 G
 have af:Done ((Z.putP pa f 20).wrt d (pa*8+1)) fw {b with mem:=(b.mem.store d (pa*8+1)).1} (a / 8+2):=(d1 2 (.inr rfl)).wrt n u (A.heads.used u2) (λe=>a4.2 e.symm)
 have an:Good (b.mem.store d (pa*8+1)).1 k (pa*8+1):=w2.keep r (λy h=>n.sz_used H h) (λ_ _=>rfl)
 obtain⟨t3,Q⟩:=t2.write S2 v2 G.2.2 G.2.1 af (λh=>absurd (G2.alone 2 (by decide) (by decide)) h) w1 w3 an w5
 have p3:=p2.write S2 t2 v2 Q
 have ai:=Mem.store_headsL t2.ok.mem (x:=a / 8+2) w1
 rw[hq]
 have X:({b with mem:=((b.mem.store d (pa*8+1)).1.store (a / 8+2) (pa*8+1)).1}:Sp).cf=s.cf:=by
  rw[<-W]
  unfold Sp.cf
  show((b.mem.store _ _).1.store _ _).1.count+((b.mem.store _ _).1.store _ _).1.free=_
  rw[Mem.store_lim.2.2,Mem.store_lim.2.1,Mem.store_lim.2.2,Mem.store_lim.2.1]
 refine⟨pa,_,k,t3,p3,(A.heads.l.trans r).trans ai,A.new,λx=>?_,λx J=>?_,A.szo,λy w ak=>?_,λy w R I=>?_,λy h=>?_,X,λy h=>?_⟩
 ·show((b.mem.store _ _).1.store _ _).1.used x ↔ _
  rw[Mem.store_used,Mem.store_used,A.used]
 ·have J:((b.mem.store d (pa*8+1)).1.store (a / 8+2) (pa*8+1)).1.used x:=J
  rw[Mem.store_used,Mem.store_used]at J
  show((b.mem.store d (pa*8+1)).1.store (a / 8+2) (pa*8+1)).1.get x=_
  have b0:(b.mem.store d (pa*8+1)).1.used (a / 8+2):=v2
  rw[Mem.store_get b0 x J.1,Mem.store_get u x J.1]
  unfold jJ
  rw[hL,<-E]
  have n1:=C _ u2
  have n2:=C _ M
  by_cases R:x=pa
  ·rw[if_pos R,if_neg (by omega),if_neg (by omega),R,A.car]
  rw[if_neg R]
  by_cases I:x=pa+1
  ·rw[if_pos I,if_neg (by omega),if_neg (by omega),I,A.cdr]
  rw[if_neg I]
  refine ite_congr rfl (λ_=>rfl) (λ_=>ite_congr rfl (λ_=>rfl) (λ_=>?_))
  exact A.get x (((A.used x).1 J).resolve_right (by omega))
 ·have a0:=A.done t w ak
  have a1:Done ((Z.putP pa f 20).wrt d (pa*8+1)) fw {b with mem:=(b.mem.store d (pa*8+1)).1} y:=by
   by_cases e:y=d
   ·rw[e];exact N
   ·exact a0.wrt n u (A.heads.used w) e
  by_cases e:y=a / 8+2
  ·rw[e];exact Q
  ·exact a1.wrt t2 v2 (r.used (A.heads.used w)) e
 ·rw[hL,<-E]at I
  obtain⟨n1,n2⟩:=C y w
  show(if y=a / 8+2 then _ else if y=d then _ else if y=pa then _ else if y=pa+1 then _ else Z.q y)=_
  rw[if_neg R,if_neg I,if_neg n1,if_neg n2]
 ·show(if y=a / 8+2 then _ else if y=d then _ else if y=pa then _ else if y=pa+1 then _ else Z.q y)≠none
  split
  ·simp
  split
  ·simp
  split
  ·simp
  split
  ·simp
  ·exact h
 ·rw[hL,<-E]
  have h:(if y=a / 8+2 then some (pa*8+1)else if y=d then some (pa*8+1)else if y=pa then some f else if y=pa+1 then some 20 else Z.q y)≠none:=h
  by_cases q1:y=a / 8+2
  ·exact .inr (.inr (.inl q1))
  by_cases q2:y=d
  ·exact .inr (.inr (.inr q2))
  by_cases q3:y=pa
  ·exact .inr (.inl (.inl q3))
  by_cases q4:y=pa+1
  ·exact .inr (.inl (.inr q4))
  rw[if_neg q1,if_neg q2,if_neg q3,if_neg q4]at h
  exact .inl h
end
def reachedB(O:Nat->Bool)(m:Mem)(w:Int):Bool:=decide (¬aF O w) || (m.fwd w).isSome
def dnB(O:Nat->Bool)(fw:Int->Option Int)(w:Int):Bool:=decide (¬aF O w) || (fw (w / 8)).isSome
theorem ip{O:Nat->Bool}{fw:Int->Option Int}{w:Int}:dnB O fw w=true ↔ Dn O fw w:=by
 unfold dnB Dn
 by_cases h:aF O w
 ·rw[zQ (show ¬ ¬aF O w from λq=>q h),Bool.false_or,Option.isSome_iff_exists]
  exact⟨λq _=>q,λq=>q h⟩
 ·rw[zX h,Bool.true_or]
  exact⟨λ_ q=>absurd q h,λ_=>rfl⟩
def Fit(O:Nat->Bool)(m:Mem)(l:List (Int×Int))(lost:List Int)(i:Nat):Prop:= ∃e,l[i]?=some e/\lost[i]?=some 1/\reachedB O m e.2=true
def jX(O:Nat->Bool)(T:Int)(s:Sp)(e:Int×Int):Sp:=((s.visit O T e.1).1.visit O T e.2).1.putsG T ((s.visit O T e.1).1.visit O T e.2).2 (s.visit O T e.1).2
inductive Rdy (O:Nat->Bool) (T:Int) (l:List (Int×Int)) (s:Sp) (ks:List (Int×Value)) (lost:List Int):Sp->List (Int×Value)->List Int->Prop
 | refl:Rdy O T l s ks lost s ks lost
 | step {s1 s2:Sp} {k1 k2:List (Int×Value)} {lost1:List Int} {i:Nat} {e:Int×Int} (h:Rdy O T l s ks lost s1 k1 lost1) (he:l[i]?=some e) (hl:lost1[i]?=some 1) (hr:reachedB O s1.mem e.2=true) (hf: ∀j,j<i-> ¬Fit O s1.mem l lost1 j)
   (hd:cJ O T (jX O T s1 e) k1 s2 k2) (hdd:eZ O T s2 k2):Rdy O T l s ks lost s2 k2 (lost1.set i 2)
def fk(O:Nat->Bool)(m:Mem)(l:List (Int×Int)):List Int:=l.map λe=>if reachedB O m e.1=true then 0 else 1
def eF(O:Nat->Bool)(T:Int)(st:Sp×List (Int×Int))(e:(Int×Int)×Int):Sp×List (Int×Int):=
 if e.2<2/\reachedB O st.1.mem e.1.2=true then(((st.1.visit O T e.1.1).1.visit O T e.1.2).1,st.2++[((st.1.visit O T e.1.1).2,((st.1.visit O T e.1.1).1.visit O T e.1.2).2)])else st
def outG(O:Nat->Bool)(T:Int)(s:Sp)(l:List (Int×Int))(lost:List Int):Sp×List (Int×Int):=(l.zip lost).foldl (eF O T) (s,[])
section
variable {Z:TZ} {g F0:Int} {fw:Int->Option Int} {al:List Int} {s:Sp} {sz:Int->Nat} {ks:List (Int×Value)}
theorem Tri.reachedB(S:aO Z g F0)(t:Tri Z F0 fw al s sz){w:Int}(b:aC w)(a:Good Z.m Z.sz w):reachedB Z.O s.mem w=dnB Z.O fw w:=by
 unfold Go.Proofs.YtfhbhckhmnleoaaGreat.reachedB dnB
 by_cases h:aF Z.O w
 ·rw[t.fwd_is S b a h,Option.isSome_map]
 ·rw[zX h];rfl
theorem Tri.visit_dn(S:aO Z g F0)(t:Tri Z F0 fw al s sz){w:Int}(f:aC w)(d:Good Z.m Z.sz w)(c:Dn Z.O fw w):s.visit Z.O Z.T w=(s,Fw Z.O fw w):=by
 by_cases h:aF Z.O w
 ·obtain⟨b,a⟩:=c h
  have e:=t.fwd_is S f d h
  rw[a]at e
  rw[Sp.visit_fwd h e,eS h a]
 ·rw[Sp.visit_no h,eL h]
theorem Tri.goodFw(S:aO Z g F0)(t:Tri Z F0 fw al s sz){v:Int}(n:aC v)(c:Good Z.m Z.sz v)(h:Dn Z.O fw v):aC (Fw Z.O fw v)/\Good s.mem sz (Fw Z.O fw v)/\ ¬aF Z.O (Fw Z.O fw v):=by
 refine⟨t.fw_word S n,?_,t.fw_young h⟩
 by_cases d:aF Z.O v
 ·obtain⟨b,f⟩:=h d
  obtain⟨a,e,p,k⟩:=S.oldWord c d
  obtain⟨j,o⟩:=t.img _ _ f
  rw[eS d f]
  refine⟨by have:=c.1;omega,λ_=>?_⟩
  rw[show(b*8+v % 8) / 8=b by omega,show(b*8+v % 8) % 8=v % 8 by omega,j,o.kind]
  exact⟨a,k⟩
 ·rw[eL d]
  refine⟨c.1,λl=>?_⟩
  obtain⟨a,e⟩:=c.2 l
  have i:=(S.sound.used _ a).1
  rw[t.sz0 _ i,(t.kAt i).1]
  exact⟨a,e⟩
theorem Tri.doneWord(S:aO Z g F0)(t:Tri Z F0 fw al s sz){x:Int}(k:s.mem.used x)(i:Z.O (x / 64).toNat=false)(j:s.mem.strong x)(f:Done Z fw s x):aC (s.mem.get x)/\Good s.mem sz (s.mem.get x)/\ ¬aF Z.O (s.mem.get x):=by
 obtain⟨v,a⟩:=t.was k i
 obtain⟨d,e⟩:=f v a
 rw[e]
 rcases a with h | ⟨_,h⟩
 ·have W:=t.qok x v h
  rw[eL W.young];exact⟨W.word,W.good,W.young⟩
 ·obtain⟨b,c⟩:=t.was0_any S h j.1
  exact t.goodFw S b c d
theorem Tri.sz_same(t:Tri Z F0 fw al s sz){Z':TZ}(hm:Z'.m=Z.m)(f:Z'.sz=Z.sz)(i: ∀p∈Z.P,p∈Z'.P){b:Int->Option Int}{d:List Int}{k:Sp}{c:Int->Nat}(e:Tri Z' F0 b d k c)(j:Le fw b){y:Int}(h:sz y≠0):c y=sz y:=by
 rcases t.szn y h with q | ⟨a,q⟩ | q
 ·rw[t.sz0 y q,e.sz0 y (by rw[hm];exact q),f]
 ·rw[(t.img a y q).1,(e.img a y (j _ _ q)).1,f]
 ·rw[(t.pair y q).sz,(e.pair y (i y q)).sz]
theorem Tri.stay(t:Tri Z F0 fw al s sz){a:Int->Option Int}{d:List Int}{b:Sp}{i:Int->Nat}(y:Tri Z F0 a d b i)(h:Le fw a)(hk:dX s.mem b.mem){x:Int}(j:s.mem.used x)(w:Z.O (x / 64).toNat=false)(u:s.mem.strong x->Done Z fw s x/\Done Z a b x):b.mem.get x=s.mem.get x:=by
 obtain⟨v,c⟩:=t.was j w
 by_cases e:s.mem.strong x
 ·obtain⟨p,r⟩:=u e
  obtain⟨k,l⟩:=p v c
  obtain⟨z,m⟩:=r v (c.mono h)
  rw[l,m,fQ k h]
 ·have f: ¬b.mem.strong x:=λq=>e (by unfold Mem.strong at*;rw[<-(hk.kAt j).1];exact q)
  have n:s.mem.get x=v:=by
   rcases t.val x v c with q | ⟨q,_⟩
   ·exact q
   ·exact absurd q e
  have o:b.mem.get x=v:=by
   rcases y.val x v (c.mono h)with q | ⟨q,_⟩
   ·exact q
   ·exact absurd q f
  rw[n,o]
theorem pX{O:Nat->Bool}{fw:Int->Option Int}(v:Int):Fw O fw v % 8=v % 8:=by
 unfold Fw
 split
 ·cases fw (v / 8)with
  | none=>rfl
  | some b=>show(b*8+v % 8) % 8=_;omega
 ·rfl
structure On (M:Mem) (szM:Int->Nat) (O:Nat->Bool) (T g F0:Int) (V:Int->Prop) (q:Int->Option Int) (P:List Int) (fw:Int->Option Int) (al:List Int) (s:Sp) (sz:Int->Nat) (ks:List (Int×Value)):Prop where
 S:aO ⟨M,szM,O,T,V,q,P⟩ g F0
 tri:Tri ⟨M,szM,O,T,V,q,P⟩ F0 fw al s sz
 fin:Fin ⟨M,szM,O,T,V,q,P⟩ fw s
 pend:Pend ⟨M,szM,O,T,V,q,P⟩ fw s ks
 roots: ∀v,V v->Dn O fw v
end
structure qL (M:Mem) (szM:Int->Nat) (O:Nat->Bool) (T g F0:Int) (V:Int->Prop) (q:Int->Option Int) (P:List Int) (fw:Int->Option Int) (s:Sp) (sz:Int->Nat) (o gd:Int) (q':Int->Option Int) (P':List Int) (fw':Int->Option Int) (al':List Int) (s2:Sp) (sz':Int->Nat) (ks2:List (Int×Value)):Prop where
 on:On M szM O T g F0 (λv=>v=o\/V v) q' P' fw' al' s2 sz' ks2
 le:Le fw fw'
 heads:dX s.mem s2.mem
 cf:s2.cf=s.cf
 szo: ∀y,sz y≠0->sz' y=sz y
 qz: ∀y,q y≠none->q' y≠none
 how:(¬(s.mem.typ (Fw O fw gd)=10/\s.mem.len (Fw O fw gd)=2)/\q'=q/\P'=P/\ ∀x,s.mem.used x->O (x / 64).toNat=false->s2.mem.get x=s.mem.get x)\/
  ((s.mem.typ (Fw O fw gd)=10/\s.mem.len (Fw O fw gd)=2)/\ ∃p,P'=p::P/\ ¬s.mem.used p/\ ¬s.mem.used (p+1)/\ ∀x,(s.mem.used x/\O (x / 64).toNat=false)\/x=p\/x=p+1->s2.mem.get x=jJ s.mem (Fw O fw gd) (Fw O fw' o) p x)
 qn: ∀y,q' y≠none->q y≠none\/(∃p,P'=p::P/\(y=p\/y=p+1))\/y=Fw O fw gd / 8+2\/y=(if jh (s.mem.get (Fw O fw gd / 8+2))then s.mem.get (Fw O fw gd / 8+2) / 8+1 else Fw O fw gd / 8+1)
theorem On.ready{M:Mem}{j:Int->Nat}{O:Nat->Bool}{T g F0:Int}{V:Int->Prop}{q:Int->Option Int}{P:List Int}{fw:Int->Option Int}{al:List Int}{s:Sp}{sz:Int->Nat}{ks:List (Int×Value)}(h:On M j O T g F0 V q P fw al s sz ks)
  {o d:Int} (ag:aC o) (af:Good M j o) (b3:isTag o) (ae:aC d) (ac:Good M j d) (hr:reachedB O s.mem d=true) (a1: ∀Z:TZ,Z.m=M->Z.O=O->2*((Z.yk 0:Int)+Z.yk 1+Z.yk 2+Z.yk 3)+8+(((P.length+1) / 32:Nat):Int)<=F0)
  {s2:Sp} {ai:List (Int×Value)} (hd:cJ O T (jX O T s (o,d)) ks s2 ai) (ap:eZ O T s2 ai):
  ∃q' P' K Y a4,qL M j O T g F0 V q P fw s sz o d q' P' K Y s2 a4 ai:=by
 obtain⟨S,t,f,p,r⟩:=h
 have ab:Dn O fw d:=by
  have:=t.reachedB S ae ac
  rw[this]at hr
  exact ip.1 hr
 have w:aO ⟨M,j,O,T,λv=>v=o\/V v,q,P⟩ g F0:=S.more ag af
 have I:Tri ⟨M,j,O,T,λv=>v=o\/V v,q,P⟩ F0 fw al s sz:=t.more o
 have p1:Pend ⟨M,j,O,T,λv=>v=o\/V v,q,P⟩ fw s ks:=p.more o
 have f1:Fin ⟨M,j,O,T,λv=>v=o\/V v,q,P⟩ fw s:=f
 clear t p f S
 obtain⟨b,bm,aw,W⟩:=I.visit w ag af (λC=> .root (.inl rfl) C)
 have t2:=W.tri
 have A:=W.le
 have au:Dn O b d:=ab.mono A
 have b7:(s.visit O T o).1.visit O T d=((s.visit O T o).1,Fw O b d):=t2.visit_dn w ae ac au
 have b1:Fw O b d=Fw O fw d:=fQ ab A
 have b8:(s.visit O T o).2=Fw O b o:=W.val
 have e:jX O T s (o,d)=(s.visit O T o).1.putsG T (Fw O fw d) (Fw O b o):=by
  unfold jX
  show((s.visit O T o).1.visit O T d).1.putsG T ((s.visit O T o).1.visit O T d).2 (s.visit O T o).2=_
  rw[b7,b8,b1]
 rw[e]at hd
 have av:=p1.visited I W
 obtain⟨bl,a7,a3⟩:=I.goodFw w ae ac ab
 obtain⟨bn,bo,bp⟩:=t2.goodFw w ag af W.dn
 have bq:isTag (Fw O b o):=by
  have e:=pX (O:=O) (fw:=b) o
  unfold isTag at*;rw[e];exact b3
 have a8:(s.visit O T o).1.cf=s.cf:=Sp.visit_cf _ _ _ _
 have ah: ∀y,sz y≠0->aw y=sz y:=λy R=>I.sz_same rfl rfl (λ_ h=>h) t2 A R
 have a2: ∀y,sz y≠0->s.mem.used y:=λy R=>I.sz_used w R
 have n: ∀v,Good s.mem sz v->Good (s.visit O T o).1.mem aw v:=λv E=>⟨E.1,λht=>by
  obtain⟨g1,g2⟩:=E.2 ht
  rw[ah _ g1,(W.heads.l.kAt (a2 _ g1)).1]
  exact⟨g1,g2⟩⟩
 have B:=W.rest
 have a:=W.heads
 have k: ∀x,s.mem.used x->O (x / 64).toNat=false->s.mem.strong x->Done ⟨M,j,O,T,λv=>v=o\/V v,q,P⟩ b (s.visit O T o).1 x:=λx hu C hs=>W.done I hu C (f1 x hu C hs)
 have D: ∀v,(v=o\/V v)->Dn O b v:=λv E=>by
  rcases E with rfl | E
  ·exact W.dn
  ·exact(r v E).mono A
 generalize (s.visit O T o).1=X at*
 have J:(X.mem.typ (Fw O fw d)=10/\X.mem.len (Fw O fw d)=2) ↔ (s.mem.typ (Fw O fw d)=10/\s.mem.len (Fw O fw d)=2):=by
  constructor
  ·rintro⟨c1,c2⟩
   have G:=t2.gdOf w (n _ a7) a3 c1 c2
   have h3:=G.tag
   have hu:s.mem.used (Fw O fw d / 8):=a2 _ (a7.2 (by unfold isTag;omega)).1
   have C:=G.out
   have:=(I.gdAt w a7 a3 h3 (by rw[<-B _ hu C];exact G.head.2)).isObj I
   exact this.2
  ·rintro⟨c1,c2⟩
   have G:=I.gdOf w a7 a3 c1 c2
   have h3:=G.tag
   have hu:s.mem.used (Fw O fw d / 8):=a2 _ (a7.2 (by unfold isTag;omega)).1
   have:=(t2.gdAt w (n _ a7) a3 h3 (by rw[B _ hu G.out];exact G.head.2)).isObj t2
   exact this.2
 by_cases hG:X.mem.typ (Fw O fw d)=10/\X.mem.len (Fw O fw d)=2
 case neg=>
  have ep:X.putsG T (Fw O fw d) (Fw O b o)=X:=by unfold Sp.putsG;rw[if_neg hG]
  rw[ep]at hd
  obtain⟨K,Y,a4,L,a0,H⟩:=t2.pends w av hd ap
  refine⟨q,P,K,Y,a4,⟨w,L.tri,a0,H,λv E=>(D v E).mono L.le⟩,A.trans L.le,a.l.trans L.heads.l,(jW hd).trans a8,λy R=>?_,λy R=>R,.inl ⟨λq=>hG (J.2 q),rfl,rfl,λx hu C=>?_⟩,λy R=> .inl R⟩
  ·exact I.sz_same rfl rfl (λ_ h=>h) L.tri (A.trans L.le) R
  ·exact I.stay L.tri (A.trans L.le) (a.l.trans L.heads.l) hu C (λhs=>⟨f1 x hu C hs,L.done x (a.used hu) C (k x hu C hs)⟩)
 have G1:=I.gdOf w a7 a3 (J.1 hG).1 (J.1 hG).2
 have u2:s.mem.used (Fw O fw d / 8+2):=(G1.used 2 (by decide)).1
 have U:=G1.strong (i:=2) (by decide)
 have e2:Fw O fw d / 8+((2:Nat):Int)=Fw O fw d / 8+2:=rfl
 rw[e2]at U
 have F:X.mem.get (Fw O fw d / 8+2)=s.mem.get (Fw O fw d / 8+2):=B _ u2 U.2.2
 obtain⟨l1,l2,l3⟩:=I.doneWord w u2 U.2.2 U.2.1 (f1 _ u2 U.2.2 U.2.1)
 have aR:=λa6=>I.cdrAt w l2 l3 a6
 obtain⟨pa,q',bG,Q⟩:=t2.putsG w av bl (n _ a7) a3 bn bo bp bq (a1 _ rfl rfl) hG (λi hi=>by
   have u:=G1.used i (by omega)
   have st:=G1.strong (i:=i) (by omega)
   exact k _ u.1 st.2.2 st.2.1) (λa6=>by
   rw[F]at a6⊢
   obtain⟨c1,c2,c3,_,_⟩:=aR a6
   exact⟨n _ l2,l3,k _ c1 c2 c3⟩)
 have t3:=Q.tri
 have S3:aO ⟨M,j,O,T,λv=>v=o\/V v,q',pa::P⟩ g F0:=⟨w.ok,w.even,w.sound,w.old,w.rng,a1 ⟨M,j,O,T,λv=>v=o\/V v,q',pa::P⟩ rfl rfl,w.V⟩
 obtain⟨K,Y,a4,L,a0,H⟩:=t3.pends S3 Q.pend hd ap
 have b5: ∀x,s.mem.used x->(X.putsG T (Fw O fw d) (Fw O b o)).mem.used x:=λx z=>Q.heads.used (a.used z)
 have b2:Fw O K o=Fw O b o:=fQ W.dn L.le
 refine⟨q',pa::P,K,Y,a4,⟨S3,L.tri,a0,H,λv E=>(D v E).mono L.le⟩,A.trans L.le,(a.l.trans Q.heads).trans L.heads.l,((jW hd).trans Q.cf).trans a8,λy R=>?_,Q.qz,.inr ⟨J.1 hG,pa,rfl,λq=>Q.new.1 (a.used q),λq=>Q.new.2 (a.used q),λx z=>?_⟩,λy R=>by
  rcases Q.qn y R with q | q | q | q
  ·exact .inl q
  ·exact .inr (.inl ⟨pa,rfl,q⟩)
  ·exact .inr (.inr (.inl q))
  ·rw[F]at q;exact .inr (.inr (.inr q))⟩
 ·exact I.sz_same (Z':=⟨M,j,O,T,λv=>v=o\/V v,q',pa::P⟩) rfl rfl (λ_ h=>List.mem_cons_of_mem _ h) L.tri (A.trans L.le) R
 ·-- what stands there
  have b9:(X.putsG T (Fw O fw d) (Fw O b o)).mem.used x/\O (x / 64).toNat=false/\((X.putsG T (Fw O fw d) (Fw O b o)).mem.strong x->Done ⟨M,j,O,T,λv=>v=o\/V v,q',pa::P⟩ b (X.putsG T (Fw O fw d) (Fw O b o)) x):=by
   rcases z with⟨z,C⟩ | z
   ·refine⟨b5 x z,C,λhs=>Q.done x (a.used z) (k x z C ?_)⟩
    have hk:=(a.l.trans Q.heads).kAt z
    unfold Mem.strong at*;rw[<-hk.1];exact hs
   ·have N:=t3.pair pa (by simp)
    have h0:=N.used.1.1
    have he:=N.even
    have C:O (x / 64).toNat=false:=by
     have:=N.out
     rcases z with rfl | rfl
     ·exact this
     ·rw[show(pa+1) / 64=pa / 64 by omega];exact this
    have b6:(X.putsG T (Fw O fw d) (Fw O b o)).mem.used x:=by
     rcases z with rfl | rfl
     ·exact N.used.1
     ·exact N.used.2
    refine⟨b6,C,λhs v E=>?_⟩
    have hq:q' x≠none:=by
     rcases z with rfl | rfl
     ·exact N.q.1
     ·exact N.q.2
    rcases E with E | ⟨E,_⟩
    ·have Wr:=t3.qok x v E
     refine⟨λo'=>absurd o' Wr.young,?_⟩
     rw[eL Wr.young]
     rcases t3.val x v (.inl E)with c | ⟨_,_,c⟩
     ·exact c
     ·rw[c,eL Wr.young]
    ·exact absurd E hq
  obtain⟨x1,x2,x3⟩:=b9
  have b4:=t3.stay L.tri L.le L.heads.l x1 x2 (λhs=>⟨x3 hs,L.done x x1 x2 (x3 hs)⟩)
  rw[b4,Q.get x x1,b2]
  unfold jJ
  rw[F]
  refine ite_congr rfl (λ_=>rfl) (λn1=>ite_congr rfl (λ_=>rfl) (λn2=>ite_congr rfl (λ_=>rfl) (λn3=>ite_congr rfl (λ_=>rfl) (λn4=>?_))))
  rcases z with⟨z,C⟩ | z
  ·exact B x z C
  ·rcases z with z | z
   ·exact absurd z n1
   ·exact absurd z n2
theorem iS: ∀(l:List Int) {i:Nat},l[i]?=some 1->(l.set i 2).countP (λv=>decide (v=1))+1=l.countP (λv=>decide (v=1))
 | [],i,h=>by simp at h
 | a::l,0,h=>by
  simp only[List.getElem?_cons_zero,Option.some.injEq]at h
  subst h
  rw[List.set_cons_zero,List.countP_cons,List.countP_cons];simp
 | a::l,i+1,h=>by
  rw[List.getElem?_cons_succ]at h
  have:=iS l h
  rw[List.set_cons_succ,List.countP_cons,List.countP_cons];omega
theorem pY{l:List Int}{i j:Nat}{v:Int}(h:(l.set i 2)[j]?=some v):l[j]?=some v\/v=2:=by
 rw[List.getElem?_set]at h
 by_cases e:i=j
 ·rw[if_pos e]at h
  split at h
  ·exact .inr (Option.some.inj h).symm
  ·cases h
 ·rw[if_neg e]at h;exact .inl h
def mi(M:Mem)(szM:Int->Nat)(e:Int×Int):Prop:=(aC e.1/\Good M szM e.1)/\aC e.2/\Good M szM e.2
section
variable {M:Mem} {szM:Int->Nat} {O:Nat->Bool} {T g F0:Int} {V:Int->Prop} {q:Int->Option Int} {P:List Int} {fw:Int->Option Int} {al:List Int} {s:Sp} {sz:Int->Nat} {ks:List (Int×Value)}
theorem Rdy.lost{l:List (Int×Int)}{b a:List Int}{k:Sp}{f:List (Int×Value)}(R:Rdy O T l s ks b k f a):a.length=b.length/\ ∀(i:Nat) (v:Int),a[i]?=some v->b[i]?=some v\/v=2:=by
 induction R with
 | refl=>exact⟨rfl,λi v h=> .inl h⟩
 | @step x k w f c i e R r o u t p m d=>
  refine⟨by rw[List.length_set];exact d.1,λj v n=>?_⟩
  rcases pY n with h | h
  ·exact d.2 j v h
  ·exact .inr h
theorem On.rdy(h:On M szM O T g F0 V q P fw al s sz ks){l:List (Int×Int)}(hl: ∀e∈l,mi M szM e)(d: ∀Z:TZ,Z.m=M->Z.O=O->2*((Z.yk 0:Int)+Z.yk 1+Z.yk 2+Z.yk 3)+8+((l.length / 32:Nat):Int)<=F0)
  {lost c:List Int} (hc:P.length+lost.countP (λv=>decide (v=1))<=l.length) (D: ∀(i:Nat) (e:Int×Int),l[i]?=some e->lost[i]?=some 1->isTag e.1) {o:Sp} {F:List (Int×Value)} (R:Rdy O T l s ks lost o F c):
  ∃J q' I j t r,On M szM O T g F0 J q' I j t o r F/\Le fw j/\dX s.mem o.mem/\o.cf=s.cf/\I.length+c.countP (λv=>decide (v=1))<=l.length/\(∀v,V v->J v)/\(∀y,sz y≠0->r y=sz y):=by
 induction R with
 | refl=>exact⟨V,q,P,fw,al,sz,h,Le.refl _,dX.refl _,rfl,hc,λv E=>E,λ_ _=>rfl⟩
 | @step s1 o k1 F f i e R K k hr hf hd A ih=>
  obtain⟨V1,q1,N,a1,S,ab,h1,G,z,w,c1,v1,z1⟩:=ih
  have B:e∈l:=List.mem_of_getElem? K
  obtain⟨⟨U,X⟩,Y,e4⟩:=hl e B
  have a4:=iS f k
  obtain⟨q2,Q,x,u,H,W⟩:=h1.ready U X (D i e K ((R.lost.2 i 1 k).resolve_right (by decide))) Y e4 hr (λZ a b=>by
   have:=d Z a b
   have h3:(N.length+1) / 32<=l.length / 32:=Nat.div_le_div_right (by omega)
   omega) hd A
  refine⟨_,q2,Q,x,u,H,W.on,G.trans W.le,z.trans W.heads,W.cf.trans w,?_,λv E=> .inr (v1 v E),λy L=>?_⟩
  ·rcases W.how with⟨_,_,C,_⟩ | ⟨_,p,C,_⟩
   ·rw[C];omega
   ·rw[C,List.length_cons];omega
  ·have n:=z1 y L
   rw[W.szo y (by rw[n];exact L),n]
def outL(O:Nat->Bool)(fw:Int->Option Int)(l:List (Int×Int))(lost:List Int):List (Int×Int):=((l.zip lost).filter λe=>decide (e.2<2) && dnB O fw e.1.2).map λe=>(Fw O fw e.1.1,Fw O fw e.1.2)
theorem jY(h:On M szM O T g F0 V q P fw al s sz ks): ∀(d:List ((Int×Int)×Int)) (a:List (Int×Int)),(∀e∈d,mi M szM e.1/\(e.2<2->Dn O fw e.1.2->Dn O fw e.1.1))->
  d.foldl (eF O T) (s,a)=(s,a++(d.filter λe=>decide (e.2<2) && dnB O fw e.1.2).map λe=>(Fw O fw e.1.1,Fw O fw e.1.2))
 | [],a,_=>by simp
 | e::d,a,hz=>by
  obtain⟨⟨⟨p,r⟩,m,n⟩,k⟩:=hz e (by simp)
  have b:=h.tri.reachedB h.S m n
  have b:reachedB O s.mem e.1.2=dnB O fw e.1.2:=b
  have o:(decide (e.2<2) && dnB O fw e.1.2)=true ↔ e.2<2/\reachedB O s.mem e.1.2=true:=by rw[b,Bool.and_eq_true,decide_eq_true_eq]
  rw[List.foldl_cons]
  by_cases c:e.2<2/\reachedB O s.mem e.1.2=true
  ·have f:Dn O fw e.1.2:=ip.1 (by rw[<-b];exact c.2)
   have j:=k c.1 f
   have t:s.visit O T e.1.1=(s,Fw O fw e.1.1):=h.tri.visit_dn h.S p r j
   have u:s.visit O T e.1.2=(s,Fw O fw e.1.2):=h.tri.visit_dn h.S m n f
   have i:eF O T (s,a) e=(s,a++[(Fw O fw e.1.1,Fw O fw e.1.2)]):=by
    unfold eF
    rw[if_pos c]
    simp only[t,u]
   rw[i,jY h d _ (λx l=>hz x (by simp[l])),List.filter_cons,if_pos (o.2 c)]
   simp
  ·have i:eF O T (s,a) e=(s,a):=by unfold eF;rw[if_neg c]
   rw[i,jY h d _ (λx l=>hz x (by simp[l])),List.filter_cons,if_neg (λq=>c (o.1 q))]
theorem qM(h:On M szM O T g F0 V q P fw al s sz ks){l:List (Int×Int)}{a:List Int}(k: ∀e∈l,mi M szM e)(d: ∀(i:Nat) (e:Int×Int) (v:Int),l[i]?=some e->a[i]?=some v->v<2->Dn O fw e.2->Dn O fw e.1):outG O T s l a=(s,outL O fw l a):=by
 unfold outG outL
 rw[jY h (l.zip a) [] (λe f=>?_),List.nil_append]
 obtain⟨i,j,rfl⟩:=List.getElem_of_mem f
 rw[List.length_zip]at j
 rw[List.getElem_zip]
 exact⟨k _ (List.getElem_mem _),λb c=>d i _ _ (List.getElem?_eq_getElem (by omega)) (List.getElem?_eq_getElem (by omega)) b c⟩
theorem pj{m:Mem}{l:List (Int×Int)}{i:Nat}{e:Int×Int}(b:l[i]?=some e)(h:(fk O m l)[i]?=some 1):aF O e.1/\m.fwd e.1=none:=by
 unfold fk at h
 rw[List.getElem?_map,b]at h
 have h:(if reachedB O m e.1=true then(0:Int)else 1)=1:=Option.some.inj h
 by_cases a:reachedB O m e.1=true
 ·rw[if_pos a]at h;omega
 ·unfold reachedB at a
  rw[Bool.or_eq_true,decide_eq_true_eq]at a
  refine⟨Decidable.byContradiction λq=>a (.inl q),?_⟩
  cases c:m.fwd e.1 with
  | none=>rfl
  | some v=>exact absurd (.inr (by rw[c];rfl)) a
theorem On.settled(t:On M szM O T g F0 V q P fw al s sz ks){l:List (Int×Int)}(E: ∀e∈l,mi M szM e){y:Int->Prop}{G:Int->Option Int}{x:List Int}{c:Int->Option Int}{j:List Int}{f:Sp}{r:Int->Nat}{w:List (Int×Value)}{a:List Int}(h:On M szM O T g F0 y G x c j f r w)(F:Le fw c)
  (R:Rdy O T l s ks (fk O s.mem l) f w a) (hn: ∀i,i<l.length-> ¬Fit O f.mem l a i): ∀(i:Nat) (e:Int×Int) (v:Int),l[i]?=some e->a[i]?=some v->v<2->Dn O c e.2->Dn O c e.1:=by
 intro i e v d u I D
 obtain⟨_,H⟩:=R.lost
 have k:e∈l:=List.mem_of_getElem? d
 obtain⟨⟨z,A⟩,B,C⟩:=E e k
 have m:i<l.length:=by
  rcases Nat.lt_or_ge i l.length with q | q
  ·exact q
  ·rw[List.getElem?_eq_none q]at d;cases d
 have b:=(H i v u).resolve_right (by omega)
 unfold fk at b
 rw[List.getElem?_map,d]at b
 have b:(if reachedB O s.mem e.1=true then(0:Int)else 1)=v:=Option.some.inj b
 by_cases n:reachedB O s.mem e.1=true
 ·have o:reachedB O s.mem e.1=dnB O fw e.1:=t.tri.reachedB t.S z A
  rw[o]at n
  exact(ip.1 n).mono F
 ·rw[if_neg n]at b
  have p:reachedB O f.mem e.2=dnB O c e.2:=h.tri.reachedB h.S B C
  exact absurd ⟨e,d,by rw[u,b],by rw[p];exact ip.2 D⟩ (hn i m)
end
variable{a i:Sp}{b:Int}{d:Int->Nat}{g:List (Int×Value)}{j:Tr}
theorem km{T f:Int}{c:List Int}(I:Inv a d)(p:0<=f)(q:dW a b T f=0)(B:eR a.mem b T j)(A: ∀w∈c,aC w/\Good a.mem d w)
  (u:cJ j.old T (((a.fresh (bI b)).visL j.old T c).1.lookCards j.old T j.cards) j.seen i g) (o:eZ j.old T i g):
  ∃h m r,On a.mem d j.old T b a.mem.free (· ∈c) (λ_=>none) [] h m i r g/\((a.fresh (bI b)).visL j.old T c).2=c.map (Fw j.old h)/\i.cf=a.cf:=by
 obtain⟨S,F⟩:=I.static (V:=(· ∈c)) p q B (λv k=>A v k)
 obtain⟨z,y,E,G,_,D,s⟩:=Tri.visL S c (acc:=[]) F (λw C=>C)
 obtain⟨h,m,r,H,x,n,l,_⟩:=Tri.final S G I.marked B rfl rfl (λ_=>rfl) u o
 have e: ∀v,v∈c->Dn j.old h v:=λv k=>(s v k).mono x
 refine⟨h,m,r,⟨S,H,n,l,e⟩,?_,?_⟩
 ·refine Eq.trans D ?_
  rw[List.nil_append]
  exact List.map_congr_left λv k=>(fQ (s v k) x).symm
 ·have t:=jW u
  rw[Sp.lookCards_cf,Sp.visL_cf]at t
  exact t
theorem oP{g T c:Int}{n:Nat}(I:Inv a d)(hm:((n / 32:Nat):Int)<=c)(f:dW a g T c=0)(B:eR a.mem g T j): ∀Z:TZ,Z.m=a.mem->Z.O=j.old->2*((Z.yk 0:Int)+Z.yk 1+Z.yk 2+Z.yk 3)+8+((n / 32:Nat):Int)<=a.mem.free:=λZ e h=>by
 have b:=lm (by omega) f
 have i:=og (Z:=Z) (g:=g) (by rw[e];exact I.ok.mem) b.1.1 (λk hk=>by rw[e,h];exact B.old k hk)
 have l:=b.2
 rw[e]at i
 omega
theorem Rdy.nil{O:Nat->Bool}{d:List (Int×Value)}{lost c:List Int}(R:Rdy O b [] a g lost i d c):i=a/\d=g/\c=lost:=by
 induction R with
 | refl=>exact⟨rfl,rfl,rfl⟩
 | step h f l m k j e n=>simp at f
theorem mG{T l:Int}{c:List Int}{s:Sp}{H:List (Int×Value)}{f:List (Int×Int)}{lost:List Int}(I:Inv a d)(A:((f.length / 32:Nat):Int)<=l)(o:dW a b T l=0)(B:eR a.mem b T j)(Q: ∀w∈c,aC w/\Good a.mem d w)(r: ∀e∈f,mi a.mem d e)
  (N:cJ j.old T (((a.fresh (bI b)).visL j.old T c).1.lookCards j.old T j.cards) j.seen i g) (z:eZ j.old T i g) (R:Rdy j.old T f i g (fk j.old i.mem f) s H lost) (hn: ∀S,S<f.length-> ¬Fit j.old s.mem f lost S):
  ∃V q P m t E,On a.mem d j.old T b a.mem.free V q P m t s E H/\((a.fresh (bI b)).visL j.old T c).2=c.map (Fw j.old m)/\(∀w∈c,V w)/\(∀(S:Nat) (e:Int×Int) (v:Int),f[S]?=some e->lost[S]?=some v->v<2->Dn j.old m e.2->Dn j.old m e.1)/\s.cf=a.cf/\(f=[]->P=[]/\(∀x,q x=none)/\ ∀v,V v->v∈c):=by
 obtain⟨y,u,F,n,K,G⟩:=km I (by omega) o B Q N z
 by_cases k:f=[]
 ·subst k
  obtain⟨rfl,rfl,rfl⟩:=R.nil
  exact⟨_,_,_,y,u,F,n,K,λw D=>D,λS e v r=>by simp at r,G,λ_=>⟨rfl,λ_=>rfl,λv C=>C⟩⟩
 obtain⟨V,q,P,m,t,E,p,J,O,L,_,M,_⟩:=n.rdy r (oP I A o B) (lost:=fk j.old i.mem f) (by
  have:(fk j.old i.mem f).countP (λv=>decide (v=1))<=(fk j.old i.mem f).length:=List.countP_le_length
  unfold fk at this⊢
  rw[List.length_map]at this
  simpa using this) (λS e n p=>iH (pj n p).1) R
 refine⟨V,q,P,m,t,E,p,?_,λw D=>M w D,n.settled r p J R hn,L.trans G,λh=>absurd h k⟩
 rw[K]
 exact List.map_congr_left λv C=>(fQ (n.roots v C) J).symm
def EnAt(H:zV)(B:zW)(l:List (Int×Int)):Prop:= ∀i (h:i<l.length),∃a,B=some a/\aU H (a.add (i*2)) 0 [vu l[i].1,vu l[i].2]
theorem EnAt.keep{S:List Nat}{H d:zV}{B:zW}{l:List (Int×Int)}(h:EnAt H B l)(f:Fr S H d)(e: ∀j∈blks B,j ∉ S):EnAt d B l:=λi g=>by
 obtain⟨a,rfl,k⟩:=h i g
 refine⟨a,rfl,f.rowAt ?_ k⟩
 have:(a.add (i*2)).block=a.block:=by unfold Addr.add;split<;>rfl
 rw[this];exact e _ (by simp)
theorem EnAt.ext{H a:zV}{B:zW}{l:List (Int×Int)}(h:EnAt H B l)(e:Ext H a):EnAt a B l:=h.keep (S:=[]) e.fr (λ_ _=>by simp)
def evs(l:List (Int×Int)):List Value:=l.flatMap λe=> [vu e.1,vu e.2]
theorem np(l:List (Int×Int))(e:Int×Int):evs (l++[e])=evs l++[vu e.1,vu e.2]:=by unfold evs;rw[List.flatMap_append];rfl
theorem Own.entries{H:zV}{T:TypeId}{B:zW}{n c:Nat}{l:List (Int×Int)}(h:Own H T 2 B n c (evs l)):EnAt H B l:=λi g=>by
 obtain⟨a,d,_,j⟩:=Own.elem (f:=λe:Int×Int=> [Value.int .u64 e.1,vu e.2]) h (λ_=>rfl) (by decide) g
 exact⟨a,d,j⟩
def pZ(v:Value):Bool:=match v with | .int _ n=>decide (n=1) | _=>false
def lr(A:zV)(c:Nat):Nat:=match A[c]? with | some (Obj.cells cs _ _)=>cs.toList.countP pZ | _=>0
theorem p8(l:List Int):(ivs l).countP pZ=l.countP (λv=>decide (v=1)):=by
 unfold ivs
 rw[List.countP_map];rfl
theorem Own.ones{A:zV}{T:TypeId}{c n:Nat}{l:List Int}(h:Own A T 1 (some ⟨c,0,none⟩) n n (ivs l)):lr A c=l.countP (λv=>decide (v=1)):=by
 obtain⟨_,d,a,g,_,f,e⟩:=h
 unfold lr
 have a:A[c]?=some (.cells d T (0,0)):=a
 rw[a]
 show d.toList.countP pZ=_
 rw[<-p8]
 congr 1
 refine List.ext_getElem? λj=>?_
 rw[Array.getElem?_toList]
 rcases Nat.lt_or_ge j (n*1)with q | q
 ·exact e j q
 ·rw[Array.getElem?_eq_none (by omega),List.getElem?_eq_none (by omega)]
theorem qN(l:List Int)(i:Nat)(v:Int):(ivs l).set i (vi v)=ivs (l.set i v):=by unfold ivs;rw[List.map_set]
theorem qO{l:List Int}{i:Nat}{v:Int}(h:l[i]?=some v):(ivs l)[i]?=some (vi v):=by unfold ivs;rw[List.getElem?_map,h];rfl
theorem p9(n:Nat):List.replicate n (Value.int .i64 0)=ivs (List.replicate n 0):=by unfold ivs;rw[List.map_replicate]
def fR(L:List Int)(k:Nat):List Int:=L.take k++List.replicate (L.length-k) 0
theorem nq(L:List Int){k:Nat}(h:k<=L.length):(fR L k).length=L.length:=by unfold fR;rw[List.length_append,List.length_take,List.length_replicate];omega
theorem mH(L:List Int){k:Nat}(h:k<L.length):fR L (k+1)=(fR L k).set k L[k]:=by
 refine List.ext_getElem? λj=>?_
 unfold fR
 rw[List.getElem?_set]
 by_cases e:k=j
 ·subst e
  rw[if_pos rfl,if_pos (by rw[List.length_append,List.length_take,List.length_replicate];omega),List.getElem?_append_left (by rw[List.length_take];omega),List.getElem?_take,if_pos (by omega),List.getElem?_eq_getElem h]
 ·rw[if_neg e]
  rcases Nat.lt_or_ge j k with q | q
  ·rw[List.getElem?_append_left (by rw[List.length_take];omega),List.getElem?_append_left (by rw[List.length_take];omega),List.getElem?_take,List.getElem?_take,if_pos (by omega),if_pos q]
  ·rw[List.getElem?_append_right (by rw[List.length_take];omega),List.getElem?_append_right (by rw[List.length_take];omega),List.length_take,List.length_take,List.getElem?_replicate,List.getElem?_replicate]
   have:(j-min (k+1) L.length<L.length-(k+1)) ↔ (j-min k L.length<L.length-k):=by omega
   simp only[this]
theorem oh(L:List Int){k:Nat}(h:k<L.length):(fR L k)[k]?=some 0:=by
 unfold fR
 rw[List.getElem?_append_right (by rw[List.length_take];omega),List.length_take,List.getElem?_replicate,if_pos (by omega)]
theorem nr(L:List Int):fR L L.length=L:=by unfold fR;rw[List.take_length,Nat.sub_self];simp
theorem qb{l:List Int}{k:Nat}{v:Int}(h:l[k]?=some v):l.set k v=l:=by
 refine List.ext_getElem? λj=>?_
 rw[List.getElem?_set]
 by_cases e:k=j
 ·subst e
  rw[if_pos rfl,h]
  split
  ·rfl
  ·rename_i q;rw[List.getElem?_eq_none (by omega)]at h;cases h
 ·rw[if_neg e]
structure GdL (H:zV) (b:Blk) (x:Hp) (q:TB) (t:Tr) (c c2 c3 c4:Nat) (lB:zW) (lC:Nat) (l:List (Int×Int)) (lost:List Int) (A:zV):Prop where
 tg:Tg A b x q t
 g0:A[c]?=some (.cells #[vp (some ⟨q.t,0,none⟩)] 37 (0,0))
 g2:A[c2]?=some (.cells #[vs lB l.length lC] 31 (0,0))
 g4:A[c4]?=some (.cells #[vs (some ⟨c3,0,none⟩) l.length l.length] 75 (0,0))
 g3:Own A 3 1 (some ⟨c3,0,none⟩) l.length l.length (ivs lost)
 row:EnAt A lB l
 fr:Fr (q.s::spB b) H A
 new:H.size<=c/\H.size<=c2/\H.size<=c3/\H.size<=c4/\c≠c3/\c2≠c3/\c4≠c3
 lb: ∀j∈blks lB,j<H.size/\j ∉ b.all/\j ∉ q.all
 all: ∀i,i∈b.all\/i∈q.all->i<H.size
 len:lost.length=l.length
section
variable {H A A':zV} {b:Blk} {x:Hp} {q:TB} {t:Tr} {c c2 c3 c4:Nat} {lB:zW} {lC:Nat} {l:List (Int×Int)} {lost:List Int}
theorem GdL.ext(h:GdL H b x q t c c2 c3 c4 lB lC l lost A)(e:Ext A A'):GdL H b x q t c c2 c3 c4 lB lC l lost A':=
 ⟨h.tg.grow e,e.get h.g0,e.get h.g2,e.get h.g4,h.g3.ext e,h.row.ext e,h.fr.trans e.fr,h.new,h.lb,h.all,h.len⟩
theorem GdL.small(h:GdL H b x q t c c2 c3 c4 lB lC l lost A): ∀i∈q.s::spB b,i<H.size:=λi d=>by
 rcases List.mem_cons.1 d with a | a
 ·exact h.all i (.inr (by rw[a];simp[TB.all]))
 ·exact h.all i (.inl (eY a))
theorem GdL.go{i:Hp}{g:Tr}(h:GdL H b x q t c c2 c3 c4 lB lC l lost A)(T:Tg A' b i q g)(f:Fr (q.s::spB b) A A'):GdL H b i q g c c2 c3 c4 lB lC l lost A':=by
 obtain⟨o,p,r,u,v,w,y⟩:=h.new
 have k:=h.small
 have no: ∀j,H.size<=j->j ∉ q.s::spB b:=λj a d=>by have:=k j d;omega
 refine⟨T,f.get (no _ o) h.g0,f.get (no _ p) h.g2,f.get (no _ u) h.g4,h.g3.keep f (λj a=>by simp at a;rw[a];exact no _ r),h.row.keep f (λj a d=>?_),h.fr.trans f,h.new,h.lb,h.all,h.len⟩
 obtain⟨_,m,n⟩:=h.lb j a
 rcases List.mem_cons.1 d with e | e
 ·exact n (by rw[e];simp[TB.all])
 ·exact m (eY e)
theorem GdL.mark(h:GdL H b x q t c c2 c3 c4 lB lC l lost A){i:Nat}(a:i<l.length)(v:Int):aM A ((Addr.mk c3 0 none).add (i*1)) 0 1/\ ∀A',A'=aP A ((Addr.mk c3 0 none).add (i*1)) [vi v] 0->GdL H b x q t c c2 c3 c4 lB lC l (lost.set i v) A'/\Fr [c3] A A':=by
 obtain⟨p,r,s,u,w,y,z⟩:=h.new
 obtain⟨k,m⟩:=h.g3.put a (vi v)
 rw[Nat.mul_one]
 refine⟨k,λA' e=>?_⟩
 obtain⟨o,f⟩:=m A' e
 have f:Fr [c3] A A':=f
 rw[qN]at o
 refine⟨⟨h.tg.stay f (λj d g=>by simp at d;have:=h.all j (.inl g);omega) (λj d g=>by simp at d;have:=h.all j (.inr g);omega),f.get (by simp;omega) h.g0,f.get (by simp;omega) h.g2,f.get (by simp;omega) h.g4,o,h.row.keep f (λj d a=>?_),h.fr.trans' f (λi a _=>a) (λi a n=>by simp at a;omega),h.new,h.lb,h.all,by rw[List.length_set];exact h.len⟩,f⟩
 have:=(h.lb j d).1
 simp at a;omega
theorem GdL.atMark(h:GdL H b x q t c c2 c3 c4 lB lC l lost A){i:Nat}{v:Int}(f:lost[i]?=some v):hat A ((Addr.mk c3 0 none).add (i*1))=some (vi v):=by
 obtain⟨a,d,e⟩:=h.g3.at (qO f)
 cases d
 rw[Nat.mul_one];exact e
theorem lu(h:t.over=false)(m:Mem)(w:Int):(decide (¬(t.over=false/\aF t.old w)) || (m.fwd w).isSome)=reachedB t.old m w:=by
 unfold reachedB
 by_cases o:aF t.old w
 ·rw[zQ (show ¬ ¬(t.over=false/\aF t.old w)from λq=>q ⟨h,o⟩),zQ (show ¬ ¬aF t.old w from λq=>q o)]
 ·rw[zX (show ¬(t.over=false/\aF t.old w)from λq=>o q.2),zX (show ¬aF t.old w from o)]
theorem rE(S:GdL H b x q t c c2 c3 c4 lB lC l lost A){i:Nat}{e:Int×Int}{h:Int}(g:l[i]?=some e)(j:lost[i]?=some h)(r:aC e.2):
  cO.C (i:Int) (some (Addr.mk c4 0 none)) (some (Addr.mk c 0 none)) (some (Addr.mk c2 0 none)) A (λv A'=>v=.bool (decide (h=1) && reachedB t.old x.sp.mem e.2)/\Ext A A'):=by
 refine HC.via λR m=>cO.link ?_
 unfold cO.pt
 have o:i<l.length:=by
  rcases Nat.lt_or_ge i l.length with q | q
  ·exact q
  ·rw[List.getElem?_eq_none q]at g;cases g
 have n:(0:Int)<=(i:Int)/\(i:Int)< (l.length:Int):=by omega
 have k:Int.toNat (i:Int)=i:=by omega
 refine⟨_,rfl,_,_,_,by rw[aH S.g4];rfl,_,rfl,n,h,by rw[k];exact S.atMark j,?_⟩
 by_cases f:h=1
 ·rw[if_pos f]
  obtain⟨a,p,d⟩:=S.row i o
  have d:=d.2.1
  rw[List.getElem?_eq_getElem o]at g
  cases g
  refine⟨_,rfl,_,by rw[aH S.g0];rfl,_,rfl,_,_,_,by rw[aH S.g2];rfl,a,p,n,l[i].2,by
   rw[k]
   rw[Nat.zero_add]at d;exact d,HC.mono (fP S.tg.toTc r) ?_⟩
  rintro _ A' ⟨rfl,e⟩
  exact⟨_,rfl,m _ _ ⟨by rw[zX f,Bool.true_and,lu S.tg.on],e⟩⟩
 ·rw[if_neg f]
  exact m _ _ ⟨by rw[zQ f,Bool.false_and],Ext.refl _⟩
end
set_option maxRecDepth 100000 in
set_option maxHeartbeats 2000000 in
theorem lK{H:zV}{b:Blk}{x:Hp}{q:TB}{t:Tr}{lB:zW}{lC:Nat}{l:List (Int×Int)}(T:Tg H b x q t)(cR:dE t.seen)(cY:0<=t.tgt)(bu:EnAt H lB l)(hw: ∀e∈l,aC e.1/\aC e.2)(cN: ∀j∈blks lB,j<H.size/\j ∉ b.all/\j ∉ q.all)(hl:l.length<=1000000):
  dp.C (some ⟨q.t,0,none⟩) lB l.length lC H (λv H'=> ∃(p:Sp) (V:List (Int×Value)) (d:List Int) (B:zW) (df:Nat),Rdy t.old t.tgt l x.sp t.seen (fk t.old x.sp.mem l) p V d/\(∀i,i<l.length-> ¬Fit t.old p.mem l d i)/\
   v=.slice B (outG t.old t.tgt p l d).2.length df/\Own H' 36 2 B (outG t.old t.tgt p l d).2.length df (evs (outG t.old t.tgt p l d).2)/\(∀j∈blks B,H.size<=j)/\Tg H' b {x with sp:=(outG t.old t.tgt p l d).1} q {t with seen:=V}/\dE V/\Fr (q.s::spB b) H H'):=by
 refine HC.via λR hR=>dp.link ?_
 unfold dp.pt zY
 intro c H1 hc ap c2 H2 cC au
 have e1:Ext H H1:=Ext.push' ap
 have e2:Ext H1 H2:=Ext.push' au
 have z1:H1.size=H.size+1:=by rw[ap];simp
 have z2:H2.size=H1.size+1:=by rw[au];simp
 have k0:=e2.get (aL hc ap)
 have k2:=aL cC au
 refine⟨_,by rw[aH k0];rfl,HC.mono (iI (T.grow (e1.trans e2)).toTc) ?_⟩
 rintro _ HH ⟨rfl,cy⟩
 obtain rfl:H2=HH:=cy.symm
 refine⟨_,rfl,?_⟩
 rw[if_neg (by rw[T.on];decide)]
 refine⟨lB,l.length,lC,by rw[aH k2];rfl,by omega,by omega,by omega,by omega,λc3 H5 cD a5 c4 H6 cE bh=>?_⟩
 have eu:Ext H2 H5:=Ext.push' a5
 have z5:H5.size=H2.size+1:=by rw[a5];simp
 have z6:H6.size=H5.size+1:=by rw[bh];simp
 have en:Int.toNat (l.length:Int)=l.length:=by omega
 rw[en]at a5⊢
 obtain⟨q6,s6⟩:=eU (A3:=aP H6 (Addr.mk c4 0 none) [vs (some (Addr.mk c3 0 none)) l.length l.length] 0) cE bh [vs (some (Addr.mk c3 0 none)) l.length l.length] rfl
 refine⟨q6,λH7 cv=>?_⟩
 have bi:H7=aP H6 (Addr.mk c4 0 none) [vs (some (Addr.mk c3 0 none)) l.length l.length] 0:=cv
 obtain⟨k4,et⟩:=s6 rfl
 rw[<-bi]at k4 et
 have k3:=pN cD a5
 rw[p9]at k3
 have E7:=((e1.trans e2).trans eu).trans et
 have ao:=eu.trans et
 have cB: ∀i,i∈b.all\/i∈q.all->i<H.size:=λi F=>T.lt F
 have a6:(fk t.old x.sp.mem l).length=l.length:=by unfold fk;rw[List.length_map]
 have cz: ∀(k:Nat) (h:k<l.length),(fk t.old x.sp.mem l)[k]'(by rw[a6];exact h)=if reachedB t.old x.sp.mem l[k].1=true then 0 else 1:=λk h=>by unfold fk;rw[List.getElem_map]
 have S0:GdL H b x q t c c2 c3 c4 lB lC l (fR (fk t.old x.sp.mem l) 0) H7:=⟨T.grow E7,ao.get k0,ao.get k2,k4,by
   unfold fR;rw[List.take_zero,List.nil_append,Nat.sub_zero,a6];exact k3.ext et,bu.ext E7,E7.fr,by omega,cN,cB,by rw[nq _ (by omega)];exact a6⟩
 have cM: ∀{k:Nat} (h:k<l.length),l[k]?=some l[k]:=λh=>List.getElem?_eq_getElem h
 have ax: ∀{k:Nat} (h:k<l.length),aC l[k].1/\aC l[k].2:=λh=>hw _ (List.getElem_mem h)
 refine⟨lB,l.length,lC,by rw[aH (ao.get k2)];rfl,λi A=> ∃k:Nat,i=k/\k<=l.length/\GdL H b x q t c c2 c3 c4 lB lC l (fR (fk t.old x.sp.mem l) k) A,λi _=>(l.length-i).toNat,⟨0,rfl,by omega,S0⟩,?_⟩
 rintro _ H8 ⟨k,rfl,hk,S8⟩
 by_cases u:(k:Int)< (l.length:Int)
 ·rw[if_pos u]
  have m:k<l.length:=by omega
  have hd:((l.length:Int)-((k:Int)+1)).toNat< ((l.length:Int)-(k:Int)).toNat:=by omega
  rw[w64 (n:=(k:Int)+1) (by omega)]
  obtain⟨a,ha,hr⟩:=S8.row k m
  refine⟨a,ha,⟨by omega,u⟩,l[k].1,l[k].2,by rw[show Int.toNat (k:Int)=k by omega];exact hr,λde H9 cF cx=>?_⟩
  obtain⟨q9,s9⟩:=eU (A3:=aP H9 (Addr.mk de 0 none) [vu l[k].1,vu l[k].2] 0) cF cx [vu l[k].1,vu l[k].2] rfl
  refine⟨q9,λbN ba=>?_⟩
  obtain⟨k5,b7⟩:=s9 rfl
  rw[<-ba]at k5 b7
  have d1:bN[de]?=some (.cells #[vu l[k].1,vu l[k].2] 36 (0,0)):=k5
  have ag:=S8.ext b7
  refine⟨_,by rw[aH ag.g0];rfl,l[k].1,by rw[aH d1];rfl,HC.mono (fP ag.tg.toTc (ax m).1) ?_⟩
  rintro _ dA ⟨rfl,cm⟩
  refine⟨_,rfl,?_⟩
  rw[lu T.on]
  have ah:=ag.ext cm
  have U:=mH (fk t.old x.sp.mem l) (k:=k) (by omega)
  rw[cz k m]at U
  by_cases bs:reachedB t.old x.sp.mem l[k].1=true
  ·rw[if_pos bs]at U⊢
   rw[qb (oh _ (by omega))]at U
   exact⟨⟨k+1,by omega,by omega,by rw[U];exact ah⟩,hd⟩
  ·rw[if_neg bs]at U⊢
   refine⟨_,_,_,by rw[aH ah.g4];rfl,_,rfl,⟨by omega,u⟩,?_⟩
   rw[show Int.toNat (k:Int)=k by omega]
   obtain⟨p1,p2⟩:=ah.mark m 1
   refine⟨p1,λbO bb=>⟨⟨k+1,by omega,by omega,?_⟩,hd⟩⟩
   rw[U];exact(p2 bO bb).1
 rw[if_neg u]
 obtain rfl:k=l.length:=by omega
 rw[show fR (fk t.old x.sp.mem l) l.length=fk t.old x.sp.mem l by rw[<-a6];exact nr _]at S8
 refine⟨λA=> ∃(p:Sp) (V:List (Int×Value)) (d:List Int),Rdy t.old t.tgt l x.sp t.seen (fk t.old x.sp.mem l) p V d/\dE V/\GdL H b {x with sp:=p} q {t with seen:=V} c c2 c3 c4 lB lC l d A,λA=>lr A c3,⟨_,_,_,.refl,cR,S8⟩,?_⟩
 rintro bP ⟨p,V,d,bj,af,ai⟩
 have d4:=ai.g3.ones
 refine⟨lB,l.length,lC,by rw[aH ai.g2];rfl,λi A=> ∃k:Nat,i=k/\k<=l.length/\(∀j,j<k-> ¬Fit t.old p.mem l d j)/\GdL H b {x with sp:=p} q {t with seen:=V} c c2 c3 c4 lB lC l d A,λi _=>(l.length-i).toNat,⟨0,rfl,by omega,λj y=>by omega,ai⟩,?_⟩
 rintro _ X ⟨k,rfl,hk,aw,f⟩
 by_cases u:(k:Int)< (l.length:Int)
 ·rw[if_pos u]
  have m:k<l.length:=by omega
  have hd:((l.length:Int)-((k:Int)+1)).toNat< ((l.length:Int)-(k:Int)).toNat:=by omega
  rw[w64 (n:=(k:Int)+1) (by omega)]
  obtain⟨a,ha,hr⟩:=f.row k m
  obtain⟨lv,Q⟩: ∃lv,d[k]?=some lv:=⟨_,List.getElem?_eq_getElem (by have:=f.len;omega)⟩
  have z:=ax m
  have av:=cM m
  generalize l[k]=e at*
  refine⟨a,ha,⟨by omega,u⟩,e.1,e.2,by rw[show Int.toNat (k:Int)=k by omega];exact hr,λer bQ cG bc=>?_⟩
  obtain⟨d7,d9⟩:=eU (A3:=aP bQ (Addr.mk er 0 none) [vu e.1,vu e.2] 0) cG bc [vu e.1,vu e.2] rfl
  refine⟨d7,λbR bd=>?_⟩
  obtain⟨k6,b8⟩:=d9 rfl
  rw[<-bd]at k6 b8
  have d2:bR[er]?=some (.cells #[vu e.1,vu e.2] 36 (0,0)):=k6
  have b4:=f.ext b8
  refine HC.mono (rE b4 av Q z.2) ?_
  rintro _ dB ⟨rfl,b9⟩
  refine⟨_,rfl,?_⟩
  have aj:=b4.ext b9
  by_cases E:(decide (lv=1) && reachedB t.old p.mem e.2)=true
  case neg=>
   rw[if_neg E]
   refine⟨⟨k+1,by omega,by omega,λj y=>?_,aj⟩,hd⟩
   rcases Nat.lt_or_ge j k with r | r
   ·exact aw j r
   ·obtain rfl:j=k:=by omega
    rintro⟨e',f1,f2,f3⟩
    rw[av]at f1;rw[Q]at f2
    cases f1;cases f2
    exact E (by rw[f3];rfl)
  rw[if_pos E]
  rw[Bool.and_eq_true,decide_eq_true_eq]at E
  obtain⟨rfl,S⟩:=E
  refine⟨_,_,_,by rw[aH aj.g4];rfl,_,rfl,⟨by omega,u⟩,?_⟩
  rw[show Int.toNat (k:Int)=k by omega]
  obtain⟨p1,p2⟩:=aj.mark m 2
  refine⟨p1,λaY be=>?_⟩
  obtain⟨Y,co⟩:=p2 aY be
  have cS:H.size<=X.size:=f.fr.size
  have l3:c3<X.size:=f.g3.lt c3 (by simp)
  have bm:er≠c3:=by omega
  have a4:=co.get (by simp;exact bm) (b9.get d2)
  have a7:=Y.small
  have cj:er ∉ q.s::spB b:=λh=>by have:=a7 er h;omega
  refine⟨_,by rw[aH Y.g0];rfl,e.1,by rw[aH a4];rfl,HC.mono (ef Y.tg z.1) ?_⟩
  rintro _ bS ⟨rfl,cd,cp⟩
  have a9:Fr (q.s::spB b) aY bS:=cp.mono (λi F _=>List.mem_cons_of_mem _ F)
  have Z:=Y.go cd a9
  have ay:=a9.get cj a4
  refine⟨_,rfl,_,by rw[aH Z.g0];rfl,_,by rw[aH Z.g0];rfl,e.2,jD ay 1,HC.mono (ef Z.tg z.2) ?_⟩
  rintro _ dC ⟨rfl,ce,cq⟩
  have ak:=Z.go ce (cq.mono (λi F _=>List.mem_cons_of_mem _ F))
  refine⟨_,rfl,gS ak.g0,HC.mono (pW ak.tg (Sp.visit_word Z.tg.ok z.2) (Sp.visit_word Y.tg.ok z.1)) ?_⟩
  rintro _ dD ⟨cf,cr⟩
  have al:=ak.go cf (cr.mono (λi F _=>List.mem_cons_of_mem _ F))
  refine⟨_,by rw[aH al.g0];rfl,HC.mono (iF al.tg af cY) ?_⟩
  rintro _ bU ⟨s',d3,cK,cI,cg,bw,cs⟩
  have b5:=al.go cg cs
  refine⟨⟨s',d3,d.set k 2,.step bj av Q S aw cK cI,bw,b5⟩,?_⟩
  show lr bU c3<lr bP c3
  rw[b5.g3.ones,d4]
  have:=iS d Q
  omega
 rw[if_neg u]
 obtain rfl:k=l.length:=by omega
 refine⟨lB,l.length,lC,by rw[aH f.g2];rfl,λoB oN oC i A=> ∃k:Nat,i=k/\k<=l.length/\oN=((((l.zip d).take k).foldl (eF t.old t.tgt) (p,[])).2).length/\Own A 36 2 oB oN oC (evs (((l.zip d).take k).foldl (eF t.old t.tgt) (p,[])).2)/\(∀j∈blks oB,X.size<=j)/\oN<=k/\X.size<=A.size/\
   GdL H b {x with sp:=(((l.zip d).take k).foldl (eF t.old t.tgt) (p,[])).1} q {t with seen:=V} c c2 c3 c4 lB lC l d A,λ_ _ _ i _=>(l.length-i).toNat,⟨0,rfl,by omega,by rw[List.take_zero];rfl,by rw[List.take_zero];exact gF,λj y=>by simp at y,by omega,Nat.le_refl _,by rw[List.take_zero];exact f⟩,?_⟩
 rintro oB oN oC _ b1 ⟨k,rfl,hk,a3,ho,I,dl,zA,a0⟩
 have dR:(l.zip d).length=l.length:=by rw[List.length_zip];have:=f.len;omega
 by_cases L:(k:Int)< (l.length:Int)
 case neg=>
  rw[if_neg L]
  obtain rfl:k=l.length:=by omega
  have cQ:Own b1 36 2 oB oN oC (evs (outG t.old t.tgt p l d).2):=by
   unfold outG
   rw[List.take_of_length_le (by omega)]at ho;exact ho
  have bn:oN=(outG t.old t.tgt p l d).2.length:=by
   unfold outG
   rw[List.take_of_length_le (by omega)]at a3;exact a3
  have S':GdL H b {x with sp:=(outG t.old t.tgt p l d).1} q {t with seen:=V} c c2 c3 c4 lB lC l d b1:=by
   unfold outG
   rw[List.take_of_length_le (by omega)]at a0;exact a0
  have db:=f.fr.size
  exact hR _ _ ⟨p,V,d,oB,oC,bj,aw,by rw[bn],by rw[<-bn];exact cQ,λj y=>by have:=I j y;omega,S'.tg,af,S'.fr⟩
 rw[if_pos L]
 have m:k<l.length:=by omega
 have hd:((l.length:Int)-((k:Int)+1)).toNat< ((l.length:Int)-(k:Int)).toNat:=by omega
 rw[w64 (n:=(k:Int)+1) (by omega)]
 obtain⟨a,ha,hr⟩:=a0.row k m
 have cO:k<d.length:=by have:=f.len;omega
 have cZ:(l.zip d).take (k+1)=(l.zip d).take k++[(l[k],d[k])]:=by rw[List.take_succ_eq_append_getElem (by omega),List.getElem_zip]
 have w:((l.zip d).take (k+1)).foldl (eF t.old t.tgt) (p,[])=eF t.old t.tgt (((l.zip d).take k).foldl (eF t.old t.tgt) (p,[])) (l[k],d[k]):=by rw[cZ,List.foldl_append];rfl
 have Q:d[k]?=some d[k]:=List.getElem?_eq_getElem cO
 have z:=ax m
 generalize ((l.zip d).take k).foldl (eF t.old t.tgt) (p,[])=st at*
 generalize l[k]=e at*
 generalize d[k]=lv at*
 obtain⟨W,O⟩:=st
 refine⟨a,ha,⟨by omega,L⟩,e.1,e.2,by rw[show Int.toNat (k:Int)=k by omega];exact hr,λc7 bW cH bf=>?_⟩
 obtain⟨d8,da⟩:=eU (A3:=aP bW (Addr.mk c7 0 none) [vu e.1,vu e.2] 0) cH bf [vu e.1,vu e.2] rfl
 refine⟨d8,λbY bg=>?_⟩
 obtain⟨k7,P⟩:=da rfl
 rw[<-bg]at k7 P
 have bz:bY[c7]?=some (.cells #[vu e.1,vu e.2] 36 (0,0)):=k7
 have M:=a0.ext P
 have ac:=ho.ext P
 have ek:Int.toNat (k:Int)=k:=by omega
 refine⟨_,_,_,by rw[aH M.g4];rfl,_,rfl,⟨by omega,L⟩,lv,by rw[ek];exact M.atMark Q,?_⟩
 by_cases h2:lv<2
 case neg=>
  rw[if_neg h2]
  have o:eF t.old t.tgt (W,O) (e,lv)=(W,O):=by unfold eF;rw[if_neg (λq=>h2 q.1)]
  exact⟨⟨k+1,by omega,by omega,by rw[w,o];exact a3,by rw[w,o];exact ac,I,by omega,by have:=P.size;omega,by rw[w,o];exact M⟩,hd⟩
 rw[if_pos h2]
 refine⟨_,by rw[aH M.g0];rfl,e.2,jD bz 1,HC.mono (fP M.tg.toTc z.2) ?_⟩
 rintro _ bZ ⟨rfl,a1⟩
 refine⟨_,rfl,?_⟩
 rw[lu T.on]
 have N:=M.ext a1
 have ae:=ac.ext a1
 by_cases S:reachedB t.old W.mem e.2=true
 case neg=>
  rw[if_neg S]
  have o:eF t.old t.tgt (W,O) (e,lv)=(W,O):=by unfold eF;rw[if_neg (λq=>S q.2)]
  exact⟨⟨k+1,by omega,by omega,by rw[w,o];exact a3,by rw[w,o];exact ae,I,by omega,by have:=P.size;have:=a1.size;omega,by rw[w,o];exact N⟩,hd⟩
 rw[if_pos S]
 have o:eF t.old t.tgt (W,O) (e,lv)=(((W.visit t.old t.tgt e.1).1.visit t.old t.tgt e.2).1,O++[((W.visit t.old t.tgt e.1).2,((W.visit t.old t.tgt e.1).1.visit t.old t.tgt e.2).2)]):=by unfold eF;rw[if_pos ⟨h2,S⟩]
 have J:=a1.get bz
 refine⟨_,by rw[aH N.g0];rfl,e.1,by rw[aH J];rfl,_,by rw[aH N.g0];rfl,e.2,jD J 1,HC.mono (ef N.tg z.1) ?_⟩
 rintro _ b2 ⟨rfl,ch,ct⟩
 have K:Fr (q.s::spB b) bZ b2:=ct.mono (λi F _=>List.mem_cons_of_mem _ F)
 have am:=N.go ch K
 have a7:=N.small
 have db:=f.fr.size
 have e3:=a0.fr.size
 have ck:c7 ∉ q.s::spB b:=λh=>by have:=a7 c7 h;omega
 have az:=K.get ck J
 refine⟨_,rfl,gS am.g0,⟨jD az 1,trivial⟩,HC.mono (ef am.tg z.2) ?_⟩
 rintro _ b3 ⟨rfl,ci,cu⟩
 have a2:Fr (q.s::spB b) b2 b3:=cu.mono (λi F _=>List.mem_cons_of_mem _ F)
 have c9:=am.go ci a2
 refine⟨_,rfl,λeb c5 cA aa=>?_⟩
 have an:Ext b3 c5:=Ext.push' aa
 have g:=c9.ext an
 have bl: ∀j∈blks oB,j ∉ q.s::spB b:=λj y h=>by have:=a7 j h;have:=I j y;omega
 have bp:=((ae.keep K bl).keep a2 bl).ext an
 have e8:=g.fr.size
 have e7:=a2.size
 have e6:=K.size
 have e5:=a1.size
 have e4:=P.size
 have dz:=an.size
 refine eV (ys:=[vu (W.visit t.old t.tgt e.1).2,vu ((W.visit t.old t.tgt e.1).1.visit t.old t.tgt e.2).2]) bp (gS (aL cA aa)) rfl rfl rfl (by omega) ?_
 intro B' c' c6 bq D bo
 have G: ∀j∈blks oB,j≠c/\j≠c2/\j≠c3/\j≠c4/\j ∉ b.all/\j ∉ q.all/\j ∉ blks lB:=λj y=>by
  have dP:=I j y
  have l0:=bB f.g0
  have l2:=bB f.g2
  have l4:=bB f.g4
  have l3:c3<X.size:=f.g3.lt c3 (by simp)
  exact⟨by omega,by omega,by omega,by omega,λh=>by have:=f.all j (.inl h);omega,λh=>by have:=f.all j (.inr h);omega,λh=>by have:=(f.lb j h).1;omega⟩
 have cc:GdL H b {x with sp:=((W.visit t.old t.tgt e.1).1.visit t.old t.tgt e.2).1} q {t with seen:=V} c c2 c3 c4 lB lC l d c6:=
  ⟨g.tg.stay D (λj y=>(G j y).2.2.2.2.1) (λj y=>(G j y).2.2.2.2.2.1),D.get (λh=>(G _ h).1 rfl) g.g0,D.get (λh=>(G _ h).2.1 rfl) g.g2,D.get (λh=>(G _ h).2.2.2.1 rfl) g.g4,g.g3.keep D (λj y h=>(G j h).2.2.1 (by simpa using y)),g.row.keep D (λj y h=>(G j h).2.2.2.2.2.2 y),g.fr.trans' D (λi F _=>F) (λi F u=>by have:=I i F;omega),g.new,g.lb,g.all,g.len⟩
 refine⟨⟨k+1,by omega,by omega,by rw[w,o,List.length_append,a3];rfl,?_,λj y=>?_,by omega,by have:=D.size;omega,by rw[w,o];exact cc⟩,hd⟩
 ·rw[w,o,np];exact bq
 ·rcases bo j y with h | h
  ·exact I j h
  ·omega
variable{a:Int}
def aW(L:List (Int×Int)):Int:=match L with | []=>20 | e::_=>e.1
def fH:List (Int×Int)->Int
 | []=>20
 | [e]=>e.1
 | _::e::l=>fH (e::l)
structure QAt (m:Mem) (gd:Int) (L:List (Int×Int)):Prop where
 fld:m.fieldE gd 10 0=0/\m.fieldE gd 10 1=0
 f0:m.get (gd / 8+1)=aW L
 f1:m.get (gd / 8+2)=fH L
 el: ∀l1 e l2,L=l1++e::l2->m.isPair e.1/\aC e.1/\(m.used (e.1 / 8+0)/\m.used (e.1 / 8+1))/\m.get (e.1 / 8)=e.2/\m.get (e.1 / 8+1)=aW l2
 nd:(L.map Prod.fst).Nodup
theorem ns{m:Mem}{L:List (Int×Int)}(h: ∀e∈L,m.isPair e.1)(hn:L≠[]):aW L≠20:=λq=>by
 cases L with
 | nil=>exact hn rfl
 | cons e l=>
  have:=h e (by simp)
  have q:e.1=20:=q
  rw[q]at this
  rcases this.1 with r | r
  ·exact absurd r.2.1 (by decide)
  ·exact absurd r.2.1 (by decide)
theorem nt{m:Mem}{L:List (Int×Int)}(h: ∀e∈L,m.isPair e.1):aW L=20 ↔ L=[]:=by
 cases L with
 | nil=>exact⟨λ_=>rfl,λ_=>rfl⟩
 | cons e l=>
  have:=h e (by simp)
  refine⟨λq=>?_,λq=>by cases q⟩
  have q:e.1=20:=q
  rw[q]at this
  rcases this.1 with r | r
  ·exact absurd r.2.1 (by decide)
  ·exact absurd r.2.1 (by decide)
theorem gV: ∀(e:Int×Int) (l:List (Int×Int)),∃x∈e::l,fH (e::l)=x.1
 | e,[]=>⟨e,by simp,rfl⟩
 | e,f::l=>by
  obtain⟨x,a,h⟩:=gV f l
  exact⟨x,List.mem_cons_of_mem _ a,h⟩
theorem iX(c:List (Int×Int))(e:Int×Int)(a:List (Int×Int)):fH (c++e::a)=fH (e::a):=by
 induction c with
 | nil=>rfl
 | cons x l b=>
  rw[List.cons_append]
  cases h:l++e::a with
  | nil=>simp at h
  | cons y t=>rw[h]at b;exact b
theorem QAt.pair{m:Mem}{L:List (Int×Int)}(Q:QAt m a L): ∀e∈L,m.isPair e.1:=λe b=>by
 obtain⟨c,d,rfl⟩:=List.append_of_mem b
 exact(Q.el c e d rfl).1
theorem lx{m:Mem}{i:Int}(h:m.isPair a)(b:m.used (a / 8+i)):m.halfE a i=0:=by unfold Mem.halfE;rw[if_pos h,if_pos b]
set_option maxRecDepth 100000 in
theorem qP{H:zV}{b:Blk}{x:Hp}{L:List (Int×Int)}(V:View H (some ⟨b.h,0,none⟩) (some (b,x)))(s:aC a)(Q:QAt x.sp.mem a L)(hL:L.length<=100000):
  bP.C (some ⟨b.h,0,none⟩) a H (λv S=> ∃B c,v=.tuple #[vs B L.length c,vT]/\Own S 28 1 B L.length c (wvs (L.map Prod.snd))/\(∀j∈blks B,H.size<=j)/\Ext H S):=by
 refine HC.via λR hR=>bP.link ?_
 unfold bP.pt
 have hm: ∀y:Hp,mof (some (b,y))=y.sp.mem:=λ_=>rfl
 obtain⟨g0,g1⟩:=Q.fld
 have N:=Q.pair
 refine HC.mono (iV V s (by decide)) ?_
 rw[hm,g0,if_pos rfl,Int.add_zero,Q.f0]
 rintro _ H1 ⟨rfl,U⟩
 refine⟨_,_,rfl,?_⟩
 refine HC.mono (iV (V.ext U) s (by decide)) ?_
 rw[hm,g1,if_pos rfl,show a / 8+1+1=a / 8+2 by omega,Q.f1]
 rintro _ H2 ⟨rfl,e2⟩
 have F:=U.trans e2
 refine⟨_,_,rfl,?_⟩
 have h0:(aW L==20)=(fH L==20):=by
  cases L with
  | nil=>rfl
  | cons e l=>
   obtain⟨y,D,J⟩:=gV e l
   have O:=ns N (by simp)
   have P:fH (e::l)≠20:=λq=>by
    rw[J]at q
    have:=(nt (m:=x.sp.mem) (L:=[y]) (by simp;exact N y D)).1 q
    cases this
   rw[beq_eq_false_iff_ne.2 O,beq_eq_false_iff_ne.2 P]
 rw[if_neg (by rw[h0];simp)]
 refine⟨λB n c p A=> ∃g d,L=g++d/\p=aW d/\n=g.length/\Own A 28 1 B n c (wvs (g.map Prod.snd))/\(∀j∈blks B,H.size<=j)/\Ext H A,λ_ n _ _ _=>L.length-n,⟨[],L,rfl,rfl,rfl,gF,λj t=>by simp at t,F⟩,?_⟩
 rintro B n c p A ⟨g,d,i,rfl,rfl,X,G,o⟩
 have z: ∀e∈d,x.sp.mem.isPair e.1:=λe he=>N e (by rw[i];exact List.mem_append_right _ he)
 by_cases E:aW d=20
 ·rw[if_pos E]
  have:=(nt z).1 E
  subst this
  rw[List.append_nil]at i
  subst i
  exact hR _ _ ⟨B,c,rfl,X,G,o⟩
 rw[if_neg E]
 cases d with
 | nil=>exact absurd rfl E
 | cons e d=>
  obtain⟨Y,Z,⟨u1,u2⟩,k3,k4⟩:=Q.el g e d i
  rw[show aW (e::d)=e.1 from rfl]
  refine HC.mono (iz (V.ext o) Z) ?_
  rw[hm,lx Y u1,if_pos rfl,Int.add_zero,k3]
  rintro _ A1 ⟨rfl,T⟩
  refine⟨_,_,rfl,?_⟩
  refine HC.mono (o7 (V.ext (o.trans T)) Z) ?_
  rw[hm,lx Y u2,if_pos rfl,k4]
  rintro _ A2 ⟨rfl,a2⟩
  refine⟨_,_,rfl,?_⟩
  have W:L.length=g.length+(d.length+1):=by rw[i,List.length_append,List.length_cons]
  have K:(aW d==20)=(e.1==fH L):=by
   rw[i,iX]
   cases d with
   | nil=>show(20==20)=(e.1==e.1);simp
   | cons f d=>
    have O:=ns (m:=x.sp.mem) (L:=f::d) (λy D=>z y (List.mem_cons_of_mem _ D)) (by simp)
    obtain⟨y,D,J⟩:=gV f d
    have P:e.1≠fH (e::f::d):=λq=>by
     have q:e.1=fH (f::d):=q
     have u:=Q.nd
     rw[i,List.map_append,List.map_cons]at u
     have:=(List.nodup_append.1 u).2.1
     rw[List.nodup_cons]at this
     exact this.1 (by rw[q,J];exact List.mem_map_of_mem D)
    rw[beq_eq_false_iff_ne.2 O,beq_eq_false_iff_ne.2 P]
  rw[if_neg (by
   rw[show aW d=aW d from rfl,K]
   have: ¬((g.length:Int)>100000):=by omega
   simp[this])]
  intro b6 H6 I r
  have e6:Ext A2 H6:=Ext.push' r
  have k:=(T.trans a2).trans e6
  refine eV (ys:=wvs [e.2]) (X.ext k) (ft (aL I r) _ 0 0 (λj t=>by
   simp only[wvs,List.map_cons,List.map_nil,List.length_cons,List.length_nil]at t
   obtain rfl:j=0:=by omega
   rfl)) rfl (jm _) rfl (by omega) ?_
  intro B' c' H7 w f7 M
  have zA:=o.size
  have ag:=k.size
  refine⟨⟨g++[e],d,by rw[i];simp,rfl,by simp,?_,λj t=>?_,(o.trans k).fr_trans f7 G⟩,by show L.length-(g.length+1)<L.length-g.length;omega⟩
  ·unfold wvs at w⊢
   rw[List.map_append,List.map_append];exact w
  ·rcases M j t with q | q
   ·exact G j q
   ·omega
variable{a:Int}{b:Nat->Nat}{d:Hp}{g:Int->Nat}{i:Blk}{j:Mem}{k:Sp}{H o:zV}
structure Cap0 (F0:Int) (s:Sp) (u:Nat->Nat):Prop where
 ex: ∃c:Nat->Nat,s.mem.free+((c 0:Nat)+(c 1:Nat)+(c 2:Nat)+(c 3:Nat):Int)=F0/\(∀k,k<4->s.cur 0 k=0->c k=0)/\ ∀k,k<4->64*(c k:Int)+s.fill 0 k<=(u k:Int)+64
 gen: ∀k:Nat,(s.mem.seg k).taken≠0->(s.mem.seg k).gen=0
 lim:(s.mem.limit:Int)=F0
theorem Cap0.same(h:Cap0 a k b)(hm:aS k.mem j):Cap0 a {k with mem:=j} b:=by
 obtain⟨c,d,e,f⟩:=h.ex
 refine⟨⟨c,?_,e,λg hk=>?_⟩,λg hk=>?_,?_⟩
 ·show j.free+_=a
  rw[hm.free];exact d
 ·rw[Sp.fill_same hm];exact f g hk
 ·show(j.seg g).gen=0
  rw[(hm.seg g).1];exact h.gen g (by rw[<-(hm.seg g).2.2.2.1];exact hk)
 ·show(j.limit:Int)=a
  rw[hm.limit];exact h.lim
theorem Cap0.alloc(h:Cap0 a k b)(p:SpOK k){F:Nat}{n:Nat}(hk:F<4)(v:(k.alloc 0 F n).2.2=0):Cap0 a (k.alloc 0 F n).1 (λj=>if j=F then b j+2*n else b j):=by
 obtain⟨c,B,q,x⟩:=h.ex
 obtain⟨d,y,r,l,s⟩:=Sp.alloc_fill p v
 obtain⟨_,o⟩:=Sp.alloc_ok p v
 generalize A:(k.alloc 0 F n).1=w at*
 generalize C:(k.alloc 0 F n).2.1=E at*
 have t:((0:Int)).toNat=0:=rfl
 have u:((F:Int)).toNat=F:=by omega
 rw[t,u]at r s
 rw[t,u]at l
 refine⟨⟨λj=>c j+if j=F then d else 0,?_,λj f g=>?_,λj f=>?_⟩,λj f=>?_,?_⟩
 ·show w.mem.free+_=a
  rw[y]
  have:F=0\/F=1\/F=2\/F=3:=by omega
  rcases this with rfl | rfl | rfl | rfl<;>simp<;>omega
 ·show c j+(if j=F then d else 0)=0
  by_cases e:j=F
  ·rw[e]at g;exact absurd g r
  ·rw[(l j e).1]at g
   rw[if_neg e,q j f g]
 ·show 64*((c j+(if j=F then d else 0):Nat):Int)+w.fill 0 j<=((if j=F then b j+2*n else b j:Nat):Int)+64
  have z:=x j f
  by_cases e:j=F
  ·subst e
   rw[if_pos rfl,if_pos rfl]
   have D:=Sp.fill_rng p 0 j
   rcases s with⟨rfl,_,m⟩ | ⟨rfl,i,m⟩
   ·rw[m];omega
   ·rw[m]
    rcases i with i | i
    ·have:=q j f i
     omega
    ·omega
  ·rw[if_neg e,if_neg e,(l j e).2];omega
 ·by_cases e:j=(E / 64).toNat
  ·rw[e];exact o.new.2.1
  ·rw[o.others j e]at f⊢;exact h.gen j f
 ·rw[o.limit];exact h.lim
theorem Cap0.put{s:Sp}(h:Cap0 a s b)(o:SpOK s){k:Nat}{tag:Int}{ws:List Int}(hk:k<4):Cap0 a (s.put k tag ws).1 (λj=>if j=k then b j+2*ws.length else b j):=by
 unfold Sp.put
 split
 ·rename_i m
  exact(h.alloc o hk m).same (aS.sets _ _ _)
 ·obtain⟨c,d,g,i⟩:=h.ex
  refine⟨⟨c,d,g,λj n=>?_⟩,h.gen,h.lim⟩
  have l:64*(c j:Int)+s.fill 0 j<=(b j:Int)+64:=i j n
  show 64*(c j:Int)+s.fill 0 j<=((if j=k then b j+2*ws.length else b j:Nat):Int)+64
  generalize s.fill 0 j=f at*
  by_cases e:j=k
  ·rw[if_pos e];omega
  ·rw[if_neg e];exact l
theorem Cap0.free{s:Sp}(h:Cap0 a s b)(e:SpOK s):a-((b 0 / 64+b 1 / 64+b 2 / 64+b 3 / 64+4:Nat):Int)<=s.mem.free:=by
 obtain⟨c,f,g,d⟩:=h.ex
 have i:=Sp.fill_rng e 0 0
 have j:=Sp.fill_rng e 0 1
 have k:=Sp.fill_rng e 0 2
 have l:=Sp.fill_rng e 0 3
 have m:=d 0 (by decide)
 have n:=d 1 (by decide)
 have o:=d 2 (by decide)
 have p:=d 3 (by decide)
 omega
theorem Mem.nyoung_le(f:aV j)(g:Int):(j.nyoung g:Int)+j.free<=j.limit:=by
 have h:j.nyoung g<=(List.range j.limit).countP (λk=> !((j.seg k).taken==0)):=by
  unfold Mem.nyoung Mem.takenTo
  rw[<-List.countP_eq_length_filter]
  refine List.countP_mono_left λi _ d=>?_
  rw[Bool.and_eq_true,decide_eq_true_eq]at d
  have:(j.seg i).taken≠0:=by omega
  simpa using this
 have b:=List.length_eq_countP_add_countP (λk=>(j.seg k).taken==0) (l:=List.range j.limit)
 rw[List.length_range]at b
 have c:=f.free
 have e:(List.range j.limit).countP (λa=>decide ¬((λk=>(j.seg k).taken==0) a=true))=(List.range j.limit).countP (λk=> !((j.seg k).taken==0)):=by
  refine List.countP_congr λi _=>?_
  simp
 rw[e]at b
 unfold Mem.nfree at c
 omega
theorem Cap0.start{c:Int}(h:Cap0 a k b)(d:SpOK k)(hm:0<=c)(i:3*((b 0 / 64+b 1 / 64+b 2 / 64+b 3 / 64+4:Nat):Int)+8+c<=a):dW k 0 1 c=0:=by
 have e:=h.free d
 have f:=Mem.nyoung_le d.mem 0
 have g:=h.lim
 unfold dW
 rw[if_neg (by omega),if_neg (by omega)]
theorem Cap0.fresh(n:Nat):Cap0 n ⟨Mem.fresh n,λ_ _=>0⟩ (λ_=>0):=by
 refine⟨⟨λ_=>0,?_,λ_ _ _=>rfl,λk _=>?_⟩,λk hk=>absurd rfl hk,rfl⟩
 ·show((n:Int))+_=_
  simp
 ·show 64*((0:Nat):Int)+Sp.fill _ 0 k<=_
  unfold Sp.fill
  rw[if_pos rfl];omega
structure Bd (H0 H:zV) (b:Blk) (x:Hp) (sz:Int->Nat) (F0:Int) (u:Nat->Nat):Prop where
 live:Live H0 H b x
 inv:Inv x.sp sz
 cap:Cap0 F0 x.sp u
 cf:x.sp.cf=F0
def WG(x:Hp)(sz:Int->Nat)(w:Int):Prop:=aC w/\Good x.sp.mem sz w
structure Bdd (x:Hp) (sz:Int->Nat) (x':Hp) (sz':Int->Nat) (w:Int):Prop where
 lift:Lift x.sp.mem sz x'.sp.mem sz'
 new:WG x' sz' w
theorem Bd.pair(B:Bd H o i d g a b){k:Nat}{y z:Int}(hk:k<=1)(n:WG d g y)(p:WG d g z)(s:1<=d.sp.mem.free):
  ∃(w:Int) (e:Hp) (c:Int->Nat),putR (some (i,d)) k (k+1) [y,z]=(w,0)/\putO (some (i,d)) k (k+1) [y,z]=some (i,e)/\jS d e w (k+1) y z/\Inv e.sp c/\Cap0 a e.sp (λj=>if j=k then b j+4 else b j)/\e.sp.cf=a/\Bdd d g e c w:=by
 obtain⟨w,e,l,m,hm⟩:=pb B.live B.inv.even (tag:=k+1) (by omega) n.1 p.1 s
 rw[show((k:Int)+1-1)=k by omega]at l m
 have r:some (i,({d with sp:=(d.sp.put k (k+1) [y,z]).1}:Hp))=some (i,e):=m
 cases r
 have q:(d.sp.put k (k+1) [y,z]).2=(w,0):=l
 obtain⟨c,t,u,v,x⟩:=B.inv.put (kind:=k) (tag:=k+1) (ws:=[y,z]) (by omega) (by
  have:k=0\/k=1:=by omega
  rcases this with rfl | rfl<;>rfl) (λw f=>by simp at f;rcases f with rfl | rfl;exact n.1;exact p.1) (λ_=>rfl) (λh=>by omega) (λ_ w f=>by simp at f;rcases f with rfl | rfl;exact n.2;exact p.2)
 refine⟨w,_,c,l,m,hm,t,B.cap.put B.live.ok (ws:=[y,z]) (by omega),x.trans B.cf,u,?_⟩
 have:=v (by rw[q])
 rw[q]at this
 exact this
theorem Bd.count(B:Bd H o i d g a b)(h:a<4611686018427387904):d.sp.mem.count<4611686018427387904:=Sp.cf_count B.live.ok (by rw[B.cf];exact h)
theorem Bd.Cons{l:Int}(B:Bd H o i d g l b){a F:Int}(q:WG d g a)(r:WG d g F)(A:1<=d.sp.mem.free)(z:l<4611686018427387904):
  cM.C (some ⟨i.h,0,none⟩) a F o (λv p=> ∃(w:Int) (e:Hp) (c:Int->Nat),v=.tuple #[vu w,vi 0]/\Bd H p i e c l (λj=>if j=0 then b j+4 else b j)/\jS d e w 1 a F/\Bdd d g e c w/\Fr i.all o p):=by
 refine HC.mono (kW B.live.view q.1 r.1 (B.count z)) ?_
 rintro _ E ⟨rfl,V,f⟩
 obtain⟨w,e,c,u,x,hm,D,s,y,t⟩:=B.pair (k:=0) (by decide) q r A
 have m:putR (some (i,d)) 0 1 [a,F]=(w,0):=u
 have n:putO (some (i,d)) 0 1 [a,F]=some (i,e):=x
 rw[n]at V
 exact⟨w,e,c,by rw[m],⟨B.live.step V f,D,s,y⟩,hm,t,Live.others f⟩
theorem Bd.guardian{H0 H:zV}(B:Bd H0 H i d g a b)(z:1<=d.sp.mem.free)(y:a<4611686018427387904){u:zW}{I:Nat}(A:eK H u (wvs [20,20])):
  cY.C (some ⟨i.h,0,none⟩) 10 0 u 2 I H (λv q=> ∃(w:Int) (o:Hp) (c:Int->Nat),v=.tuple #[vu w,vi 0]/\Bd H0 q i o c a (λj=>if j=2 then b j+6 else b j)/\fi o.sp.mem w 10 0 [20,20]/\Made d.sp.mem o.sp.mem w 2/\Bdd d g o c w/\Fr i.all H q):=by
 have l: ∀w∈[(20:Int),20],aC w:=λw e=>by simp at e;rw[e];decide
 refine HC.mono (kS (ws:=[20,20]) B.live.view A rfl l (by decide) (by decide) (B.count y) (by decide)) ?_
 rintro _ K ⟨rfl,V,f⟩
 obtain⟨w,o,r,s,hm⟩:=o9 B.live (kind:=10) (more:=0) (by decide) (by decide) (by decide) l z
 obtain⟨J,x⟩:=lZ i d 10 0 [20,20]
 rw[x]at s
 cases s
 have m:d.sp.make 10 0 [20,20]=d.sp.put 2 3 [597,20,20]:=rfl
 have t:(d.sp.put 2 3 [597,20,20]).2=(w,0):=by rw[<-m,<-J];exact r
 have p:Good d.sp.mem g 20:=⟨by decide,λh=>absurd h (by decide)⟩
 have n:Good d.sp.mem g 597:=⟨by decide,λh=>absurd h (by decide)⟩
 obtain⟨c,D,E,F,G⟩:=B.inv.put (kind:=2) (tag:=3) (ws:=[597,20,20]) (by decide) rfl (λw e=>by simp at e;rcases e with rfl | rfl<;>decide) (λh=>absurd h (by decide)) (λ_=>⟨597,[20,20],rfl,by decide,by decide,by decide⟩) (λ_ w e=>by simp at e;rcases e with rfl | rfl;exact n;exact p)
 rw[x]at V
 refine⟨w,_,c,by rw[r],⟨B.live.step V f,?_,?_,?_⟩,hm.thing,hm.made,⟨?_,?_⟩,Live.others f⟩
 ·show Inv (d.sp.make 10 0 [20,20]).1 c
  rw[m];exact D
 ·show Cap0 a (d.sp.make 10 0 [20,20]).1 _
  rw[m];exact B.cap.put B.live.ok (k:=2) (ws:=[597,20,20]) (by decide)
 ·show(d.sp.make 10 0 [20,20]).1.cf=a
  rw[m];exact G.trans B.cf
 ·show Lift _ _ (d.sp.make 10 0 [20,20]).1.mem c
  rw[m];exact E
 ·have:=F (by rw[t])
  rw[t]at this
  show aC w/\Good (d.sp.make 10 0 [20,20]).1.mem c w
  rw[m];exact this
theorem qZ(e:aC a)(b:a % 8≠6)(c: ¬isTag a):WG d g a:=⟨e,b,λh=>absurd h c⟩
def fV(m:Mem)(tag:Int):List (Int×Int)->Prop
 | []=>True
 | e::l=>Pr m e.1 tag e.2 (aW l)/\fV m tag l
theorem fV.keep{b:Mem}(k:Keep j b): ∀{l:List (Int×Int)},fV j a l->fV b a l
 | [],_=>trivial
 | e::l,h=>⟨h.1.keep k,h.2.keep k⟩
theorem fV.mem{m:Mem}{tag:Int}: ∀{l:List (Int×Int)},fV m tag l-> ∀(b a:List (Int×Int)) (e:Int×Int),l=b++e::a->Pr m e.1 tag e.2 (aW a)
 | [],_,b,a,e,h=>by simp at h
 | d::l,h,[],a,e,q=>by
  rw[List.nil_append]at q
  cases q;exact h.1
 | d::l,h,c::b,a,e,q=>by
  rw[List.cons_append]at q
  cases q;exact fV.mem h.2 b a e rfl
theorem rf{m:Mem}{sz:Int->Nat}(S:fD m sz)(f:aV m){w tag:Int}(u:aC w)(q:Good m sz w)(t:tag=1\/tag=2)(h:w % 8=tag):Pr m w tag (m.get (w / 8)) (m.get (w / 8+1)):=by
 have d:isTag w:=by unfold isTag;omega
 obtain⟨c,b⟩:=q.2 d
 have r:0<=m.kAt (w / 8)/\m.kAt (w / 8)<=3:=(f.seg (w / 8 / 64).toNat).kind
 have hk:m.kAt (w / 8)=tag-1:=by
  rw[h]at b
  unfold tagK at b
  by_cases l:m.kAt (w / 8)=0
  ·rw[if_pos l]at b;omega
  ·rw[if_neg l]at b
   by_cases o:m.kAt (w / 8)=1
   ·rw[if_pos o]at b;omega
   ·rw[if_neg o]at b;omega
 obtain⟨v,p⟩:=S.two _ c (by omega)
 have hn: ∀k,(m.seg k).n<=64:=λk=>(f.seg k).n.2
 have a:m.used (w / 8):=by simpa using(S.usedAt c (i:=0) (by omega) hn).1
 have e:m.used (w / 8+1):=(S.usedAt c (i:=1) (by omega) hn).1
 have j:=f.lim
 have s:=a.2.1.2.1
 exact⟨u,t,⟨⟨by omega,by omega⟩,h,a.2.1,hk,a.2.2⟩,p,e,rfl,rfl⟩
section
variable {Z:TZ} {g F0:Int} {fw:Int->Option Int} {al:List Int} {s3 s4 s5:Sp} {sz:Int->Nat} {tr:Tr} {s0:Sp}
def cV(O:Nat->Bool)(fw:Int->Option Int)(tag a:Int):Int:=if tag=2/\aF O a/\fw (a / 8)=none then 44 else Fw O fw a
theorem gp.pr(C:gp Z s0 g tr fw al sz s3 s4 s5){w c a d:Int}(h:Pr Z.m w c a d)(u:Good Z.m Z.sz w)(A:aF Z.O w)(p:Dn Z.O fw w)(K: ∀b,fw (w / 8)=some b->Z.q b=none/\Z.q (b+1)=none):
  Pr s5.mem (Fw Z.O fw w) c (cV Z.O fw c a) (Fw Z.O fw d)/\Dn Z.O fw d/\(c=1->Dn Z.O fw a):=by
 obtain⟨b,n⟩:=p A
 have v:=h.at'.2.1
 have k:=h.istag
 have B:isTag w:=by unfold isTag;omega
 obtain⟨F,H,-⟩:=C.t.good h.word u p
 obtain⟨f,-,G,-⟩:=H B
 obtain⟨I,-,-⟩:=C.t.tri.goodFw C.t.S h.word u p
 have e:Fw Z.O fw w=b*8+w % 8:=eS A n
 have o:Fw Z.O fw w / 8=b:=by rw[e];omega
 have P:=rf C.inv.sound C.inv.ok.mem I F k (by rw[pX];exact v)
 rw[o]at P f G
 have s:b % 2=0:=by have:=P.even;rw[o]at this;exact this
 have x:s5.mem.used (b+1):=by have:=P.used;rw[o]at this;exact this
 have J:Z.m.kAt (w / 8)=c-1:=h.at'.2.2.2.1
 have L:Z.sz (w / 8)=2:=(C.t.S.sound.two _ (u.2 B).1 (by omega)).1
 obtain⟨M,N⟩:=K b n
 have z:Was Z fw b a:=.inr ⟨M,.inr ⟨w / 8,b,0,n,by omega,by simp,by rw[<-h.car];simp⟩⟩
 have E:Was Z fw (b+1) d:=.inr ⟨N,.inr ⟨w / 8,b,1,n,by omega,rfl,by rw[<-h.cdr];rfl⟩⟩
 have R:=f.1
 have T:=(C.t.kind f).1
 have U:=(C.t.kind x).1
 have V:s5.mem.kAt (b+1)=s5.mem.kAt b:=by unfold Mem.kAt;rw[show(b+1) / 64=b / 64 by omega]
 have j:s5.mem.get (b+1)=Fw Z.O fw d/\Dn Z.O fw d:=by
  rcases C.t.get E with⟨l,y⟩ | ⟨_,_,r⟩
  ·rw[if_neg (by omega)]at l
   exact⟨l,y (by omega)⟩
  ·omega
 have i:s5.mem.get b=cV Z.O fw c a/\(c=1->Dn Z.O fw a):=by
  unfold cV
  rcases k with rfl | rfl
  ·rw[if_neg (λq=>absurd q.1 (by decide))]
   rcases C.t.get z with⟨l,y⟩ | ⟨_,r,_⟩
   ·rw[if_neg (by omega)]at l
    exact⟨l,λ_=>y (by omega)⟩
   ·omega
  ·obtain⟨Q,D⟩:=C.t.used.1 f
   refine⟨?_,λq=>absurd q (by decide)⟩
   rw[(C.t.ended.get D).1,C.brk.exact b a Q D (by omega) s z]
   by_cases q:aF Z.O a/\fw (a / 8)=none
   ·rw[if_pos q,if_pos ⟨rfl,q⟩]
   ·rw[if_neg q,if_neg (λr=>q r.2)]
 rw[i.1,j.1]at P
 exact⟨P,j.2,i.2⟩
theorem mj{O:Nat->Bool}:Fw O fw 20=20:=eL (λo=>absurd o.1.1 (by decide))
theorem pm{O:Nat->Bool}(c:Int->Int)(l:List (Int×Int)):aW (l.map λe=>(Fw O fw e.1,c e.2))=Fw O fw (aW l):=by
 cases l with
 | nil=>exact mj.symm
 | cons e l=>rfl
theorem gp.row(C:gp Z s0 g tr fw al sz s3 s4 s5){a:Int}: ∀{l:List (Int×Int)},fV Z.m a l->(∀e∈l,Good Z.m Z.sz e.1/\aF Z.O e.1/\ ∀b,fw (e.1 / 8)=some b->Z.q b=none/\Z.q (b+1)=none)->Dn Z.O fw (aW l)->
  fV s5.mem a (l.map λe=>(Fw Z.O fw e.1,cV Z.O fw a e.2))/\ ∀e∈l,Dn Z.O fw e.1
 | [],_,_,_=>⟨trivial,λe j=>by cases j⟩
 | e::l,h,hl,hd=>by
  obtain⟨d,f,i⟩:=hl e (by simp)
  obtain⟨k,n,_⟩:=C.pr h.1 d f hd i
  obtain⟨o,p⟩:=gp.row C h.2 (λx c=>hl x (List.mem_cons_of_mem _ c)) n
  refine⟨⟨?_,o⟩,λx c=>?_⟩
  ·rw[pm];exact k
  ·rcases List.mem_cons.1 c with rfl | c
   ·exact hd
   ·exact p x c
theorem rF(S:aO Z g F0)(d: ∀k:Nat,(Z.m.seg k).taken≠0->(Z.m.seg k).gen=0){x:Int}(a:Z.m.used x):Z.O (x / 64).toNat=true:=by
 have b:=S.lt a
 have c:=S.rng
 refine(S.old _ b.1).2 ⟨by rw[show((((x:Int) / 64).toNat:Nat):Int)=(x:Int) / 64 by omega];exact a.2.1,?_⟩
 rw[d _ a.2.1.2.2];exact c.1
structure WbAt (m:Mem) (sz:Int->Nat) (p gd:Int) (Ls Wk:List (Int×Int)):Prop where
 young: ∀k:Nat,(m.seg k).taken≠0->(m.seg k).gen=0
 ls:fV m 1 Ls
 lsg: ∀e∈Ls,Good m sz e.1
 lsv: ∀e∈Ls,¬isTag e.2
 pr:Pr m p 1 12 (aW Ls)
 pg:Good m sz p
 gr:fi m gd 10 0 [20,20]
 gg:Good m sz gd
 wk:fV m 2 Wk
 wkg: ∀e∈Wk,Good m sz e.1
 wkv: ∀e∈Wk,e.2=p
 nd:(Wk.map Prod.fst).Nodup
theorem nu{O:Nat->Bool}{l a:List (Int×Int)}(b: ∀e∈l,e∈a)(h:aF O (aW l)): ∃e∈a,aW l / 8=e.1 / 8:=by
 cases l with
 | nil=>exact absurd h.1.1 (by decide)
 | cons e l=>exact⟨e,b e (by simp),rfl⟩
theorem WbAt.three{m:Mem}{sz:Int->Nat}{p a:Int}{i j:List (Int×Int)}(A:WbAt m sz p a i j)(S:fD m sz):sz (a / 8)=3/\m.kAt (a / 8)=2/\isTag a/\a % 8=3:=by
 have e:=A.gr.obj.1.2.1
 have f:isTag a:=by unfold isTag;omega
 obtain⟨n,b⟩:=A.gg.2 f
 have c:2<=m.kAt (a / 8):=by
  rw[e]at b
  unfold tagK at b
  split at b
  ·omega
  ·split at b
   ·omega
   ·rename_i t u
    have:0<=m.kAt (a / 8):=by
     rcases Int.lt_or_le (m.kAt (a / 8)) 0 with q | q
     ·have:=A.gr.obj
      exfalso
      have h:=A.gr.obj.1.2.2.2.1
      have o:rawK (hk (m.get (a / 8)))=2:=by rw[A.gr.kindEq];rfl
      unfold Mem.kAt at q
      omega
     ·exact q
    omega
 obtain⟨s,r,d⟩:=S.obj _ n c
 have k:=A.gr.kindEq
 have l:=A.gr.lenEq
 refine⟨?_,?_,f,e⟩
 ·rw[l]at d
  have:((2:Nat):Int)=2:=rfl
  have d:(sz (a / 8):Int)=((2:Nat):Int)+1:=d
  omega
 ·rw[r,k];rfl
theorem WbAt.reach{p c:Int}{r j:List (Int×Int)}(A:WbAt Z.m Z.sz p c r j)(S:aO Z g F0)(u: ∀v,Z.V v->v=aW j\/v=c){a:Int}(h:Reach Z a):(∃e∈j,a=e.1 / 8)\/a=c / 8:=by
 induction h with
 | root y b=>
  rcases u _ y with rfl | rfl
  ·exact .inl (nu (λe f=>f) b)
  ·exact .inr rfl
 | older w hn l b=>rw[rF S A.young w]at hn;cases hn
 | @step a i h G l b B=>
  rcases B with⟨e,f,rfl⟩ | rfl
  ·obtain⟨C,D,o⟩:=List.append_of_mem f
   have P:=A.wk.mem C D e o
   have hk:Z.m.kAt (e.1 / 8)=1:=P.at'.2.2.2.1
   have n:isTag e.1:=by have:=P.at'.2.1;unfold isTag;omega
   have H:=S.sound.two _ ((A.wkg e f).2 n).1 (by omega)
   have:i=0\/i=1:=by omega
   rcases this with rfl | rfl
   ·exfalso
    have k:e.1 / 8+((0:Nat):Int)=e.1 / 8:=by simp
    rw[k]at l
    rcases l.2 with q | q
    ·exact q hk
    ·omega
   ·have d:e.1 / 8+((1:Nat):Int)=e.1 / 8+1:=rfl
    rw[d,P.cdr]at b⊢
    exact .inl (nu (λx z=>by rw[o];exact List.mem_append_right _ (List.mem_cons_of_mem _ z)) b)
  ·exfalso
   obtain⟨J,I,n,E⟩:=A.three S.sound
   have s:=A.gr.get 0 (by decide)
   have t:=A.gr.get 1 (by decide)
   have:i=0\/i=1\/i=2:=by omega
   rcases this with rfl | rfl | rfl
   ·have F:=(S.sound.obj _ (A.gg.2 n).1 (by omega)).1.1
    have k:c / 8+((0:Nat):Int)=c / 8:=by simp
    rw[k]at b
    have:=b.1.1
    omega
   ·have d:c / 8+((1:Nat):Int)=c / 8+1+((0:Nat):Int):=by simp
    rw[d,s]at b
    exact absurd b.1.1 (by decide)
   ·have d:c / 8+((2:Nat):Int)=c / 8+1+((1:Nat):Int):=by omega
    rw[d,t]at b
    exact absurd b.1.1 (by decide)
end
def wn0:Sp:=⟨Mem.fresh 40,λ_ _=>0⟩
def wn1:Sp:=(wn0.put 2 3 [597,20,20]).1
def wn2:Sp:=(wn1.put 0 1 [8,20]).1
def wn3:Sp:=(wn2.put 1 2 [513,20]).1
def wnO:Nat->Bool:=wn3.mem.young 0
def wn4:Sp:=wn3.fresh (bI 0)
def wn5:Sp:=(wn4.visit wnO 0 3).1
def wn6:Sp:=(wn5.visit wnO 0 1026).1
def wn7:Sp:=((wn6.visit wnO 0 513).1.visit wnO 0 1539).1.putsG 0 ((wn6.visit wnO 0 513).1.visit wnO 0 1539).2 (wn6.visit wnO 0 513).2
def wn8:Sp:={wn7 with mem:=brkR wnO wn7.mem 256}
def wn9:Sp:=wn8.gives wnO 1024
theorem wn_1:(wn0.put 2 3 [597,20,20]).2=(3,0):=by kernel_rfl
theorem wn_2:(wn1.put 0 1 [8,20]).2=(513,0):=by kernel_rfl
theorem wn_3:(wn2.put 1 2 [513,20]).2=(1026,0):=by kernel_rfl
theorem rP:wn0.cf=40/\wn1.cf=40/\wn2.cf=40/\wn3.cf=40:=⟨by kernel_rfl,by kernel_rfl,by kernel_rfl,by kernel_rfl⟩
theorem nw:wn1.mem.count=1/\wn2.mem.count=2:=⟨by kernel_rfl,by kernel_rfl⟩
theorem wn_s:dW wn3 0 0 1=0:=by kernel_rfl
theorem wn_5:(wn4.visit wnO 0 3).2=1539:=by kernel_rfl
theorem wn_6:(wn5.visit wnO 0 1026).2=2050:=by kernel_rfl
def jK(old:Nat->Bool)(T:Int)(m:Mem):Bool:=(List.range 40).all λk:Nat=>(List.range 64).all λi:Nat=>decide (m.has k->(m.seg k).gen=T->old k=false->(i:Int)< (m.seg k).n->looks (m.seg k).kind i-> ¬aF old (m.read ((k:Int)*64+i)))
theorem qQ:jK wnO 0 wn6.mem=true:=by kernel_rfl
theorem qR:decide (aF wnO 513)=true/\wn6.mem.fwd 513=none/\decide (aF wnO 1539)=false:=⟨by kernel_rfl,by kernel_rfl,by kernel_rfl⟩
theorem qS:jK wnO 0 wn7.mem=true:=by kernel_rfl
theorem rQ:wn7.mem.takenTo [0] wn7.mem.limit=[0,1,2,3,4,5]:=by kernel_rfl
theorem rG:(wn7.mem.seg 0).taken=1/\(wn7.mem.seg 1).taken=2/\(wn7.mem.seg 2).taken=3/\(wn7.mem.seg 3).taken=4/\(wn7.mem.seg 4).taken=5/\(wn7.mem.seg 5).taken=6:=⟨by kernel_rfl,by kernel_rfl,by kernel_rfl,by kernel_rfl,by kernel_rfl,by kernel_rfl⟩
theorem rH:(wn7.mem.seg 0).kind=2/\(wn7.mem.seg 1).kind=0/\(wn7.mem.seg 3).kind=2/\(wn7.mem.seg 4).kind=1/\(wn7.mem.seg 5).kind=0/\(wn7.mem.seg 4).n=2/\wnO 2=true/\wnO 4=false:=⟨by kernel_rfl,by kernel_rfl,by kernel_rfl,by kernel_rfl,by kernel_rfl,by kernel_rfl,by kernel_rfl,by kernel_rfl⟩
theorem wn_q:wn9.mem.fieldE 1539 10 0=0/\wn9.mem.get (1539 / 8+1+0)=2577:=⟨by kernel_rfl,by kernel_rfl⟩
theorem wn_a:wn9.mem.halfE 2577 0=0/\wn9.mem.get (2577 / 8+0)=2561:=⟨by kernel_rfl,by kernel_rfl⟩
theorem wn_b:wn9.mem.halfE 2050 0=0/\wn9.mem.get (2050 / 8+0)=2561:=⟨by kernel_rfl,by kernel_rfl⟩
theorem wn_c:wn9.mem.halfE 2561 0=0/\wn9.mem.get (2561 / 8+0)=8:=⟨by kernel_rfl,by kernel_rfl⟩
theorem ly{old:Nat->Bool}{T:Int}{m:Mem}(g:m.limit=40)(f:aV m)(h:jK old T m=true):oM old T m:=by
 intro k i hk
 have a:k<40:=by have:=hk.2.1;omega
 unfold jK at h
 rw[List.all_eq_true]at h
 have b:=h k (List.mem_range.2 a)
 rw[List.all_eq_true]at b
 intro c e d
 have hn:=(f.seg k).n
 exact of_decide_eq_true (b i (List.mem_range.2 (by omega))) hk c e d
theorem ml(f:Nat->Int): ∀(L l:List Nat),l.Perm L->l.Pairwise (λi j=>f i<=f j)->L.Pairwise (λi j=>f i<f j)->l=L
 | [],l,h,_,_=>h.eq_nil
 | a::L,[],h,_,_=>absurd h.length_eq (by simp)
 | a::L,b::l,h,h1,h2=>by
  rw[List.pairwise_cons]at h1 h2
  have k:b∈a::L:=h.subset (by simp)
  have g:a∈b::l:=h.symm.subset (by simp)
  have d:b=a:=by
   rcases List.mem_cons.1 k with e | e
   ·exact e
   ·have m:=h2.1 b e
    rcases List.mem_cons.1 g with c | c
    ·exact c.symm
    ·have:=h1.1 a c;omega
  subst d
  rw[ml f L l (List.perm_cons b |>.1 h) h1.2 h2.2]
theorem Sp.put_even'{s:Sp}(g:SpOK s)(c:s.mem.Even)(a b:Int)(d:List Int)(h:a<=1->(d.length:Int) % 2=0):(s.put a b d).1.mem.Even:=by
 unfold Sp.put
 split
 ·rename_i f
  obtain⟨_,e⟩:=Sp.alloc_ok g f
  exact(aS.sets _ _ _).even (e.even c h).1
 ·exact c
theorem lz{m:Mem}{g:Int}{l:List Nat}(h: ∀k:Nat,m.has k->(m.seg k).gen<=g)(b:dT m [] l):m.dirtyOf g l=[]:=by
 rw[List.eq_nil_iff_forall_not_mem]
 intro c a
 obtain⟨k,hk,i,f,rfl,d,e⟩:=Mem.mem_dirty.1 a
 have:=h k (b.has hk).1
 omega
theorem rI:(List.range 40).all (λk:Nat=>decide ((wn3.mem.seg k).gen<=0))=true:=by kernel_rfl
theorem qc:wn3.mem.limit=40/\wn6.mem.limit=40/\wn7.mem.limit=40:=⟨by kernel_rfl,by kernel_rfl,by kernel_rfl⟩
theorem qT:decide (wn3.mem.has 4)=false:=by kernel_rfl
theorem rR:([0,1,2,3,4,5]:List Nat).Pairwise (λi j=>(wn7.mem.seg i).taken< (wn7.mem.seg j).taken):=by
 obtain⟨a,b,c,d,e,f⟩:=rG
 simp only[List.pairwise_cons,List.mem_cons,List.not_mem_nil,or_false,forall_eq_or_imp,forall_eq,a,b,c,d,e,f]
 simp
theorem qd{t:Tr}(b:t.old=wnO)(d:t.cards=[])(f:seenAt t.frm 4=0){l:List Nat}(a:dT wn7.mem [0] l):wn7.mem.weaks t l=[256]:=by
 have c:=a.perm
 rw[rQ]at c
 rw[ml (λi=>(wn7.mem.seg i).taken) [0,1,2,3,4,5] l c a.sorted rR]
 obtain⟨g,j,m,n,o,p,q,r⟩:=rH
 unfold Mem.weaks
 rw[d]
 simp only[List.flatMap_cons,List.flatMap_nil,List.append_nil]
 have s: ∀k:Nat,¬((wn7.mem.seg k).kind=1/\t.old k=false)->wn7.mem.weakSeg t k=[]:=λk h=>by unfold Mem.weakSeg;rw[if_neg h]
 rw[s 0 (by rw[g];simp),s 1 (by rw[j];simp),s 2 (by rw[b,q];simp),s 3 (by rw[m];simp),s 5 (by rw[o];simp)]
 have e:wn7.mem.weakSeg t 4=[256]:=by
  unfold Mem.weakSeg
  rw[if_pos ⟨n,by rw[b];exact r⟩,p,show((4:Nat):Int)=4 from rfl,f]
  rfl
 rw[e];rfl
set_option maxRecDepth 100000 in
set_option maxHeartbeats 1000000 in
theorem pn{H:zV}:bJ.C H (λv H'=>v=vT/\Ext H H'):=by
 refine HC.via λR hR=>bJ.link ?_
 unfold bJ.pt
 refine HC.mono (lX (limit:=40) (by decide)) ?_
 rintro _ H1 (⟨hc,rfl,e1⟩ | ⟨hc,b,x0,rfl,V1,hx,e1,V⟩)
 ·exact absurd (by decide) hc
 refine⟨_,_,rfl,?_⟩
 rw[if_pos rfl,onPtr_some]
 subst hx
 have ab:View H1 (some ⟨b.h,0,none⟩) (some (b,⟨wn0,vN,vN,0⟩)):=V1
 clear V1
 obtain⟨-,ct,bp⟩:=ab.inv
 intro cd H2 bi ag
 have e2:Ext H1 H2:=Ext.push' ag
 refine HC.mono (kS (ws:=[20,20]) (ab.ext e2) (show aU H2 ⟨cd,0,none⟩ 0 (wvs [20,20])from gS (aL bi ag)) rfl (by intro w hw;simp at hw;rw[hw];decide) (by decide) (by decide) (show(0:Int)<_ by decide) (by decide)) ?_
 rintro _ H3 ⟨rfl,V3,f3⟩
 have mR:iy (some (b,(⟨wn0,vN,vN,0⟩:Hp))) 10 0 [20,20]=(3,0):=by
  unfold iy;rw[if_neg (by decide),if_neg (by decide)];exact wn_1
 have mO:iM (some (b,(⟨wn0,vN,vN,0⟩:Hp))) 10 0 [20,20]=some (b,⟨wn1,vN,vN,0⟩):=by
  unfold iM;rw[if_neg (by decide),if_neg (by decide)];rfl
 rw[mO]at V3
 refine⟨3,0,by rw[mR],?_⟩
 refine HC.mono (kW V3 (by decide) (by decide) (show wn1.mem.count<_ by rw[nw.1];decide)) ?_
 rintro _ H4 ⟨rfl,V4,f4⟩
 refine⟨513,0,by rw[show putR (some (b,(⟨wn1,vN,vN,0⟩:Hp))) 0 1 [8,20]=(513,0)from wn_2],?_⟩
 have ac:View H4 (some ⟨b.h,0,none⟩) (some (b,⟨wn2,vN,vN,0⟩)):=V4
 clear V4
 refine HC.mono (nS ac (by decide) (by decide) (show wn2.mem.count<_ by rw[nw.2];decide)) ?_
 rintro _ H5 ⟨rfl,V5,f5⟩
 refine⟨1026,0,by rw[show putR (some (b,(⟨wn2,vN,vN,0⟩:Hp))) 1 2 [513,20]=(1026,0)from wn_3],?_⟩
 have b5:View H5 (some ⟨b.h,0,none⟩) (some (b,⟨wn3,vN,vN,0⟩)):=V5
 clear V5
 obtain⟨-,cu,bq⟩:=V3.inv
 obtain⟨-,cv,br⟩:=ac.inv
 obtain⟨-,bj,a3⟩:=b5.inv
 have bb:wn0.mem.Even:=kX _
 have bc:wn1.mem.Even:=Sp.put_even' bp bb 2 3 _ (λh=>absurd h (by decide))
 have bd:wn2.mem.Even:=Sp.put_even' bq bc 0 1 _ (λ_=>by decide)
 have be:wn3.mem.Even:=Sp.put_even' br bd 1 2 _ (λ_=>by decide)
 have f: ∀x:Hp,∀j∈own (some (b,x)),H.size<=j:=λx j G=>V j (by simp[own]at G;simp[Blk.all];omega)
 have m: ∀j∈spB b,H.size<=j:=λj G=>V j (eY G)
 have E5:Ext H H5:=(((e1.trans e2).fr_trans f3 (f _)).fr_trans f4 (f _)).fr_trans f5 (f _)
 refine HC.mono (lc (x:=⟨wn3,vN,vN,0⟩) bj a3 be (show wn3.cf<_ by rw[rP.2.2.2];decide) (by decide) (by decide) (by decide)) ?_
 rintro v6 H6 ⟨cs,aw⟩
 obtain⟨q,O,rfl,T6,B,bk,f6⟩:=aw wn_s
 refine⟨_,_,rfl,?_⟩
 rw[if_pos rfl]
 have F:O.cards=[]:=by
  obtain⟨l,hl,e⟩:=B.cards
  rw[e]
  refine lz (λk hk=>?_) hl
  have am:k<40:=by have:=hk.2.1;have co:=qc.1;rw[show(⟨wn3,vN,vN,0⟩:Hp).sp.mem=wn3.mem from rfl]at this;omega
  have h:=rI
  rw[List.all_eq_true]at h
  exact of_decide_eq_true (h k (List.mem_range.2 am))
 have al:seenAt O.frm 4=0:=by
  unfold seenAt
  rw[B.frm 4 (by decide),if_neg (λh=>absurd h.1 (of_decide_eq_false qT))]
 have u:dE O.seen:=B.seenOK a3.mem
 have ak:dE O.frm:=by
  intro k v hv
  rcases Int.lt_or_le k 0 with hk | hk
  ·rw[B.frm0 k hk]at hv;cases hv
  ·rw[B.frm k hk]at hv
   split at hv
   ·cases hv;exact⟨_,rfl,(a3.mem.seg _).n⟩
   ·cases hv
 have au:O.tgt=0:=B.tgt
 have Q:=T6.withOld (old:=wnO) (λk hk=>B.old k hk)
 obtain⟨t,ht⟩: ∃t:Tr,t={O with old:=wnO}:=⟨_,rfl⟩
 rw[<-ht]at Q
 have E:t.old=wnO:=by rw[ht]
 have U:t.tgt=0:=by rw[ht];exact au
 have b6:t.cards=[]:=by rw[ht];exact F
 have a4:t.frm=O.frm:=by rw[ht]
 have bO:t.seen=O.seen:=by rw[ht]
 clear ht
 have b2:Tg H6 b ⟨wn4,vN,vN,0⟩ q t:=Q
 clear Q T6
 refine HC.mono (ef b2 (w:=3) (by decide)) ?_
 rw[E,U]
 rintro _ H7 ⟨rfl,T7,f7⟩
 have b3:Tg H7 b ⟨wn5,vN,vN,0⟩ q t:=T7
 clear T7
 refine⟨1539,by rw[show((⟨wn4,vN,vN,0⟩:Hp).sp.visit wnO 0 3).2=1539 from wn_5],?_⟩
 refine HC.mono (ef b3 (w:=1026) (by decide)) ?_
 rw[E,U]
 rintro _ H8 ⟨rfl,T8,f8⟩
 have S:Tg H8 b ⟨wn6,vN,vN,0⟩ q t:=T8
 clear T8
 refine⟨2050,by rw[show((⟨wn5,vN,vN,0⟩:Hp).sp.visit wnO 0 1026).2=2050 from wn_6],?_⟩
 refine HC.mono (iF S (by rw[bO];exact u) (by rw[U];decide)) ?_
 rintro _ H9 ⟨s9,a1,ai,-,T9,N,f9⟩
 rw[E,U]at ai
 have Y:=ly (T:=0) qc.2.1 S.ok.mem qQ
 obtain⟨rfl,-⟩:=ai.settled Y S.ok.mem (by rw[bO];exact u)
 have A:Tg H9 b ⟨wn6,vN,vN,0⟩ q {t with seen:=a1}:=T9
 clear T9
 intro p y ah r
 have ae:Ext H9 y:=Ext.push' r
 have cA:y.size=H9.size+1:=by rw[r];simp
 have b1:=A.grow ae
 obtain⟨bm,bn,bo⟩:=qR
 have L: ∀i,i∈b.all\/i∈q.all->i<H9.size:=λi hi=>A.lt hi
 refine HC.mono (mF (a:=⟨p,0,none⟩) (o:=513) (g:=1539) b1 N (by show 0<=t.tgt;rw[U];decide) (by decide) (by decide) (show aU y ⟨p,0,none⟩ 0 [vu 513,vu 1539]from gS (aL ah r)) ⟨λh=>by have:=L p (.inl h);omega,λh=>by have:=L p (.inr h);omega⟩ (by show p<y.size;omega)
  ⟨by show aF t.old 513;rw[E];exact of_decide_eq_true bm,bn⟩ (.inl (by show ¬aF t.old 1539;rw[E];exact of_decide_eq_false bo))) ?_
 rintro _ b0 ⟨rfl,az,d,K,-,a8,bl,bf⟩
 refine⟨_,_,_,rfl,?_⟩
 have aj:cJ wnO 0 wn7 a1 az d:=by
  have:cJ t.old t.tgt (((wn6.visit t.old t.tgt 513).1.visit t.old t.tgt 1539).1.putsG t.tgt ((wn6.visit t.old t.tgt 513).1.visit t.old t.tgt 1539).2 (wn6.visit t.old t.tgt 513).2) a1 az d:=K
  rw[E,U]at this
  exact this
 clear K
 have ay:SpOK wn7:=by
  have h1:SpOK (wn6.visit wnO 0 513).1:=Sp.visit_ok A.ok (by decide) (λ_=>trivial)
  have h2:SpOK ((wn6.visit wnO 0 513).1.visit wnO 0 1539).1:=Sp.visit_ok h1 (by decide) (λ_=>trivial)
  exact nl h2 (by decide) _ _ (Sp.visit_word h1 (by decide)) (Sp.visit_word A.ok (by decide))
 have Z:=ly (T:=0) qc.2.2 ay.mem qS
 obtain⟨rfl,-⟩:=aj.settled Z ay.mem N
 have a9:Tg b0 b ⟨wn7,vN,vN,0⟩ q {t with seen:=d}:=a8
 clear a8
 refine HC.mono (lJ a9 (by show dE t.frm;rw[a4];exact ak) (by show kA t.cards;rw[b6];intro c hc;cases hc)) ?_
 rintro _ P ⟨a2,an,aa,bg⟩
 have W:dT wn7.mem [0] a2:=by
  have:dT wn7.mem [t.tgt] a2:=an
  rw[U]at this;exact this
 have av:=qd (t:={t with seen:=d}) E b6 (by show seenAt t.frm 4=0;rw[a4];exact al) W
 have J:Tg P b ⟨wn8,vN,vN,0⟩ q {t with seen:=d}:=by
  have:Tg P b ⟨{wn7 with mem:=(wn7.mem.weaks {t with seen:=d} a2).foldl (brkR t.old) wn7.mem},vN,vN,0⟩ q {t with seen:=d}:=aa
  rw[av,show brkR t.old=brkR wnO by rw[E]]at this
  exact this
 clear aa
 refine HC.mono (na J) ?_
 rintro _ z ⟨ao,-,bh⟩
 have b7:wn8.ended {t with seen:=d}=wn9:=by
  unfold Sp.ended
  show(wn8.gives t.old 1024).agains t.cards=_
  rw[E,b6];rfl
 have X:HpAt z b ⟨wn9,vN,vN,1⟩:=by
  have:HpAt z b ⟨wn8.ended {t with seen:=d},vN,vN,IntKind.wrap .u64 (0+1)⟩:=ao
  rw[b7]at this;exact this
 have ax:SpOK wn9:=Sp.gives_ok J.ok wnO 1024
 have D:View z (some ⟨b.h,0,none⟩) (some (b,⟨wn9,vN,vN,1⟩)):=.real X ax
 have I:mof (some (b,(⟨wn9,vN,vN,1⟩:Hp)))=wn9.mem:=rfl
 refine HC.mono (iV D (w:=1539) (kind:=10) (i:=0) (by decide) (by decide)) ?_
 rintro _ bY ⟨rfl,af⟩
 refine⟨2577,0,by rw[I,wn_q.1,if_pos rfl,wn_q.2],?_⟩
 refine HC.mono (iz (D.ext af) (w:=2577) (by decide)) ?_
 rintro _ bZ ⟨rfl,b8⟩
 have a5:=af.trans b8
 refine⟨2561,0,by rw[I,wn_a.1,if_pos rfl,wn_a.2],?_⟩
 refine HC.mono (iz (D.ext a5) (w:=2050) (by decide)) ?_
 rintro _ c5 ⟨rfl,b9⟩
 have a6:=a5.trans b9
 refine⟨2561,0,by rw[I,wn_b.1,if_pos rfl,wn_b.2],?_⟩
 refine HC.mono (iz (D.ext a6) (w:=2561) (by decide)) ?_
 rintro _ c6 ⟨rfl,ba⟩
 refine⟨8,0,by rw[I,wn_c.1,if_pos rfl,wn_c.2],hR _ _ ⟨by rfl,?_⟩⟩
 have z5:=E5.size
 have ap: ∀j∈q.all,H.size<=j:=λj G=>by have:=bk j G;omega
 have M: ∀j∈q.s::spB b,H.size<=j:=λj G=>by
  rcases List.mem_cons.1 G with h | h
  ·rw[h];exact ap _ (by simp[TB.all])
  ·exact m j h
 have E9:Ext H H9:=(((E5.fr_trans f6 m).fr_trans f7 m).fr_trans f8 m).fr_trans f9 M
 have aX:Ext H P:=(((E9.trans ae).fr_trans bf M).fr_trans bg m)
 have aY:Ext H z:=aX.fr_trans bh (λj G=>by
  rcases List.mem_cons.1 G with h | h
  ·rw[h];exact V _ (by simp[Blk.all])
  ·rcases List.mem_cons.1 h with h | h
   ·rw[h];exact ap _ (by simp[TB.all])
   ·exact m j h)
 exact aY.trans (a6.trans ba)
theorem mI{m:Mem}{sz:Int->Nat}(S:fD m sz)(f:aV m){w:Int}(s:aC w)(j:Good m sz w)(h:w % 8=3):m.isObj w/\(sz (w / 8):Int)=hn (m.get (w / 8))+1:=by
 have n:isTag w:=by unfold isTag;omega
 obtain⟨d,a⟩:=j.2 n
 have k:0<=m.kAt (w / 8)/\m.kAt (w / 8)<=3:=(f.seg (w / 8 / 64).toNat).kind
 have b:2<=m.kAt (w / 8):=by
  rw[h]at a
  unfold tagK at a
  by_cases i:m.kAt (w / 8)=0
  ·rw[if_pos i]at a;omega
  ·rw[if_neg i]at a
   by_cases r:m.kAt (w / 8)=1
   ·rw[if_pos r]at a;omega
   ·omega
 obtain⟨o,p,q⟩:=S.obj _ d b
 obtain⟨c,t⟩:=S.used _ d
 have e:=f.lim
 have l:=c.2.1.2.1
 exact⟨⟨⟨⟨by omega,by omega⟩,h,c.2.1,p,c.2.2⟩,o,by omega⟩,q⟩
section
variable {Z:TZ} {g F0:Int} {fw:Int->Option Int} {al:List Int} {s3 s4 s5:Sp} {sz:Int->Nat} {tr:Tr} {s0:Sp}
theorem gp.stay(C:gp Z s0 g tr fw al sz s3 s4 s5){x:Int}(b:s3.mem.used x)(a:Z.O (x / 64).toNat=false)(hk:s3.mem.kAt x≠1\/x % 2=1):s5.mem.get x=s3.mem.get x:=by
 rw[(C.t.ended.get a).1]
 exact C.t.broke.strong x b a (λq=>by rcases hk with r | r;exact r q.1;omega)
end
