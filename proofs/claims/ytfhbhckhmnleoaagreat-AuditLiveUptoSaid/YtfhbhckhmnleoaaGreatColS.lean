/-
 A trace that is on puts a thing behind a guardian's queue. Proves nothing of any one statement.
-/
import Derived.Test.YtfhbhckhmnleoaaGreatGcJ
set_option linter.unusedVariables false
set_option linter.unusedSimpArgs false
set_option maxRecDepth 100000
namespace Go.Proofs.YtfhbhckhmnleoaaGreat
open Go
section
variable {Z:TZ} {g F0:Int} {fw:Int->Option Int} {al:List Int} {s:Sp} {sz:Int->Nat} {ks:List (Int×Value)}
theorem Tri.places(S:aX Z g F0)(t:Tri Z F0 fw al s sz){a:Int}(h:sz a≠0){i:Nat}(b:i<sz a):s.mem.used (a+i)/\(a+i) / 64=a / 64/\(a+i) % 64=a % 64+i:=by
 rcases t.szn a h with q | ⟨d,q⟩ | q
 ·have e:=t.sz0 a q
  rw[e]at h b
  have:=S.sound.usedAt h b (λk=>(S.ok.seg k).n.2)
  exact⟨t.heads.used this.1,this.2⟩
 ·obtain⟨j,c⟩:=t.img d a q
  have m:=c.fit
  exact⟨c.here i (by omega),by omega,by omega⟩
 ·have N:=t.pair a q
  have f:=N.used.1.1
  have l:=N.even
  rw[N.sz]at b
  refine⟨?_,by omega,by omega⟩
  rcases(show i=0\/i=1 by omega)with rfl | rfl
  ·simpa using N.used.1
  ·exact N.used.2
theorem Tri.pairs(S:aX Z g F0)(t:Tri Z F0 fw al s sz){a:Int}(h:sz a≠0)(hk:s.mem.kAt a<=1):sz a=2/\a % 2=0:=by
 rcases t.szn a h with q | ⟨c,q⟩ | q
 ·have e:=t.sz0 a q
  rw[e]at h⊢
  exact S.sound.two a h (by rw[<-(t.kAt q).1];exact hk)
 ·obtain⟨d,f⟩:=t.img c a q
  have b:Z.m.kAt c<=1:=by rw[<-f.kind];exact hk
  rw[d]
  exact⟨(S.sound.two c (by rw[<-d];exact h) b).1,f.even b⟩
 ·exact⟨(t.pair a q).sz,(t.pair a q).even⟩
theorem Tri.obj(S:aX Z g F0)(t:Tri Z F0 fw al s sz){a:Int}(h:sz a≠0)(n:Z.O (a / 64).toNat=false)(k:2<=s.mem.kAt a):jQ (s.mem.get a)/\s.mem.kAt a=zh (hk (s.mem.get a))/\(sz a:Int)=hn (s.mem.get a)+1:=by
 have d:Z.q a=none:=by
  cases d:Z.q a with
  | none=>rfl
  | some w=>have:=(t.qok a w d).head h;omega
 have key: ∀v,zP Z fw a v->jQ v->s.mem.get a=v:=λv o m=>by
  rcases t.val a v (.inr ⟨d,o⟩)with e | ⟨_,_,e⟩
  ·exact e
  ·rw[e,jv (mU m _)]
 rcases t.szn a h with q | ⟨c,q⟩ | q
 ·have e:=t.sz0 a q
  have hk:=(t.kAt q).1
  obtain⟨b,f,i⟩:=S.sound.obj a (by rw[<-e];exact h) (by rw[<-hk];exact k)
  rw[key _ (.inl ⟨q,n,rfl⟩) b,hk,e]
  exact⟨b,f,i⟩
 ·obtain⟨j,l⟩:=t.img c a q
  obtain⟨b,f,i⟩:=S.sound.obj c (by rw[<-j];exact h) (by rw[<-l.kind];exact k)
  rw[key _ (.inr ⟨c,a,0,q,by omega,by simp,by simp⟩) b,l.kind,j]
  exact⟨b,f,i⟩
 ·have:=(t.pair a q).kind;omega
theorem Tri.alone(t:Tri Z F0 fw al s sz){a:Int}(h:sz a≠0){i:Nat}(c:0<i)(d:i<sz a):sz (a+i)=0:=by
 by_cases b:sz (a+i)=0
 ·exact b
 ·have:=t.apart a (a+i) h b (by omega);omega
theorem Tri.outOf(S:aX Z g F0)(t:Tri Z F0 fw al s sz){w:Int}(d:Good s.mem sz w)(e: ¬aO Z.O w)(a:aZ w):Z.O (w / 8 / 64).toNat=false/\gM w/\s.mem.used (w / 8):=by
 have b:=t.sz_used S (d.2 a).1
 have i:=t.ok.mem.lim
 have h:=b.2.1.2.1
 have f:=b.1
 have c:gM w:=⟨by unfold aZ at a;omega,by omega⟩
 refine⟨?_,c,b⟩
 by_cases q:Z.O (w / 8 / 64).toNat=true
 ·exact absurd ⟨c,by unfold aZ at a;omega,q⟩ e
 ·simpa using q
theorem Tri.isPair(S:aX Z g F0)(t:Tri Z F0 fw al s sz){w:Int}(i:Good s.mem sz w)(n: ¬aO Z.O w):s.mem.isPair w ↔ w % 8=1\/w % 8=2:=by
 constructor
 ·intro m
  rcases m.1 with q | q
  ·exact .inl q.2.1
  ·exact .inr q.2.1
 ·intro h
  have j:aZ w:=by unfold aZ;omega
  obtain⟨k,a⟩:=i.2 j
  obtain⟨_,f,d⟩:=t.outOf S i n j
  unfold zL at a
  have e:s.mem.kAt (w / 8)<=1:=by
   by_cases b:s.mem.kAt (w / 8)=0
   ·omega
   ·rw[za b]at a
    by_cases c:s.mem.kAt (w / 8)=1
    ·omega
    ·rw[za c]at a;omega
  have l:=(t.pairs S k e).2
  refine⟨?_,l⟩
  by_cases b:s.mem.kAt (w / 8)=0
  ·rw[qB b]at a;exact .inl ⟨f,a,d.2.1,b,d.2.2⟩
  ·rw[za b]at a
   by_cases c:s.mem.kAt (w / 8)=1
   ·rw[qB c]at a;exact .inr ⟨f,a,d.2.1,c,d.2.2⟩
   ·rw[za c]at a;omega
theorem Tri.cdrAt(S:aX Z g F0)(t:Tri Z F0 fw al s sz){w:Int}(f:Good s.mem sz w)(n: ¬aO Z.O w)(h:w % 8=1\/w % 8=2):s.mem.used (w / 8+1)/\Z.O ((w / 8+1) / 64).toNat=false/\s.mem.strong (w / 8+1)/\sz (w / 8+1)=0/\s.mem.kAt (w / 8+1)<=1:=by
 have j:aZ w:=by unfold aZ;omega
 obtain⟨b,c⟩:=f.2 j
 obtain⟨m,q,r⟩:=t.outOf S f n j
 have e:=(t.ok.mem.seg (w / 8 / 64).toNat).kind
 have e:0<=s.mem.kAt (w / 8)/\s.mem.kAt (w / 8)<=3:=e
 have a:s.mem.kAt (w / 8)<=1:=by
  unfold zL at c
  by_cases o:s.mem.kAt (w / 8)=0
  ·omega
  ·rw[za o]at c
   by_cases p:s.mem.kAt (w / 8)=1
   ·omega
   ·rw[za p]at c;omega
 obtain⟨u,v⟩:=t.pairs S b a
 obtain⟨k,d,x⟩:=t.places S b (i:=1) (by omega)
 have l:w / 8+((1:Nat):Int)=w / 8+1:=rfl
 rw[l]at k d
 have hk:s.mem.kAt (w / 8+1)=s.mem.kAt (w / 8):=by unfold Mem.kAt;rw[d]
 refine⟨k,by rw[d];exact m,?_,t.alone b (i:=1) (by decide) (by omega),by rw[hk];exact a⟩
 unfold Mem.strong
 rw[hk]
 exact⟨by omega,.inr (by omega)⟩
structure GdAt (Z:TZ) (s:Sp) (sz:Int->Nat) (gd:Int):Prop where
 tag:gd % 8=3
 three:sz (gd / 8)=3
 kind:s.mem.kAt (gd / 8)=2
 out:Z.O (gd / 8 / 64).toNat=false
 used: ∀i:Nat,i<3->s.mem.used (gd / 8+i)/\(gd / 8+i) / 64=gd / 8 / 64
 alone: ∀i:Nat,0<i->i<3->sz (gd / 8+i)=0
 head:jQ (s.mem.get (gd / 8))/\hk (s.mem.get (gd / 8))=10/\hn (s.mem.get (gd / 8))=2
theorem GdAt.strong{a:Int}(h:GdAt Z s sz a){i:Nat}(b:i<3):s.mem.kAt (a / 8+i)=2/\s.mem.strong (a / 8+i)/\Z.O ((a / 8+i) / 64).toNat=false:=by
 have e:=(h.used i b).2
 have hk:s.mem.kAt (a / 8+i)=2:=by unfold Mem.kAt;rw[e];exact h.kind
 refine⟨hk,?_,by rw[e];exact h.out⟩
 unfold Mem.strong
 rw[hk];exact⟨by decide,.inl (by decide)⟩
theorem Tri.gdAt(S:aX Z g F0)(t:Tri Z F0 fw al s sz){a:Int}(h:Good s.mem sz a)(p: ¬aO Z.O a)(n:a % 8=3)(d:hk (s.mem.get (a / 8))=10/\hn (s.mem.get (a / 8))=2):GdAt Z s sz a:=by
 have k:aZ a:=by unfold aZ;omega
 obtain⟨c,b⟩:=h.2 k
 obtain⟨j,z,A⟩:=t.outOf S h p k
 have y:0<=s.mem.kAt (a / 8)/\s.mem.kAt (a / 8)<=3:=(t.ok.mem.seg (a / 8 / 64).toNat).kind
 have e:2<=s.mem.kAt (a / 8):=by
  unfold zL at b
  by_cases l:s.mem.kAt (a / 8)=0
  ·rw[qB l]at b;omega
  ·rw[za l]at b
   by_cases v:s.mem.kAt (a / 8)=1
   ·rw[qB v]at b;omega
   ·omega
 obtain⟨q,r,u⟩:=t.obj S c j e
 rw[d.2]at u
 have f:sz (a / 8)=3:=by omega
 exact⟨n,f,by rw[r,d.1];rfl,j,λi o=>by
  obtain⟨w,x,_⟩:=t.places S c (i:=i) (by omega)
  exact⟨w,x⟩,λi m o=>t.alone c m (by omega),q,d⟩
theorem GdAt.isObj(t:Tri Z F0 fw al s sz){a:Int}(h:GdAt Z s sz a):s.mem.isObj a/\s.mem.typ a=10/\s.mem.len a=2:=by
 have c:s.mem.used (a / 8):=by simpa using(h.used 0 (by decide)).1
 obtain⟨f,e⟩:=h.used 2 (by decide)
 have k:=t.ok.mem.lim
 have j:=c.2.1.2.1
 have i:=c.1
 have hn:=(t.ok.mem.seg (a / 8 / 64).toNat).n
 have b:s.mem.isObj a:=by
  refine⟨⟨⟨by have:=h.tag;omega,by omega⟩,h.tag,c.2.1,?_,c.2.2⟩,h.head.1,?_⟩
  ·rw[h.head.2.1];exact h.kind
  ·rw[h.head.2.2]
   have:=f.2.2
   have d:(a / 8+2) / 64=a / 8 / 64:=e
   rw[show(a / 8+((2:Nat):Int))=a / 8+2 from rfl,d]at this
   omega
 exact⟨b,by unfold Mem.typ;rw[qB b];exact h.head.2.1,by unfold Mem.len;rw[qB b];exact h.head.2.2⟩
theorem GdAt.field(t:Tri Z F0 fw al s sz){a:Int}(h:GdAt Z s sz a){i:Int}(e:i=0\/i=1):s.mem.fieldE a 10 i=0:=by
 obtain⟨b,c,d⟩:=h.isObj t
 unfold Mem.fieldE
 rw[za (λq=>by rcases q with q | q;exact q b;exact q c),za (by rw[d];omega)]
theorem Tri.gdOf(S:aX Z g F0)(t:Tri Z F0 fw al s sz){b:Int}(e:Good s.mem sz b)(f: ¬aO Z.O b)(c:s.mem.typ b=10)(d:s.mem.len b=2):GdAt Z s sz b:=by
 by_cases a:s.mem.isObj b
 ·unfold Mem.typ at c
  unfold Mem.len at d
  rw[qB a]at c d
  exact t.gdAt S e f a.1.2.1 ⟨c,d⟩
 ·unfold Mem.typ at c
  rw[za a]at c;exact absurd c (by decide)
theorem GdAt.keep{a:Int}(h:GdAt Z s sz a){Z':TZ}{s':Sp}{c:Int->Nat}(k:Z'.O=Z.O)(d:hC s.mem s'.mem)(e: ∀y,s.mem.used y->c y=sz y)(l:s'.mem.get (a / 8)=s.mem.get (a / 8)):GdAt Z' s' c a:=by
 have f:s.mem.used (a / 8):=by simpa using(h.used 0 (by decide)).1
 exact⟨h.tag,(e _ f).trans h.three,(d.kAt f).1.trans h.kind,by rw[k];exact h.out,λi b=>⟨d.used (h.used i b).1,(h.used i b).2⟩,λi j b=>(e _ (h.used i b).1).trans (h.alone i j b),by rw[l];exact h.head⟩
theorem Good.keep{m c:Mem}{sz a:Int->Nat}{v:Int}(h:Good m sz v)(e:hC m c)(i: ∀y,sz y≠0->m.used y)(j: ∀y,m.used y->a y=sz y):Good c a v:=⟨h.1,λf=>by
 obtain⟨b,d⟩:=h.2 f
 have u:=i _ b
 rw[j _ u,(e.kAt u).1];exact⟨b,d⟩⟩
def qr(v:Int):Prop:=v % 8=1\/v % 8=2
instance (v:Int):Decidable (qr v):=by unfold qr;infer_instance
def pu(m:Mem)(gd th p x:Int):Int:=
 if x=p then th else if x=p+1 then 20 else if x=gd / 8+2 then p*8+1 else if x=(if qr (m.get (gd / 8+2))then m.get (gd / 8+2) / 8+1 else gd / 8+1)then p*8+1 else m.get x
structure yb (Z:TZ) (F0:Int) (fw:Int->Option Int) (al:List Int) (s:Sp) (sz:Int->Nat) (ks:List (Int×Value)) (gd th p:Int) (q:Int->Option Int) (s':Sp) (sz':Int->Nat):Prop where
 tri:Tri {Z with q:=q,P:=p::Z.P} F0 fw al s' sz'
 pend:Pend {Z with q:=q,P:=p::Z.P} fw s' ks
 heads:hC s.mem s'.mem
 new: ¬s.mem.used p/\ ¬s.mem.used (p+1)
 used: ∀x,s'.mem.used x ↔ s.mem.used x\/x=p\/x=p+1
 get: ∀x,s'.mem.used x->s'.mem.get x=pu s.mem gd th p x
 szo: ∀y,s.mem.used y->sz' y=sz y
 done: ∀y,s.mem.used y->Done Z fw s y->Done {Z with q:=q,P:=p::Z.P} fw s' y
 qo: ∀y,s.mem.used y->y≠gd / 8+2->y≠(if qr (s.mem.get (gd / 8+2))then s.mem.get (gd / 8+2) / 8+1 else gd / 8+1)->q y=Z.q y
 qz: ∀y,Z.q y≠none->q y≠none
 cf:s'.cf=s.cf
theorem Tri.putsG(S:aX Z g F0)(t:Tri Z F0 fw al s sz)(p:Pend Z fw s ks){a f:Int}(bj:aD a)(an:Good s.mem sz a)(ao: ¬aO Z.O a)(ax:aD f)(av:Good s.mem sz f)(ay: ¬aO Z.O f)(aw:aZ f)
  (D:2*((Z.yk 0:Int)+Z.yk 1+Z.yk 2+Z.yk 3)+8+(((Z.P.length+1) / 32:Nat):Int)<=F0)
  (hg:s.mem.typ a=10/\s.mem.len a=2) (hf: ∀i:Nat,i=1\/i=2->Done Z fw s (a / 8+i))
  (hl:qr (s.mem.get (a / 8+2))->Good s.mem sz (s.mem.get (a / 8+2))/\ ¬aO Z.O (s.mem.get (a / 8+2))/\Done Z fw s (s.mem.get (a / 8+2) / 8+1)):
  ∃p q aU,yb Z F0 fw al s sz ks a f p q (s.putsG Z.T a f) aU:=by
 obtain⟨c,U⟩:=t.cap
 have au:=U.room t.ok S.sound S.ok t.olds S.room
 have b4:=S.rng
 have a2:AJ Z.T 0 2:=⟨by omega,.inl ⟨.inl rfl,rfl⟩⟩
 have R:=Sp.alloc_can t.ok a2 au
 have A:=t.putP S ax (by decide:aD 20) ay (λo=>absurd o.1.1 (by decide)) av ⟨by decide,λh=>absurd h (by decide)⟩ (.inl aw) (.inr rfl) R rfl rfl rfl
 have X:(s.alloc Z.T 0 2).1.cf=s.cf:=Sp.alloc_cf _ _ _ _
 have e0:s.putT Z.T f 20=({(s.alloc Z.T 0 2).1 with mem:=(s.alloc Z.T 0 2).1.mem.sets (s.alloc Z.T 0 2).2.1 [f,20]},(s.alloc Z.T 0 2).2.1*8+1):=by unfold Sp.putT;rw[qB R]
 have V:({(s.alloc Z.T 0 2).1 with mem:=(s.alloc Z.T 0 2).1.mem.sets (s.alloc Z.T 0 2).2.1 [f,20]}:Sp).cf=s.cf:=by
  have h:=bG.sets [f,20] (s.alloc Z.T 0 2).1.mem (s.alloc Z.T 0 2).2.1
  rw[<-X]
  unfold Sp.cf
  show((s.alloc Z.T 0 2).1.mem.sets _ _).count+((s.alloc Z.T 0 2).1.mem.sets _ _).free=_
  rw[h.count,h.free]
 generalize ({(s.alloc Z.T 0 2).1 with mem:=(s.alloc Z.T 0 2).1.mem.sets (s.alloc Z.T 0 2).2.1 [f,20]}:Sp)=b at*
 generalize (s.alloc Z.T 0 2).2.1=pa at*
 generalize b5:(λx=>if x=pa then 2 else sz x)=k at*
 obtain⟨w1,w2,w3,w4⟩:=A.word
 have w5:aZ (pa*8+1)\/pa*8+1=20:=.inl (by unfold aZ;omega)
 have G:aX (Z.putP pa f 20) g F0:=S.putP D
 have n:=A.tri
 have p1:=p.putP S t A
 have a5: ∀y,sz y≠0->s.mem.used y:=λy h=>t.sz_used S h
 have B:=t.gdOf S an ao hg.1 hg.2
 have e1: ∀{z:Int},z+((1:Nat):Int)=z+1:=rfl
 have e2: ∀{z:Int},z+((2:Nat):Int)=z+2:=rfl
 have u0:s.mem.used (a / 8):=by simpa using(B.used 0 (by decide)).1
 have u1:s.mem.used (a / 8+1):=(B.used 1 (by decide)).1
 have u2:s.mem.used (a / 8+2):=(B.used 2 (by decide)).1
 have J:GdAt (Z.putP pa f 20) b k a:=B.keep rfl A.heads.l A.szo (A.get _ u0)
 have m:b.mem.lastG a=s.mem.get (a / 8+2):=by
  unfold Mem.lastG
  rw[qB (J.field n (.inr rfl)),show a / 8+1+1=a / 8+2 by omega,A.get _ u2]
 have d1: ∀i:Nat,i=1\/i=2->Done (Z.putP pa f 20) fw b (a / 8+i):=λi hi=>A.done t (B.used i (by omega)).1 (hf i hi)
 have C: ∀y,s.mem.used y->y≠pa/\y≠pa+1:=λy w=>⟨λe=>A.new.1 (e▸w),λe=>A.new.2 (e▸w)⟩
 have ev:s.putsG Z.T a f={b with mem:=b.mem.queued a (pa*8+1)}:=by
  unfold Sp.putsG
  rw[qB hg,e0,za w4]
 rw[ev]
 generalize hL:s.mem.get (a / 8+2)=L at*
 obtain⟨d,a6,K,c2,c3,c4,ai,a3,ap⟩: ∃d,d=(if qr L then L / 8+1 else a / 8+1)/\s.mem.used d/\Z.O (d / 64).toNat=false/\b.mem.strong d/\k d=0/\Done (Z.putP pa f 20) fw b d/\(d≠a / 8/\d≠a / 8+2)/\b.mem.queued a (pa*8+1)=(b.mem.store d (pa*8+1)).1.fset a 10 1 (pa*8+1):=by
  by_cases j:qr L
  ·obtain⟨l1,l2,l3⟩:=hl j
   have v:Good b.mem k L:=l1.keep A.heads.l a5 A.szo
   obtain⟨u,c2,c3,c4,c5⟩:=n.cdrAt G v l2 j
   obtain⟨K,b2,b3,bI,bM⟩:=t.cdrAt S l1 l2 j
   have a1:=(n.isPair G v l2).2 j
   refine⟨L / 8+1,by rw[qB j],K,c2,c3,c4,A.done t K l3,⟨λe=>?_,λe=>?_⟩,?_⟩
   ·have k0:=B.kind
    rw[e,k0]at bM;omega
   ·have k2:s.mem.kAt (a / 8+2)=2:=(B.strong (i:=2) (by decide)).1
    rw[e,k2]at bM;omega
   ·have hE:b.mem.hsetE L 1 (pa*8+1)=0:=by unfold Mem.hsetE;rw[qB a1];exact Mem.store_0 n.ok.mem u w1
    unfold Mem.queued
    rw[m,qB hE]
    unfold Mem.hset
    rw[qB a1]
  ·have a4: ¬b.mem.isPair L:=λhp=>j (by
    rcases hp.1 with q | q
    ·exact .inl q.2.1
    ·exact .inr q.2.1)
   have E:=J.strong (i:=1) (by decide)
   rw[e1]at E
   refine⟨a / 8+1,by rw[za j],u1,E.2.2,E.2.1,J.alone 1 (by decide) (by decide),d1 1 (.inl rfl),⟨by omega,by omega⟩,?_⟩
   have hE: ¬b.mem.hsetE L 1 (pa*8+1)=0:=by unfold Mem.hsetE;rw[za a4];decide
   have hS:b.mem.hset L 1 (pa*8+1)=b.mem:=by unfold Mem.hset;rw[za a4]
   have e:b.mem.fset a 10 0 (pa*8+1)=(b.mem.store (a / 8+1) (pa*8+1)).1:=by
    unfold Mem.fset
    rw[qB (J.field n (.inl rfl)),show a / 8+1+0=a / 8+1 by omega]
   unfold Mem.queued
   rw[m,za hE,hS,e]
 have u:=A.heads.used K
 obtain⟨t2,M⟩:=n.write G u c2 c3 ai (λh=>absurd c4 h) w1 w3 w2 w5
 have p2:=p1.write G n u M
 have r:=Mem.store_headsL n.ok.mem (x:=d) w1
 have S2:=G.wrt d (pa*8+1)
 have G2:GdAt ((Z.putP pa f 20).wrt d (pa*8+1)) {b with mem:=(b.mem.store d (pa*8+1)).1} k a:=J.keep rfl r (λ_ _=>rfl) (by
  show(b.mem.store d (pa*8+1)).1.get _=_
  rw[DI u _ u0.1,za (λe=>a3.1 e.symm)])
 have hq:b.mem.queued a (pa*8+1)=((b.mem.store d (pa*8+1)).1.store (a / 8+2) (pa*8+1)).1:=by
  rw[ap]
  unfold Mem.fset
  rw[qB (G2.field t2 (.inr rfl)),show a / 8+1+1=a / 8+2 by omega]
 have v2:=(G2.used 2 (by decide)).1
 have F:=G2.strong (i:=2) (by decide)
 rw[e2]at v2 F
 have af:Done ((Z.putP pa f 20).wrt d (pa*8+1)) fw {b with mem:=(b.mem.store d (pa*8+1)).1} (a / 8+2):=(d1 2 (.inr rfl)).wrt n u (A.heads.used u2) (λe=>a3.2 e.symm)
 have am:Good (b.mem.store d (pa*8+1)).1 k (pa*8+1):=w2.keep r (λy h=>n.sz_used G h) (λ_ _=>rfl)
 obtain⟨t3,N⟩:=t2.write S2 v2 F.2.2 F.2.1 af (λh=>absurd (G2.alone 2 (by decide) (by decide)) h) w1 w3 am w5
 have p3:=p2.write S2 t2 v2 N
 have ah:=Mem.store_headsL t2.ok.mem (x:=a / 8+2) w1
 rw[hq]
 have W:({b with mem:=((b.mem.store d (pa*8+1)).1.store (a / 8+2) (pa*8+1)).1}:Sp).cf=s.cf:=by
  rw[<-V]
  unfold Sp.cf
  show((b.mem.store _ _).1.store _ _).1.count+((b.mem.store _ _).1.store _ _).1.free=_
  rw[DO.2.2,DO.2.1,DO.2.2,DO.2.1]
 refine⟨pa,_,k,t3,p3,(A.heads.l.trans r).trans ah,A.new,λx=>?_,λx I=>?_,A.szo,λy w aj=>?_,λy w Q H=>?_,λy h=>?_,W⟩
 ·show((b.mem.store _ _).1.store _ _).1.used x ↔ _
  rw[Dx,Dx,A.used]
 ·have I:((b.mem.store d (pa*8+1)).1.store (a / 8+2) (pa*8+1)).1.used x:=I
  rw[Dx,Dx]at I
  show((b.mem.store d (pa*8+1)).1.store (a / 8+2) (pa*8+1)).1.get x=_
  have aW:(b.mem.store d (pa*8+1)).1.used (a / 8+2):=v2
  rw[DI aW x I.1,DI u x I.1]
  unfold pu
  rw[hL,<-a6]
  have n1:=C _ u2
  have n2:=C _ K
  by_cases Q:x=pa
  ·rw[qB Q,za (by omega),za (by omega),Q,A.car]
  rw[za Q]
  by_cases H:x=pa+1
  ·rw[qB H,za (by omega),za (by omega),H,A.cdr]
  rw[za H]
  refine Ec rfl (λ_=>rfl) (λ_=>Ec rfl (λ_=>rfl) (λ_=>?_))
  exact A.get x (((A.used x).1 I).resolve_right (by omega))
 ·have Y:=A.done t w aj
  have a0:Done ((Z.putP pa f 20).wrt d (pa*8+1)) fw {b with mem:=(b.mem.store d (pa*8+1)).1} y:=by
   by_cases e:y=d
   ·rw[e];exact M
   ·exact Y.wrt n u (A.heads.used w) e
  by_cases e:y=a / 8+2
  ·rw[e];exact N
  ·exact a0.wrt t2 v2 (r.used (A.heads.used w)) e
 ·rw[hL,<-a6]at H
  obtain⟨n1,n2⟩:=C y w
  show(if y=a / 8+2 then _ else if y=d then _ else if y=pa then _ else if y=pa+1 then _ else Z.q y)=_
  rw[za Q,za H,za n1,za n2]
 ·show(if y=a / 8+2 then _ else if y=d then _ else if y=pa then _ else if y=pa+1 then _ else Z.q y)≠none
  split
  ·simp
  split
  ·simp
  split
  ·simp
  split
  ·simp
  ·exact h
end
def reachedB(O:Nat->Bool)(m:Mem)(w:Int):Bool:=decide (¬aO O w) || (m.fwd w).isSome
def Bt(O:Nat->Bool)(fw:Int->Option Int)(w:Int):Bool:=decide (¬aO O w) || (fw (w / 8)).isSome
theorem od{O:Nat->Bool}{fw:Int->Option Int}{w:Int}:Bt O fw w=true ↔ Dn O fw w:=by
 unfold Bt Dn
 by_cases h:aO O w
 ·rw[zQ (show ¬ ¬aO O w from λq=>q h),Bool.false_or,D4]
  exact⟨λq _=>q,λq=>q h⟩
 ·rw[zX h,Bool.true_or]
  exact⟨λ_ q=>absurd q h,λ_=>rfl⟩
def Fit(O:Nat->Bool)(m:Mem)(l:List (Int×Int))(lost:List Int)(i:Nat):Prop:= ∃e,l[i]?=some e/\lost[i]?=some 1/\reachedB O m e.2=true
def rV(O:Nat->Bool)(T:Int)(s:Sp)(e:Int×Int):Sp:=((s.visit O T e.1).1.visit O T e.2).1.putsG T ((s.visit O T e.1).1.visit O T e.2).2 (s.visit O T e.1).2
inductive Rdy (O:Nat->Bool) (T:Int) (l:List (Int×Int)) (s:Sp) (ks:List (Int×Value)) (lost:List Int):Sp->List (Int×Value)->List Int->Prop
 | refl:Rdy O T l s ks lost s ks lost
 | step {s1 s2:Sp} {k1 k2:List (Int×Value)} {lost1:List Int} {i:Nat} {e:Int×Int} (h:Rdy O T l s ks lost s1 k1 lost1) (he:l[i]?=some e) (hl:lost1[i]?=some 1) (hr:reachedB O s1.mem e.2=true) (hf: ∀j,j<i-> ¬Fit O s1.mem l lost1 j)
   (hd:iG O T (rV O T s1 e) k1 s2 k2) (hdd:lV O T s2 k2):Rdy O T l s ks lost s2 k2 (lost1.set i 2)
def kG(O:Nat->Bool)(m:Mem)(l:List (Int×Int)):List Int:=l.map λe=>if reachedB O m e.1=true then 0 else 1
def iN(O:Nat->Bool)(T:Int)(st:Sp×List (Int×Int))(e:(Int×Int)×Int):Sp×List (Int×Int):=
 if e.2<2/\reachedB O st.1.mem e.1.2=true then(((st.1.visit O T e.1.1).1.visit O T e.1.2).1,st.2++[((st.1.visit O T e.1.1).2,((st.1.visit O T e.1.1).1.visit O T e.1.2).2)])else st
def Ak(O:Nat->Bool)(T:Int)(s:Sp)(l:List (Int×Int))(lost:List Int):Sp×List (Int×Int):=(l.zip lost).foldl (iN O T) (s,[])
section
variable {Z:TZ} {g F0:Int} {fw:Int->Option Int} {al:List Int} {s:Sp} {sz:Int->Nat} {ks:List (Int×Value)}
theorem Tri.reachedB(S:aX Z g F0)(t:Tri Z F0 fw al s sz){w:Int}(b:aD w)(a:Good Z.m Z.sz w):reachedB Z.O s.mem w=Bt Z.O fw w:=by
 unfold Go.Proofs.YtfhbhckhmnleoaaGreat.reachedB Bt
 by_cases h:aO Z.O w
 ·rw[t.fwd_is S b a h,Option.isSome_map]
 ·rw[zX h];rfl
theorem Tri.visit_dn(S:aX Z g F0)(t:Tri Z F0 fw al s sz){w:Int}(f:aD w)(d:Good Z.m Z.sz w)(c:Dn Z.O fw w):s.visit Z.O Z.T w=(s,Fw Z.O fw w):=by
 by_cases h:aO Z.O w
 ·obtain⟨b,a⟩:=c h
  have e:=t.fwd_is S f d h
  rw[a]at e
  rw[Sp.visit_fwd h e,kq h a]
 ·rw[Ea h,jv h]
theorem Tri.goodFw(S:aX Z g F0)(t:Tri Z F0 fw al s sz){v:Int}(n:aD v)(c:Good Z.m Z.sz v)(h:Dn Z.O fw v):aD (Fw Z.O fw v)/\Good s.mem sz (Fw Z.O fw v)/\ ¬aO Z.O (Fw Z.O fw v):=by
 refine⟨t.fw_word S n,?_,t.fw_young h⟩
 by_cases d:aO Z.O v
 ·obtain⟨b,f⟩:=h d
  obtain⟨a,e,p,k⟩:=S.oldWord c d
  obtain⟨j,o⟩:=t.img _ _ f
  rw[kq d f]
  refine⟨by have:=c.1;omega,λ_=>?_⟩
  rw[show(b*8+v % 8) / 8=b by omega,show(b*8+v % 8) % 8=v % 8 by omega,j,o.kind]
  exact⟨a,k⟩
 ·rw[jv d]
  refine⟨c.1,λl=>?_⟩
  obtain⟨a,e⟩:=c.2 l
  have i:=(S.sound.used _ a).1
  rw[t.sz0 _ i,(t.kAt i).1]
  exact⟨a,e⟩
theorem Tri.doneWord(S:aX Z g F0)(t:Tri Z F0 fw al s sz){x:Int}(k:s.mem.used x)(i:Z.O (x / 64).toNat=false)(j:s.mem.strong x)(f:Done Z fw s x):aD (s.mem.get x)/\Good s.mem sz (s.mem.get x)/\ ¬aO Z.O (s.mem.get x):=by
 obtain⟨v,a⟩:=t.was k i
 obtain⟨d,e⟩:=f v a
 rw[e]
 rcases a with h | ⟨_,h⟩
 ·have W:=t.qok x v h
  rw[jv W.young];exact⟨W.word,W.good,W.young⟩
 ·obtain⟨b,c⟩:=t.was0_any S h j.1
  exact t.goodFw S b c d
theorem Tri.sz_same(t:Tri Z F0 fw al s sz){Z':TZ}(hm:Z'.m=Z.m)(f:Z'.sz=Z.sz)(i: ∀p∈Z.P,p∈Z'.P){b:Int->Option Int}{d:List Int}{k:Sp}{c:Int->Nat}(e:Tri Z' F0 b d k c)(j:Le fw b){y:Int}(h:sz y≠0):c y=sz y:=by
 rcases t.szn y h with q | ⟨a,q⟩ | q
 ·rw[t.sz0 y q,e.sz0 y (by rw[hm];exact q),f]
 ·rw[(t.img a y q).1,(e.img a y (j _ _ q)).1,f]
 ·rw[(t.pair y q).sz,(e.pair y (i y q)).sz]
theorem Tri.stay(t:Tri Z F0 fw al s sz){a:Int->Option Int}{d:List Int}{b:Sp}{i:Int->Nat}(y:Tri Z F0 a d b i)(h:Le fw a)(hk:hC s.mem b.mem){x:Int}(j:s.mem.used x)(w:Z.O (x / 64).toNat=false)(u:s.mem.strong x->Done Z fw s x/\Done Z a b x):b.mem.get x=s.mem.get x:=by
 obtain⟨v,c⟩:=t.was j w
 by_cases e:s.mem.strong x
 ·obtain⟨p,r⟩:=u e
  obtain⟨k,l⟩:=p v c
  obtain⟨z,m⟩:=r v (c.mono h)
  rw[l,m,lX k h]
 ·have f: ¬b.mem.strong x:=λq=>e (by unfold Mem.strong at*;rw[<-(hk.kAt j).1];exact q)
  have n:s.mem.get x=v:=by
   rcases t.val x v c with q | ⟨q,_⟩
   ·exact q
   ·exact absurd q e
  have o:b.mem.get x=v:=by
   rcases y.val x v (c.mono h)with q | ⟨q,_⟩
   ·exact q
   ·exact absurd q f
  rw[n,o]
theorem yc{O:Nat->Bool}{fw:Int->Option Int}(v:Int):Fw O fw v % 8=v % 8:=by
 unfold Fw
 split
 ·cases fw (v / 8)with
  | none=>rfl
  | some b=>show(b*8+v % 8) % 8=_;omega
 ·rfl
structure On (M:Mem) (szM:Int->Nat) (O:Nat->Bool) (T g F0:Int) (V:Int->Prop) (q:Int->Option Int) (P:List Int) (fw:Int->Option Int) (al:List Int) (s:Sp) (sz:Int->Nat) (ks:List (Int×Value)):Prop where
 S:aX ⟨M,szM,O,T,V,q,P⟩ g F0
 tri:Tri ⟨M,szM,O,T,V,q,P⟩ F0 fw al s sz
 fin:Fin ⟨M,szM,O,T,V,q,P⟩ fw s
 pend:Pend ⟨M,szM,O,T,V,q,P⟩ fw s ks
 roots: ∀v,V v->Dn O fw v
end
structure xi (M:Mem) (szM:Int->Nat) (O:Nat->Bool) (T g F0:Int) (V:Int->Prop) (q:Int->Option Int) (P:List Int) (fw:Int->Option Int) (s:Sp) (sz:Int->Nat) (o gd:Int) (q':Int->Option Int) (P':List Int) (fw':Int->Option Int) (al':List Int) (s2:Sp) (sz':Int->Nat) (ks2:List (Int×Value)):Prop where
 on:On M szM O T g F0 (λv=>v=o\/V v) q' P' fw' al' s2 sz' ks2
 le:Le fw fw'
 heads:hC s.mem s2.mem
 cf:s2.cf=s.cf
 szo: ∀y,sz y≠0->sz' y=sz y
 qz: ∀y,q y≠none->q' y≠none
 how:(¬(s.mem.typ (Fw O fw gd)=10/\s.mem.len (Fw O fw gd)=2)/\q'=q/\P'=P/\ ∀x,s.mem.used x->O (x / 64).toNat=false->s2.mem.get x=s.mem.get x)\/
  ((s.mem.typ (Fw O fw gd)=10/\s.mem.len (Fw O fw gd)=2)/\ ∃p,P'=p::P/\ ¬s.mem.used p/\ ¬s.mem.used (p+1)/\ ∀x,(s.mem.used x/\O (x / 64).toNat=false)\/x=p\/x=p+1->s2.mem.get x=pu s.mem (Fw O fw gd) (Fw O fw' o) p x)
theorem On.ready{M:Mem}{j:Int->Nat}{O:Nat->Bool}{T g F0:Int}{V:Int->Prop}{q:Int->Option Int}{P:List Int}{fw:Int->Option Int}{al:List Int}{s:Sp}{sz:Int->Nat}{ks:List (Int×Value)}(h:On M j O T g F0 V q P fw al s sz ks)
  {o d:Int} (ag:aD o) (af:Good M j o) (b3:aZ o) (ae:aD d) (ac:Good M j d) (hr:reachedB O s.mem d=true) (a0: ∀Z:TZ,Z.m=M->Z.O=O->2*((Z.yk 0:Int)+Z.yk 1+Z.yk 2+Z.yk 3)+8+(((P.length+1) / 32:Nat):Int)<=F0)
  {s2:Sp} {ai:List (Int×Value)} (hd:iG O T (rV O T s (o,d)) ks s2 ai) (ap:lV O T s2 ai):
  ∃q' P' J U a3,xi M j O T g F0 V q P fw s sz o d q' P' J U s2 a3 ai:=by
 obtain⟨S,t,f,p,r⟩:=h
 have ab:Dn O fw d:=by
  have:=t.reachedB S ae ac
  rw[this]at hr
  exact od.1 hr
 have w:aX ⟨M,j,O,T,λv=>v=o\/V v,q,P⟩ g F0:=S.more ag af
 have H:Tri ⟨M,j,O,T,λv=>v=o\/V v,q,P⟩ F0 fw al s sz:=t.more o
 have p1:Pend ⟨M,j,O,T,λv=>v=o\/V v,q,P⟩ fw s ks:=p.more o
 have f1:Fin ⟨M,j,O,T,λv=>v=o\/V v,q,P⟩ fw s:=f
 clear t p f S
 obtain⟨b,bm,aw,W⟩:=H.visit w ag af (λC=> .root (.inl rfl) C)
 have t2:=W.tri
 have A:=W.le
 have au:Dn O b d:=ab.mono A
 have b7:(s.visit O T o).1.visit O T d=((s.visit O T o).1,Fw O b d):=t2.visit_dn w ae ac au
 have b1:Fw O b d=Fw O fw d:=lX ab A
 have b8:(s.visit O T o).2=Fw O b o:=W.val
 have e:rV O T s (o,d)=(s.visit O T o).1.putsG T (Fw O fw d) (Fw O b o):=by
  unfold rV
  show((s.visit O T o).1.visit O T d).1.putsG T ((s.visit O T o).1.visit O T d).2 (s.visit O T o).2=_
  rw[b7,b8,b1]
 rw[e]at hd
 have av:=p1.visited H W
 obtain⟨bl,a2,aj⟩:=H.goodFw w ae ac ab
 obtain⟨bn,bo,bp⟩:=t2.goodFw w ag af W.dn
 have bq:aZ (Fw O b o):=by
  have e:=yc (O:=O) (fw:=b) o
  unfold aZ at*;rw[e];exact b3
 have a8:(s.visit O T o).1.cf=s.cf:=Sp.visit_cf _ _ _ _
 have ah: ∀y,sz y≠0->aw y=sz y:=λy hy=>H.sz_same rfl rfl (λ_ h=>h) t2 A hy
 have a1: ∀y,sz y≠0->s.mem.used y:=λy hy=>H.sz_used w hy
 have n: ∀v,Good s.mem sz v->Good (s.visit O T o).1.mem aw v:=λv E=>⟨E.1,λht=>by
  obtain⟨g1,g2⟩:=E.2 ht
  rw[ah _ g1,(W.heads.l.kAt (a1 _ g1)).1]
  exact⟨g1,g2⟩⟩
 have B:=W.rest
 have a:=W.heads
 have k: ∀x,s.mem.used x->O (x / 64).toNat=false->s.mem.strong x->Done ⟨M,j,O,T,λv=>v=o\/V v,q,P⟩ b (s.visit O T o).1 x:=λx hu C hs=>W.done H hu C (f1 x hu C hs)
 have D: ∀v,(v=o\/V v)->Dn O b v:=λv E=>by
  rcases E with rfl | E
  ·exact W.dn
  ·exact(r v E).mono A
 generalize (s.visit O T o).1=R at*
 have I:(R.mem.typ (Fw O fw d)=10/\R.mem.len (Fw O fw d)=2) ↔ (s.mem.typ (Fw O fw d)=10/\s.mem.len (Fw O fw d)=2):=by
  constructor
  ·rintro⟨c1,c2⟩
   have G:=t2.gdOf w (n _ a2) aj c1 c2
   have h3:=G.tag
   have hu:s.mem.used (Fw O fw d / 8):=a1 _ (a2.2 (by unfold aZ;omega)).1
   have C:=G.out
   have:=(H.gdAt w a2 aj h3 (by rw[<-B _ hu C];exact G.head.2)).isObj H
   exact this.2
  ·rintro⟨c1,c2⟩
   have G:=H.gdOf w a2 aj c1 c2
   have h3:=G.tag
   have hu:s.mem.used (Fw O fw d / 8):=a1 _ (a2.2 (by unfold aZ;omega)).1
   have:=(t2.gdAt w (n _ a2) aj h3 (by rw[B _ hu G.out];exact G.head.2)).isObj t2
   exact this.2
 by_cases hG:R.mem.typ (Fw O fw d)=10/\R.mem.len (Fw O fw d)=2
 case neg=>
  have ep:R.putsG T (Fw O fw d) (Fw O b o)=R:=by unfold Sp.putsG;rw[za hG]
  rw[ep]at hd
  obtain⟨J,U,a3,L,X,F⟩:=t2.pends w av hd ap
  refine⟨q,P,J,U,a3,⟨w,L.tri,X,F,λv E=>(D v E).mono L.le⟩,A.trans L.le,a.l.trans L.heads.l,(oJ hd).trans a8,λy hy=>?_,λy hy=>hy,.inl ⟨λq=>hG (I.2 q),rfl,rfl,λx hu C=>?_⟩⟩
  ·exact H.sz_same rfl rfl (λ_ h=>h) L.tri (A.trans L.le) hy
  ·exact H.stay L.tri (A.trans L.le) (a.l.trans L.heads.l) hu C (λhs=>⟨f1 x hu C hs,L.done x (a.used hu) C (k x hu C hs)⟩)
 have G1:=H.gdOf w a2 aj (I.1 hG).1 (I.1 hG).2
 have u2:s.mem.used (Fw O fw d / 8+2):=(G1.used 2 (by decide)).1
 have K:=G1.strong (i:=2) (by decide)
 have e2:Fw O fw d / 8+((2:Nat):Int)=Fw O fw d / 8+2:=rfl
 rw[e2]at K
 have Y:R.mem.get (Fw O fw d / 8+2)=s.mem.get (Fw O fw d / 8+2):=B _ u2 K.2.2
 obtain⟨l1,l2,l3⟩:=H.doneWord w u2 K.2.2 K.2.1 (f1 _ u2 K.2.2 K.2.1)
 have aU:=λa5=>H.cdrAt w l2 l3 a5
 obtain⟨pa,q',bI,Q⟩:=t2.putsG w av bl (n _ a2) aj bn bo bp bq (a0 _ rfl rfl) hG (λi hi=>by
   have u:=G1.used i (by omega)
   have st:=G1.strong (i:=i) (by omega)
   exact k _ u.1 st.2.2 st.2.1) (λa5=>by
   rw[Y]at a5⊢
   obtain⟨c1,c2,c3,_,_⟩:=aU a5
   exact⟨n _ l2,l3,k _ c1 c2 c3⟩)
 have t3:=Q.tri
 have S3:aX ⟨M,j,O,T,λv=>v=o\/V v,q',pa::P⟩ g F0:=⟨w.ok,w.even,w.sound,w.old,w.rng,a0 ⟨M,j,O,T,λv=>v=o\/V v,q',pa::P⟩ rfl rfl,w.V⟩
 obtain⟨J,U,a3,L,X,F⟩:=t3.pends S3 Q.pend hd ap
 have b5: ∀x,s.mem.used x->(R.putsG T (Fw O fw d) (Fw O b o)).mem.used x:=λx z=>Q.heads.used (a.used z)
 have b2:Fw O J o=Fw O b o:=lX W.dn L.le
 refine⟨q',pa::P,J,U,a3,⟨S3,L.tri,X,F,λv E=>(D v E).mono L.le⟩,A.trans L.le,(a.l.trans Q.heads).trans L.heads.l,((oJ hd).trans Q.cf).trans a8,λy hy=>?_,Q.qz,.inr ⟨I.1 hG,pa,rfl,λq=>Q.new.1 (a.used q),λq=>Q.new.2 (a.used q),λx z=>?_⟩⟩
 ·exact H.sz_same (Z':=⟨M,j,O,T,λv=>v=o\/V v,q',pa::P⟩) rfl rfl (λ_ h=>Dt _ h) L.tri (A.trans L.le) hy
 ·-- what stands there
  have b9:(R.putsG T (Fw O fw d) (Fw O b o)).mem.used x/\O (x / 64).toNat=false/\((R.putsG T (Fw O fw d) (Fw O b o)).mem.strong x->Done ⟨M,j,O,T,λv=>v=o\/V v,q',pa::P⟩ b (R.putsG T (Fw O fw d) (Fw O b o)) x):=by
   rcases z with⟨z,C⟩ | z
   ·refine⟨b5 x z,C,λhs=>Q.done x (a.used z) (k x z C ?_)⟩
    have hk:=(a.l.trans Q.heads).kAt z
    unfold Mem.strong at*;rw[<-hk.1];exact hs
   ·have N:=t3.pair pa (by simp)
    have h0:=N.used.1.1
    have he:=N.even
    have C:O (x / 64).toNat=false:=by
     have:=N.out
     rcases z with rfl | rfl
     ·exact this
     ·rw[show(pa+1) / 64=pa / 64 by omega];exact this
    have b6:(R.putsG T (Fw O fw d) (Fw O b o)).mem.used x:=by
     rcases z with rfl | rfl
     ·exact N.used.1
     ·exact N.used.2
    refine⟨b6,C,λhs v E=>?_⟩
    have hq:q' x≠none:=by
     rcases z with rfl | rfl
     ·exact N.q.1
     ·exact N.q.2
    rcases E with E | ⟨E,_⟩
    ·have Wr:=t3.qok x v E
     refine⟨λo'=>absurd o' Wr.young,?_⟩
     rw[jv Wr.young]
     rcases t3.val x v (.inl E)with c | ⟨_,_,c⟩
     ·exact c
     ·rw[c,jv Wr.young]
    ·exact absurd E hq
  obtain⟨x1,x2,x3⟩:=b9
  have b4:=t3.stay L.tri L.le L.heads.l x1 x2 (λhs=>⟨x3 hs,L.done x x1 x2 (x3 hs)⟩)
  rw[b4,Q.get x x1,b2]
  unfold pu
  rw[Y]
  refine Ec rfl (λ_=>rfl) (λn1=>Ec rfl (λ_=>rfl) (λn2=>Ec rfl (λ_=>rfl) (λn3=>Ec rfl (λ_=>rfl) (λn4=>?_))))
  rcases z with⟨z,C⟩ | z
  ·exact B x z C
  ·rcases z with z | z
   ·exact absurd z n1
   ·exact absurd z n2
theorem mV: ∀(l:List Int) {i:Nat},l[i]?=some 1->(l.set i 2).countP (λv=>decide (v=1))+1=l.countP (λv=>decide (v=1))
 | [],i,h=>by simp at h
 | a::l,0,h=>by
  simp only[List.getElem?_cons_zero,Dp]at h
  subst h
  rw[List.set_cons_zero,Eb,Eb];simp
 | a::l,i+1,h=>by
  rw[List.getElem?_cons_succ]at h
  have:=mV l h
  rw[List.set_cons_succ,Eb,Eb];omega
theorem wd{l:List Int}{i j:Nat}{v:Int}(h:(l.set i 2)[j]?=some v):l[j]?=some v\/v=2:=by
 rw[List.getElem?_set]at h
 by_cases e:i=j
 ·rw[qB e]at h
  split at h
  ·exact .inr (DH h).symm
  ·cases h
 ·rw[za e]at h;exact .inl h
def oZ(M:Mem)(szM:Int->Nat)(e:Int×Int):Prop:=(aD e.1/\Good M szM e.1)/\aD e.2/\Good M szM e.2
section
variable {M:Mem} {szM:Int->Nat} {O:Nat->Bool} {T g F0:Int} {V:Int->Prop} {q:Int->Option Int} {P:List Int} {fw:Int->Option Int} {al:List Int} {s:Sp} {sz:Int->Nat} {ks:List (Int×Value)}
theorem Rdy.lost{l:List (Int×Int)}{b a:List Int}{k:Sp}{f:List (Int×Value)}(R:Rdy O T l s ks b k f a):a.length=b.length/\ ∀(i:Nat) (v:Int),a[i]?=some v->b[i]?=some v\/v=2:=by
 induction R with
 | refl=>exact⟨rfl,λi v h=> .inl h⟩
 | @step x k w f c i e R r o u t p m d=>
  refine⟨by rw[EB];exact d.1,λj v n=>?_⟩
  rcases wd n with h | h
  ·exact d.2 j v h
  ·exact .inr h
theorem On.rdy(h:On M szM O T g F0 V q P fw al s sz ks){l:List (Int×Int)}(hl: ∀e∈l,oZ M szM e)(d: ∀Z:TZ,Z.m=M->Z.O=O->2*((Z.yk 0:Int)+Z.yk 1+Z.yk 2+Z.yk 3)+8+((l.length / 32:Nat):Int)<=F0)
  {lost c:List Int} (hc:P.length+lost.countP (λv=>decide (v=1))<=l.length) (D: ∀(i:Nat) (e:Int×Int),l[i]?=some e->lost[i]?=some 1->aZ e.1) {o:Sp} {F:List (Int×Value)} (R:Rdy O T l s ks lost o F c):
  ∃J q' I j t r,On M szM O T g F0 J q' I j t o r F/\Le fw j/\hC s.mem o.mem/\o.cf=s.cf/\I.length+c.countP (λv=>decide (v=1))<=l.length/\(∀v,V v->J v)/\(∀y,sz y≠0->r y=sz y):=by
 induction R with
 | refl=>exact⟨V,q,P,fw,al,sz,h,Le.refl _,hC.refl _,rfl,hc,λv E=>E,λ_ _=>rfl⟩
 | @step s1 o k1 F f i e R K k hr hf hd A ih=>
  obtain⟨V1,q1,N,a1,S,ab,h1,G,z,w,c1,v1,z1⟩:=ih
  have B:e∈l:=List.mem_of_getElem? K
  obtain⟨⟨U,X⟩,Y,e4⟩:=hl e B
  have a4:=mV f k
  obtain⟨q2,Q,x,u,H,W⟩:=h1.ready U X (D i e K ((R.lost.2 i 1 k).resolve_right (by decide))) Y e4 hr (λZ a b=>by
   have:=d Z a b
   have h3:(N.length+1) / 32<=l.length / 32:=Nat.div_le_div_right (by omega)
   omega) hd A
  refine⟨_,q2,Q,x,u,H,W.on,G.trans W.le,z.trans W.heads,W.cf.trans w,?_,λv E=> .inr (v1 v E),λy L=>?_⟩
  ·rcases W.how with⟨_,_,C,_⟩ | ⟨_,p,C,_⟩
   ·rw[C];omega
   ·rw[C,List.length_cons];omega
  ·have n:=z1 y L
   rw[W.szo y (by rw[n];exact L),n]
def AQ(O:Nat->Bool)(fw:Int->Option Int)(l:List (Int×Int))(lost:List Int):List (Int×Int):=((l.zip lost).filter λe=>decide (e.2<2) && Bt O fw e.1.2).map λe=>(Fw O fw e.1.1,Fw O fw e.1.2)
theorem oK(h:On M szM O T g F0 V q P fw al s sz ks): ∀(d:List ((Int×Int)×Int)) (a:List (Int×Int)),(∀e∈d,oZ M szM e.1/\(e.2<2->Dn O fw e.1.2->Dn O fw e.1.1))->
  d.foldl (iN O T) (s,a)=(s,a++(d.filter λe=>decide (e.2<2) && Bt O fw e.1.2).map λe=>(Fw O fw e.1.1,Fw O fw e.1.2))
 | [],a,_=>by simp
 | e::d,a,hz=>by
  obtain⟨⟨⟨p,r⟩,m,n⟩,k⟩:=hz e (by simp)
  have b:=h.tri.reachedB h.S m n
  have b:reachedB O s.mem e.1.2=Bt O fw e.1.2:=b
  have o:(decide (e.2<2) && Bt O fw e.1.2)=true ↔ e.2<2/\reachedB O s.mem e.1.2=true:=by rw[b,CZ,CN]
  rw[List.foldl_cons]
  by_cases c:e.2<2/\reachedB O s.mem e.1.2=true
  ·have f:Dn O fw e.1.2:=od.1 (by rw[<-b];exact c.2)
   have j:=k c.1 f
   have t:s.visit O T e.1.1=(s,Fw O fw e.1.1):=h.tri.visit_dn h.S p r j
   have u:s.visit O T e.1.2=(s,Fw O fw e.1.2):=h.tri.visit_dn h.S m n f
   have i:iN O T (s,a) e=(s,a++[(Fw O fw e.1.1,Fw O fw e.1.2)]):=by
    unfold iN
    rw[qB c]
    simp only[t,u]
   rw[i,oK h d _ (λx l=>hz x (by simp[l])),List.filter_cons,qB (o.2 c)]
   simp
  ·have i:iN O T (s,a) e=(s,a):=by unfold iN;rw[za c]
   rw[i,oK h d _ (λx l=>hz x (by simp[l])),List.filter_cons,za (λq=>c (o.1 q))]
theorem xj(h:On M szM O T g F0 V q P fw al s sz ks){l:List (Int×Int)}{a:List Int}(k: ∀e∈l,oZ M szM e)(d: ∀(i:Nat) (e:Int×Int) (v:Int),l[i]?=some e->a[i]?=some v->v<2->Dn O fw e.2->Dn O fw e.1):Ak O T s l a=(s,AQ O fw l a):=by
 unfold Ak AQ
 rw[oK h (l.zip a) [] (λe f=>?_),List.nil_append]
 obtain⟨i,j,rfl⟩:=Ep f
 rw[List.length_zip]at j
 rw[List.getElem_zip]
 exact⟨k _ (CS _),λb c=>d i _ _ (List.getElem?_eq_getElem (by omega)) (List.getElem?_eq_getElem (by omega)) b c⟩
theorem xk(h:On M szM O T g F0 V q P fw al s sz ks){l:List (Int×Int)}{a:List Int}(m: ∀e∈l,oZ M szM e)(j: ∀(i:Nat) (e:Int×Int) (v:Int),l[i]?=some e->a[i]?=some v->v<2->Dn O fw e.2->Dn O fw e.1): ∀x∈AQ O fw l a,∃e∈l,x=(Fw O fw e.1,Fw O fw e.2)/\Dn O fw e.1/\Dn O fw e.2:=by
 intro x f
 unfold AQ at f
 obtain⟨e,c,rfl⟩:=CT.1 f
 rw[Dm,CZ,CN]at c
 obtain⟨c,d,b⟩:=c
 have b:=od.1 b
 obtain⟨i,k,rfl⟩:=Ep c
 rw[List.length_zip]at k
 rw[List.getElem_zip]at d b⊢
 exact⟨_,CS _,rfl,j i _ _ (List.getElem?_eq_getElem (by omega)) (List.getElem?_eq_getElem (by omega)) d b,b⟩
theorem we(O:Nat->Bool)(fw:Int->Option Int)(l:List (Int×Int))(a:List Int):(AQ O fw l a).length<=l.length:=by
 unfold AQ
 rw[Dl]
 refine Dz (En _ _) ?_
 rw[List.length_zip];omega
theorem u6{m:Mem}{l:List (Int×Int)}{i:Nat}{e:Int×Int}(b:l[i]?=some e)(h:(kG O m l)[i]?=some 1):aO O e.1/\m.fwd e.1=none:=by
 unfold kG at h
 rw[List.getElem?_map,b]at h
 have h:(if reachedB O m e.1=true then(0:Int)else 1)=1:=DH h
 by_cases a:reachedB O m e.1=true
 ·rw[qB a]at h;omega
 ·unfold reachedB at a
  rw[Dw,CN]at a
  refine⟨Decidable.byContradiction λq=>a (.inl q),?_⟩
  cases c:m.fwd e.1 with
  | none=>rfl
  | some v=>exact absurd (.inr (by rw[c];rfl)) a
theorem On.settled(t:On M szM O T g F0 V q P fw al s sz ks){l:List (Int×Int)}(E: ∀e∈l,oZ M szM e){y:Int->Prop}{G:Int->Option Int}{x:List Int}{c:Int->Option Int}{j:List Int}{f:Sp}{r:Int->Nat}{w:List (Int×Value)}{a:List Int}(h:On M szM O T g F0 y G x c j f r w)(F:Le fw c)
  (R:Rdy O T l s ks (kG O s.mem l) f w a) (hn: ∀i,i<l.length-> ¬Fit O f.mem l a i): ∀(i:Nat) (e:Int×Int) (v:Int),l[i]?=some e->a[i]?=some v->v<2->Dn O c e.2->Dn O c e.1:=by
 intro i e v d u I D
 obtain⟨_,H⟩:=R.lost
 have k:e∈l:=List.mem_of_getElem? d
 obtain⟨⟨z,A⟩,B,C⟩:=E e k
 have m:i<l.length:=by
  rcases C6 i l.length with q | q
  ·exact q
  ·rw[List.getElem?_eq_none q]at d;cases d
 have b:=(H i v u).resolve_right (by omega)
 unfold kG at b
 rw[List.getElem?_map,d]at b
 have b:(if reachedB O s.mem e.1=true then(0:Int)else 1)=v:=DH b
 by_cases n:reachedB O s.mem e.1=true
 ·have o:reachedB O s.mem e.1=Bt O fw e.1:=t.tri.reachedB t.S z A
  rw[o]at n
  exact(od.1 n).mono F
 ·rw[za n]at b
  have p:reachedB O f.mem e.2=Bt O c e.2:=h.tri.reachedB h.S B C
  exact absurd ⟨e,d,by rw[u,b],by rw[p];exact od.2 D⟩ (hn i m)
end
variable{d o:Sp}{i:Int}{j:Int->Nat}{k:List (Int×Value)}{r:Tr}
theorem te{T c:Int}{a:List Int}(I:Inv d j)(n:0<=c)(p:iM d i T c=0)(B:jH d.mem i T r)(A: ∀w∈a,aD w/\Good d.mem j w)
  (u:iG r.old T (((d.fresh (eZ i)).visL r.old T a).1.lookCards r.old T r.cards) r.seen o k) (m:lV r.old T o k):
  ∃e h q,On d.mem j r.old T i d.mem.free (· ∈a) (λ_=>none) [] e h o q k/\((d.fresh (eZ i)).visL r.old T a).2=a.map (Fw r.old e)/\o.cf=d.cf:=by
 obtain⟨S,F⟩:=I.static (V:=(· ∈a)) n p B (λv f=>A v f)
 obtain⟨z,y,E,G,_,D,s⟩:=Tri.visL S a (acc:=[]) F (λw C=>C)
 obtain⟨e,h,q,H,x,l,g,_⟩:=Tri.final S G I.marked B rfl rfl (λ_=>rfl) u m
 have b: ∀v,v∈a->Dn r.old e v:=λv f=>(s v f).mono x
 refine⟨e,h,q,⟨S,H,l,g,b⟩,?_,?_⟩
 ·refine Eq.trans D ?_
  rw[List.nil_append]
  exact List.map_congr_left λv f=>(lX (s v f) x).symm
 ·have t:=oJ u
  rw[Sp.lookCards_cf,Sp.visL_cf]at t
  exact t
theorem xm{g T b:Int}{n:Nat}(I:Inv d j)(hm:((n / 32:Nat):Int)<=b)(e:iM d g T b=0)(B:jH d.mem g T r): ∀Z:TZ,Z.m=d.mem->Z.O=r.old->2*((Z.yk 0:Int)+Z.yk 1+Z.yk 2+Z.yk 3)+8+((n / 32:Nat):Int)<=d.mem.free:=λZ c f=>by
 have a:=nJ (by omega) e
 have h:=v7 (Z:=Z) (g:=g) (by rw[c];exact I.ok.mem) a.1.1 (λk hk=>by rw[c,f];exact B.old k hk)
 have i:=a.2
 rw[c]at h
 omega
theorem Rdy.nil{O:Nat->Bool}{b:List (Int×Value)}{lost a:List Int}(R:Rdy O i [] d k lost o b a):o=d/\b=k/\a=lost:=by
 induction R with
 | refl=>exact⟨rfl,rfl,rfl⟩
 | step h e j l g f c m=>simp at e
theorem rW{T f:Int}{a:List Int}{s:Sp}{H:List (Int×Value)}{b:List (Int×Int)}{lost:List Int}(I:Inv d j)(A:((b.length / 32:Nat):Int)<=f)(m:iM d i T f=0)(B:jH d.mem i T r)(Q: ∀w∈a,aD w/\Good d.mem j w)(p: ∀e∈b,oZ d.mem j e)
  (N:iG r.old T (((d.fresh (eZ i)).visL r.old T a).1.lookCards r.old T r.cards) r.seen o k) (z:lV r.old T o k) (R:Rdy r.old T b o k (kG r.old o.mem b) s H lost) (hn: ∀S,S<b.length-> ¬Fit r.old s.mem b lost S):
  ∃V q P g t E,On d.mem j r.old T i d.mem.free V q P g t s E H/\((d.fresh (eZ i)).visL r.old T a).2=a.map (Fw r.old g)/\(∀w∈a,V w)/\(∀(S:Nat) (e:Int×Int) (v:Int),b[S]?=some e->lost[S]?=some v->v<2->Dn r.old g e.2->Dn r.old g e.1)/\s.cf=d.cf/\(b=[]->P=[]/\(∀x,q x=none)/\ ∀v,V v->v∈a):=by
 obtain⟨y,u,F,l,K,G⟩:=te I (by omega) m B Q N z
 by_cases c:b=[]
 ·subst c
  obtain⟨rfl,rfl,rfl⟩:=R.nil
  exact⟨_,_,_,y,u,F,l,K,λw D=>D,λS e v p=>by simp at p,G,λ_=>⟨rfl,λ_=>rfl,λv C=>C⟩⟩
 obtain⟨V,q,P,g,t,E,n,J,O,L,_,M,_⟩:=l.rdy p (xm I A m B) (lost:=kG r.old o.mem b) (by
  have:(kG r.old o.mem b).countP (λv=>decide (v=1))<=(kG r.old o.mem b).length:=EF
  unfold kG at this⊢
  rw[Dl]at this
  simpa using this) (λS e l n=>uF (u6 l n).1) R
 refine⟨V,q,P,g,t,E,n,?_,λw D=>M w D,l.settled p n J R hn,L.trans G,λh=>absurd h c⟩
 rw[K]
 exact List.map_congr_left λv C=>(lX (l.roots v C) J).symm
def EnAt(H:zV)(B:zW)(l:List (Int×Int)):Prop:= ∀i (h:i<l.length),∃a,B=some a/\aL H (a.add (i*2)) 0 [vu l[i].1,vu l[i].2]
theorem EnAt.keep{S:List Nat}{H d:zV}{B:zW}{l:List (Int×Int)}(h:EnAt H B l)(f:Fr S H d)(e: ∀j∈kd B,j ∉ S):EnAt d B l:=λi g=>by
 obtain⟨a,rfl,k⟩:=h i g
 refine⟨a,rfl,f.rowAt ?_ k⟩
 have:(a.add (i*2)).block=a.block:=by unfold Addr.add;split<;>rfl
 rw[this];exact e _ (by simp)
theorem EnAt.ext{H a:zV}{B:zW}{l:List (Int×Int)}(h:EnAt H B l)(e:Ext H a):EnAt a B l:=h.keep (S:=[]) e.fr (λ_ _=>by simp)
def AK(l:List (Int×Int)):List Value:=l.flatMap λe=> [vu e.1,vu e.2]
theorem tf(l:List (Int×Int))(e:Int×Int):AK (l++[e])=AK l++[vu e.1,vu e.2]:=by unfold AK;rw[DQ];rfl
theorem Own.entries{H:zV}{T:TypeId}{B:zW}{n c:Nat}{l:List (Int×Int)}(h:Own H T 2 B n c (AK l)):EnAt H B l:=λi g=>by
 obtain⟨a,d,_,j⟩:=Own.elem (f:=λe:Int×Int=> [Value.int .u64 e.1,vu e.2]) h (λ_=>rfl) (by decide) g
 exact⟨a,d,j⟩
def wg(v:Value):Bool:=match v with | .int _ n=>decide (n=1) | _=>false
def qs(A:zV)(c:Nat):Nat:=match A[c]? with | some (Obj.cells cs _ _)=>cs.toList.countP wg | _=>0
theorem wh(l:List Int):(zf l).countP wg=l.countP (λv=>decide (v=1)):=by
 unfold zf
 rw[List.countP_map];rfl
theorem Own.ones{A:zV}{T:TypeId}{c n:Nat}{l:List Int}(h:Own A T 1 (some ⟨c,0,none⟩) n n (zf l)):qs A c=l.countP (λv=>decide (v=1)):=by
 obtain⟨_,d,a,g,_,f,e⟩:=h
 unfold qs
 have a:A[c]?=some (.cells d T (0,0)):=a
 rw[a]
 show d.toList.countP wg=_
 rw[<-wh]
 congr 1
 refine List.ext_getElem? λj=>?_
 rw[Array.getElem?_toList]
 rcases C6 j (n*1)with q | q
 ·exact e j q
 ·rw[Array.getElem?_eq_none (by omega),List.getElem?_eq_none (by omega)]
theorem xn(l:List Int)(i:Nat)(v:Int):(zf l).set i (vi v)=zf (l.set i v):=by unfold zf;rw[List.map_set]
theorem xp{l:List Int}{i:Nat}{v:Int}(h:l[i]?=some v):(zf l)[i]?=some (vi v):=by unfold zf;rw[List.getElem?_map,h];rfl
theorem wi(n:Nat):List.replicate n (Value.int .i64 0)=zf (List.replicate n 0):=by unfold zf;rw[List.map_replicate]
def kr(L:List Int)(k:Nat):List Int:=L.take k++List.replicate (L.length-k) 0
theorem ti(L:List Int){k:Nat}(h:k<=L.length):(kr L k).length=L.length:=by unfold kr;rw[CV,Di,EK];omega
theorem rY(L:List Int){k:Nat}(h:k<L.length):kr L (k+1)=(kr L k).set k L[k]:=by
 refine List.ext_getElem? λj=>?_
 unfold kr
 rw[List.getElem?_set]
 by_cases e:k=j
 ·subst e
  rw[qB rfl,qB (by rw[CV,Di,EK];omega),List.getElem?_append_left (by rw[Di];omega),List.getElem?_take,qB (by omega),List.getElem?_eq_getElem h]
 ·rw[za e]
  rcases C6 j k with q | q
  ·rw[List.getElem?_append_left (by rw[Di];omega),List.getElem?_append_left (by rw[Di];omega),List.getElem?_take,List.getElem?_take,qB (by omega),qB q]
  ·rw[List.getElem?_append_right (by rw[Di];omega),List.getElem?_append_right (by rw[Di];omega),Di,Di,List.getElem?_replicate,List.getElem?_replicate]
   have:(j-min (k+1) L.length<L.length-(k+1)) ↔ (j-min k L.length<L.length-k):=by omega
   simp only[this]
theorem ul(L:List Int){k:Nat}(h:k<L.length):(kr L k)[k]?=some 0:=by
 unfold kr
 rw[List.getElem?_append_right (by rw[Di];omega),Di,List.getElem?_replicate,qB (by omega)]
theorem tj(L:List Int):kr L L.length=L:=by unfold kr;rw[D9,Nat.sub_self];simp
theorem wj{l:List Int}{k:Nat}{v:Int}(h:l[k]?=some v):l.set k v=l:=by
 refine List.ext_getElem? λj=>?_
 rw[List.getElem?_set]
 by_cases e:k=j
 ·subst e
  rw[qB rfl,h]
  split
  ·rfl
  ·rename_i q;rw[List.getElem?_eq_none (by omega)]at h;cases h
 ·rw[za e]
structure GdL (H:zV) (b:Blk) (x:Hp) (q:TB) (t:Tr) (c c2 c3 c4:Nat) (lB:zW) (lC:Nat) (l:List (Int×Int)) (lost:List Int) (A:zV):Prop where
 tg:Tg A b x q t
 g0:A[c]?=some (.cells #[vp (some ⟨q.t,0,none⟩)] 37 (0,0))
 g2:A[c2]?=some (.cells #[vs lB l.length lC] 31 (0,0))
 g4:A[c4]?=some (.cells #[vs (some ⟨c3,0,none⟩) l.length l.length] 75 (0,0))
 g3:Own A 3 1 (some ⟨c3,0,none⟩) l.length l.length (zf lost)
 row:EnAt A lB l
 fr:Fr (q.s::y9 b) H A
 new:H.size<=c/\H.size<=c2/\H.size<=c3/\H.size<=c4/\c≠c3/\c2≠c3/\c4≠c3
 lb: ∀j∈kd lB,j<H.size/\j ∉ b.all/\j ∉ q.all
 all: ∀i,i∈b.all\/i∈q.all->i<H.size
 len:lost.length=l.length
section
variable {H A A':zV} {b:Blk} {x:Hp} {q:TB} {t:Tr} {c c2 c3 c4:Nat} {lB:zW} {lC:Nat} {l:List (Int×Int)} {lost:List Int}
theorem GdL.ext(h:GdL H b x q t c c2 c3 c4 lB lC l lost A)(e:Ext A A'):GdL H b x q t c c2 c3 c4 lB lC l lost A':=
 ⟨h.tg.grow e,e.get h.g0,e.get h.g2,e.get h.g4,h.g3.ext e,h.row.ext e,h.fr.trans e.fr,h.new,h.lb,h.all,h.len⟩
theorem GdL.small(h:GdL H b x q t c c2 c3 c4 lB lC l lost A): ∀i∈q.s::y9 b,i<H.size:=λi d=>by
 rcases CR.1 d with a | a
 ·exact h.all i (.inr (by rw[a];simp[TB.all]))
 ·exact h.all i (.inl (jO a))
theorem GdL.go{i:Hp}{g:Tr}(h:GdL H b x q t c c2 c3 c4 lB lC l lost A)(T:Tg A' b i q g)(f:Fr (q.s::y9 b) A A'):GdL H b i q g c c2 c3 c4 lB lC l lost A':=by
 obtain⟨o,p,r,u,v,w,y⟩:=h.new
 have k:=h.small
 have no: ∀j,H.size<=j->j ∉ q.s::y9 b:=λj a d=>by have:=k j d;omega
 refine⟨T,f.get (no _ o) h.g0,f.get (no _ p) h.g2,f.get (no _ u) h.g4,h.g3.keep f (λj a=>by simp at a;rw[a];exact no _ r),h.row.keep f (λj a d=>?_),h.fr.trans f,h.new,h.lb,h.all,h.len⟩
 obtain⟨_,m,n⟩:=h.lb j a
 rcases CR.1 d with e | e
 ·exact n (by rw[e];simp[TB.all])
 ·exact m (jO e)
theorem GdL.mark(h:GdL H b x q t c c2 c3 c4 lB lC l lost A){i:Nat}(a:i<l.length)(v:Int):aH A ((Addr.mk c3 0 none).add (i*1)) 0 1/\ ∀A',A'=aP A ((Addr.mk c3 0 none).add (i*1)) [vi v] 0->GdL H b x q t c c2 c3 c4 lB lC l (lost.set i v) A'/\Fr [c3] A A':=by
 obtain⟨p,r,s,u,w,y,z⟩:=h.new
 obtain⟨k,m⟩:=h.g3.put a (vi v)
 rw[Dd]
 refine⟨k,λA' e=>?_⟩
 obtain⟨o,f⟩:=m A' e
 have f:Fr [c3] A A':=f
 rw[xn]at o
 refine⟨⟨h.tg.stay f (λj d g=>by simp at d;have:=h.all j (.inl g);omega) (λj d g=>by simp at d;have:=h.all j (.inr g);omega),f.get (by simp;omega) h.g0,f.get (by simp;omega) h.g2,f.get (by simp;omega) h.g4,o,h.row.keep f (λj d a=>?_),h.fr.trans' f (λi a _=>a) (λi a n=>by simp at a;omega),h.new,h.lb,h.all,by rw[EB];exact h.len⟩,f⟩
 have:=(h.lb j d).1
 simp at a;omega
theorem GdL.atMark(h:GdL H b x q t c c2 c3 c4 lB lC l lost A){i:Nat}{v:Int}(f:lost[i]?=some v):hat A ((Addr.mk c3 0 none).add (i*1))=some (vi v):=by
 obtain⟨a,d,e⟩:=h.g3.at (xp f)
 cases d
 rw[Dd];exact e
theorem qt(h:t.over=false)(m:Mem)(w:Int):(decide (¬(t.over=false/\aO t.old w)) || (m.fwd w).isSome)=reachedB t.old m w:=by
 unfold reachedB
 by_cases o:aO t.old w
 ·rw[zQ (show ¬ ¬(t.over=false/\aO t.old w)from λq=>q ⟨h,o⟩),zQ (show ¬ ¬aO t.old w from λq=>q o)]
 ·rw[zX (show ¬(t.over=false/\aO t.old w)from λq=>o q.2),zX (show ¬aO t.old w from o)]
theorem yd(S:GdL H b x q t c c2 c3 c4 lB lC l lost A){i:Nat}{e:Int×Int}{h:Int}(g:l[i]?=some e)(j:lost[i]?=some h)(r:aD e.2):
  gQ.C (i:Int) (some (Addr.mk c4 0 none)) (some (Addr.mk c 0 none)) (some (Addr.mk c2 0 none)) A (λv A'=>v=.bool (decide (h=1) && reachedB t.old x.sp.mem e.2)/\Ext A A'):=by
 refine HC.via λR m=>gQ.link ?_
 unfold gQ.pt
 have o:i<l.length:=by
  rcases C6 i l.length with q | q
  ·exact q
  ·rw[List.getElem?_eq_none q]at g;cases g
 have n:(0:Int)<=(i:Int)/\(i:Int)< (l.length:Int):=by omega
 have k:Int.toNat (i:Int)=i:=by omega
 refine⟨_,rfl,_,_,_,by rw[aI S.g4];rfl,_,rfl,n,h,by rw[k];exact S.atMark j,?_⟩
 by_cases f:h=1
 ·rw[qB f]
  obtain⟨a,p,d⟩:=S.row i o
  have d:=d.2.1
  rw[List.getElem?_eq_getElem o]at g
  cases g
  refine⟨_,rfl,_,by rw[aI S.g0];rfl,_,rfl,_,_,_,by rw[aI S.g2];rfl,a,p,n,l[i].2,by
   rw[k]
   rw[CQ]at d;exact d,HC.mono (kP S.tg.toTc r) ?_⟩
  rintro _ A' ⟨rfl,e⟩
  exact⟨_,rfl,m _ _ ⟨by rw[zX f,Bool.true_and,qt S.tg.on],e⟩⟩
 ·rw[za f]
  exact m _ _ ⟨by rw[zQ f,Bool.false_and],CW _⟩
end
set_option maxRecDepth 100000 in
set_option maxHeartbeats 2000000 in
theorem qK{H:zV}{b:Blk}{x:Hp}{q:TB}{t:Tr}{lB:zW}{lC:Nat}{l:List (Int×Int)}(T:Tg H b x q t)(cY:iL t.seen)(d0:0<=t.tgt)(bu:EnAt H lB l)(hw: ∀e∈l,aD e.1/\aD e.2)(cU: ∀j∈kd lB,j<H.size/\j ∉ b.all/\j ∉ q.all)(hl:l.length<=1000000):
  jo.C (some ⟨q.t,0,none⟩) lB l.length lC H (λv H'=> ∃(p:Sp) (V:List (Int×Value)) (d:List Int) (B:zW) (di:Nat),Rdy t.old t.tgt l x.sp t.seen (kG t.old x.sp.mem l) p V d/\(∀i,i<l.length-> ¬Fit t.old p.mem l d i)/\
   v=.slice B (Ak t.old t.tgt p l d).2.length di/\Own H' 36 2 B (Ak t.old t.tgt p l d).2.length di (AK (Ak t.old t.tgt p l d).2)/\(∀j∈kd B,H.size<=j)/\Tg H' b {x with sp:=(Ak t.old t.tgt p l d).1} q {t with seen:=V}/\iL V/\Fr (q.s::y9 b) H H'):=by
 refine HC.via λR hR=>jo.link ?_
 unfold jo.pt zY
 intro c H1 hc ap c2 H2 cJ au
 have e1:Ext H H1:=CI ap
 have e2:Ext H1 H2:=CI au
 have z1:H1.size=H.size+1:=by rw[ap];simp
 have z2:H2.size=H1.size+1:=by rw[au];simp
 have k0:=e2.get (aF hc ap)
 have k2:=aF cJ au
 refine⟨_,by rw[aI k0];rfl,HC.mono (mD (T.grow (e1.trans e2)).toTc) ?_⟩
 rintro _ HH ⟨rfl,cC⟩
 obtain rfl:H2=HH:=cC.symm
 refine⟨_,rfl,?_⟩
 rw[za (by rw[T.on];decide)]
 refine⟨lB,l.length,lC,by rw[aI k2];rfl,by omega,by omega,by omega,by omega,λc3 H5 cK a5 c4 H6 cL bh=>?_⟩
 have e5:Ext H2 H5:=CI a5
 have z5:H5.size=H2.size+1:=by rw[a5];simp
 have z6:H6.size=H5.size+1:=by rw[bh];simp
 have en:Int.toNat (l.length:Int)=l.length:=by omega
 rw[en]at a5⊢
 obtain⟨q6,s6⟩:=lY (A3:=aP H6 (Addr.mk c4 0 none) [vs (some (Addr.mk c3 0 none)) l.length l.length] 0) cL bh [vs (some (Addr.mk c3 0 none)) l.length l.length] rfl
 refine⟨q6,λH7 cA=>?_⟩
 have bi:H7=aP H6 (Addr.mk c4 0 none) [vs (some (Addr.mk c3 0 none)) l.length l.length] 0:=cA
 obtain⟨k4,e7⟩:=s6 rfl
 rw[<-bi]at k4 e7
 have k3:=vR cK a5
 rw[wi]at k3
 have E7:=((e1.trans e2).trans e5).trans e7
 have ao:=e5.trans e7
 have cH: ∀i,i∈b.all\/i∈q.all->i<H.size:=λi F=>T.lt F
 have a6:(kG t.old x.sp.mem l).length=l.length:=by unfold kG;rw[Dl]
 have cE: ∀(k:Nat) (h:k<l.length),(kG t.old x.sp.mem l)[k]'(by rw[a6];exact h)=if reachedB t.old x.sp.mem l[k].1=true then 0 else 1:=λk h=>by unfold kG;rw[List.getElem_map]
 have S0:GdL H b x q t c c2 c3 c4 lB lC l (kr (kG t.old x.sp.mem l) 0) H7:=⟨T.grow E7,ao.get k0,ao.get k2,k4,by
   unfold kr;rw[List.take_zero,List.nil_append,Nat.sub_zero,a6];exact k3.ext e7,bu.ext E7,E7.fr,by omega,cU,cH,by rw[ti _ (by omega)];exact a6⟩
 have cT: ∀{k:Nat} (h:k<l.length),l[k]?=some l[k]:=λh=>List.getElem?_eq_getElem h
 have ax: ∀{k:Nat} (h:k<l.length),aD l[k].1/\aD l[k].2:=λh=>hw _ (CS h)
 refine⟨lB,l.length,lC,by rw[aI (ao.get k2)];rfl,λi A=> ∃k:Nat,i=k/\k<=l.length/\GdL H b x q t c c2 c3 c4 lB lC l (kr (kG t.old x.sp.mem l) k) A,λi _=>(l.length-i).toNat,⟨0,rfl,by omega,S0⟩,?_⟩
 rintro _ H8 ⟨k,rfl,hk,S8⟩
 by_cases u:(k:Int)< (l.length:Int)
 ·rw[qB u]
  have m:k<l.length:=by omega
  have hd:((l.length:Int)-((k:Int)+1)).toNat< ((l.length:Int)-(k:Int)).toNat:=by omega
  rw[xT (n:=(k:Int)+1) (by omega)]
  obtain⟨a,ha,hr⟩:=S8.row k m
  refine⟨a,ha,⟨by omega,u⟩,l[k].1,l[k].2,by rw[show Int.toNat (k:Int)=k by omega];exact hr,λdh H9 cM cB=>?_⟩
  obtain⟨q9,s9⟩:=lY (A3:=aP H9 (Addr.mk dh 0 none) [vu l[k].1,vu l[k].2] 0) cM cB [vu l[k].1,vu l[k].2] rfl
  refine⟨q9,λbR ba=>?_⟩
  obtain⟨k5,b7⟩:=s9 rfl
  rw[<-ba]at k5 b7
  have d3:bR[dh]?=some (.cells #[vu l[k].1,vu l[k].2] 36 (0,0)):=k5
  have ag:=S8.ext b7
  refine⟨_,by rw[aI ag.g0];rfl,l[k].1,by rw[aI d3];rfl,HC.mono (kP ag.tg.toTc (ax m).1) ?_⟩
  rintro _ dw ⟨rfl,cr⟩
  refine⟨_,rfl,?_⟩
  rw[qt T.on]
  have ah:=ag.ext cr
  have U:=rY (kG t.old x.sp.mem l) (k:=k) (by omega)
  rw[cE k m]at U
  by_cases bs:reachedB t.old x.sp.mem l[k].1=true
  ·rw[qB bs]at U⊢
   rw[wj (ul _ (by omega))]at U
   exact⟨⟨k+1,by omega,by omega,by rw[U];exact ah⟩,hd⟩
  ·rw[za bs]at U⊢
   refine⟨_,_,_,by rw[aI ah.g4];rfl,_,rfl,⟨by omega,u⟩,?_⟩
   rw[show Int.toNat (k:Int)=k by omega]
   obtain⟨p1,p2⟩:=ah.mark m 1
   refine⟨p1,λbS bb=>⟨⟨k+1,by omega,by omega,?_⟩,hd⟩⟩
   rw[U];exact(p2 bS bb).1
 rw[za u]
 obtain rfl:k=l.length:=by omega
 rw[show kr (kG t.old x.sp.mem l) l.length=kG t.old x.sp.mem l by rw[<-a6];exact tj _]at S8
 refine⟨λA=> ∃(p:Sp) (V:List (Int×Value)) (d:List Int),Rdy t.old t.tgt l x.sp t.seen (kG t.old x.sp.mem l) p V d/\iL V/\GdL H b {x with sp:=p} q {t with seen:=V} c c2 c3 c4 lB lC l d A,λA=>qs A c3,⟨_,_,_,.refl,cY,S8⟩,?_⟩
 rintro bT ⟨p,V,d,bj,af,ai⟩
 have d6:=ai.g3.ones
 refine⟨lB,l.length,lC,by rw[aI ai.g2];rfl,λi A=> ∃k:Nat,i=k/\k<=l.length/\(∀j,j<k-> ¬Fit t.old p.mem l d j)/\GdL H b {x with sp:=p} q {t with seen:=V} c c2 c3 c4 lB lC l d A,λi _=>(l.length-i).toNat,⟨0,rfl,by omega,λj y=>by omega,ai⟩,?_⟩
 rintro _ X ⟨k,rfl,hk,aw,f⟩
 by_cases u:(k:Int)< (l.length:Int)
 ·rw[qB u]
  have m:k<l.length:=by omega
  have hd:((l.length:Int)-((k:Int)+1)).toNat< ((l.length:Int)-(k:Int)).toNat:=by omega
  rw[xT (n:=(k:Int)+1) (by omega)]
  obtain⟨a,ha,hr⟩:=f.row k m
  obtain⟨lv,Q⟩: ∃lv,d[k]?=some lv:=⟨_,List.getElem?_eq_getElem (by have:=f.len;omega)⟩
  have z:=ax m
  have av:=cT m
  generalize l[k]=e at*
  refine⟨a,ha,⟨by omega,u⟩,e.1,e.2,by rw[show Int.toNat (k:Int)=k by omega];exact hr,λeg bU cN bc=>?_⟩
  obtain⟨d9,db⟩:=lY (A3:=aP bU (Addr.mk eg 0 none) [vu e.1,vu e.2] 0) cN bc [vu e.1,vu e.2] rfl
  refine⟨d9,λbX bd=>?_⟩
  obtain⟨k6,b8⟩:=db rfl
  rw[<-bd]at k6 b8
  have d4:bX[eg]?=some (.cells #[vu e.1,vu e.2] 36 (0,0)):=k6
  have b4:=f.ext b8
  refine HC.mono (yd b4 av Q z.2) ?_
  rintro _ dx ⟨rfl,b9⟩
  refine⟨_,rfl,?_⟩
  have aj:=b4.ext b9
  by_cases E:(decide (lv=1) && reachedB t.old p.mem e.2)=true
  case neg=>
   rw[za E]
   refine⟨⟨k+1,by omega,by omega,λj y=>?_,aj⟩,hd⟩
   rcases C6 j k with r | r
   ·exact aw j r
   ·obtain rfl:j=k:=by omega
    rintro⟨e',f1,f2,f3⟩
    rw[av]at f1;rw[Q]at f2
    cases f1;cases f2
    exact E (by rw[f3];rfl)
  rw[qB E]
  rw[CZ,CN]at E
  obtain⟨rfl,S⟩:=E
  refine⟨_,_,_,by rw[aI aj.g4];rfl,_,rfl,⟨by omega,u⟩,?_⟩
  rw[show Int.toNat (k:Int)=k by omega]
  obtain⟨p1,p2⟩:=aj.mark m 2
  refine⟨p1,λaW be=>?_⟩
  obtain⟨Y,ct⟩:=p2 aW be
  have cZ:H.size<=X.size:=f.fr.size
  have l3:c3<X.size:=f.g3.lt c3 (by simp)
  have bm:eg≠c3:=by omega
  have a4:=ct.get (by simp;exact bm) (b9.get d4)
  have a7:=Y.small
  have cp:eg ∉ q.s::y9 b:=λh=>by have:=a7 eg h;omega
  refine⟨_,by rw[aI Y.g0];rfl,e.1,by rw[aI a4];rfl,HC.mono (jY Y.tg z.1) ?_⟩
  rintro _ c5 ⟨rfl,ci,cu⟩
  have a9:Fr (q.s::y9 b) aW c5:=cu.mono (λi F _=>Dt _ F)
  have Z:=Y.go ci a9
  have ay:=a9.get cp a4
  refine⟨_,rfl,_,by rw[aI Z.g0];rfl,_,by rw[aI Z.g0];rfl,e.2,fG ay 1,HC.mono (jY Z.tg z.2) ?_⟩
  rintro _ dy ⟨rfl,cj,cv⟩
  have ak:=Z.go cj (cv.mono (λi F _=>Dt _ F))
  refine⟨_,rfl,kl ak.g0,HC.mono (ya ak.tg (Sp.visit_word Z.tg.ok z.2) (Sp.visit_word Y.tg.ok z.1)) ?_⟩
  rintro _ dz ⟨ck,cw⟩
  have al:=ak.go ck (cw.mono (λi F _=>Dt _ F))
  refine⟨_,by rw[aI al.g0];rfl,HC.mono (qc al.tg af d0) ?_⟩
  rintro _ c6 ⟨s',d5,cQ,cP,cm,bw,cx⟩
  have b5:=al.go cm cx
  refine⟨⟨s',d5,d.set k 2,.step bj av Q S aw cQ cP,bw,b5⟩,?_⟩
  show qs c6 c3<qs bT c3
  rw[b5.g3.ones,d6]
  have:=mV d Q
  omega
 rw[za u]
 obtain rfl:k=l.length:=by omega
 refine⟨lB,l.length,lC,by rw[aI f.g2];rfl,λoB oN oC i A=> ∃k:Nat,i=k/\k<=l.length/\oN=((((l.zip d).take k).foldl (iN t.old t.tgt) (p,[])).2).length/\Own A 36 2 oB oN oC (AK (((l.zip d).take k).foldl (iN t.old t.tgt) (p,[])).2)/\(∀j∈kd oB,X.size<=j)/\oN<=k/\X.size<=A.size/\
   GdL H b {x with sp:=(((l.zip d).take k).foldl (iN t.old t.tgt) (p,[])).1} q {t with seen:=V} c c2 c3 c4 lB lC l d A,λ_ _ _ i _=>(l.length-i).toNat,⟨0,rfl,by omega,by rw[List.take_zero];rfl,by rw[List.take_zero];exact gI,λj y=>by simp at y,by omega,CU _,by rw[List.take_zero];exact f⟩,?_⟩
 rintro oB oN oC _ b1 ⟨k,rfl,hk,a3,ho,I,dn,zA,a0⟩
 have dL:(l.zip d).length=l.length:=by rw[List.length_zip];have:=f.len;omega
 by_cases L:(k:Int)< (l.length:Int)
 case neg=>
  rw[za L]
  obtain rfl:k=l.length:=by omega
  have cX:Own b1 36 2 oB oN oC (AK (Ak t.old t.tgt p l d).2):=by
   unfold Ak
   rw[De (by omega)]at ho;exact ho
  have bn:oN=(Ak t.old t.tgt p l d).2.length:=by
   unfold Ak
   rw[De (by omega)]at a3;exact a3
  have S':GdL H b {x with sp:=(Ak t.old t.tgt p l d).1} q {t with seen:=V} c c2 c3 c4 lB lC l d b1:=by
   unfold Ak
   rw[De (by omega)]at a0;exact a0
  have dd:=f.fr.size
  exact hR _ _ ⟨p,V,d,oB,oC,bj,aw,by rw[bn],by rw[<-bn];exact cX,λj y=>by have:=I j y;omega,S'.tg,af,S'.fr⟩
 rw[qB L]
 have m:k<l.length:=by omega
 have hd:((l.length:Int)-((k:Int)+1)).toNat< ((l.length:Int)-(k:Int)).toNat:=by omega
 rw[xT (n:=(k:Int)+1) (by omega)]
 obtain⟨a,ha,hr⟩:=a0.row k m
 have cV:k<d.length:=by have:=f.len;omega
 have d1:(l.zip d).take (k+1)=(l.zip d).take k++[(l[k],d[k])]:=by rw[Db (by omega),List.getElem_zip]
 have w:((l.zip d).take (k+1)).foldl (iN t.old t.tgt) (p,[])=iN t.old t.tgt (((l.zip d).take k).foldl (iN t.old t.tgt) (p,[])) (l[k],d[k]):=by rw[d1,D5];rfl
 have Q:d[k]?=some d[k]:=List.getElem?_eq_getElem cV
 have z:=ax m
 generalize ((l.zip d).take k).foldl (iN t.old t.tgt) (p,[])=st at*
 generalize l[k]=e at*
 generalize d[k]=lv at*
 obtain⟨W,O⟩:=st
 refine⟨a,ha,⟨by omega,L⟩,e.1,e.2,by rw[show Int.toNat (k:Int)=k by omega];exact hr,λeh c7 cO bf=>?_⟩
 obtain⟨da,dc⟩:=lY (A3:=aP c7 (Addr.mk eh 0 none) [vu e.1,vu e.2] 0) cO bf [vu e.1,vu e.2] rfl
 refine⟨da,λc8 bg=>?_⟩
 obtain⟨k7,P⟩:=dc rfl
 rw[<-bg]at k7 P
 have bz:c8[eh]?=some (.cells #[vu e.1,vu e.2] 36 (0,0)):=k7
 have M:=a0.ext P
 have ac:=ho.ext P
 have ek:Int.toNat (k:Int)=k:=by omega
 refine⟨_,_,_,by rw[aI M.g4];rfl,_,rfl,⟨by omega,L⟩,lv,by rw[ek];exact M.atMark Q,?_⟩
 by_cases h2:lv<2
 case neg=>
  rw[za h2]
  have o:iN t.old t.tgt (W,O) (e,lv)=(W,O):=by unfold iN;rw[za (λq=>h2 q.1)]
  exact⟨⟨k+1,by omega,by omega,by rw[w,o];exact a3,by rw[w,o];exact ac,I,by omega,by have:=P.size;omega,by rw[w,o];exact M⟩,hd⟩
 rw[qB h2]
 refine⟨_,by rw[aI M.g0];rfl,e.2,fG bz 1,HC.mono (kP M.tg.toTc z.2) ?_⟩
 rintro _ c9 ⟨rfl,a1⟩
 refine⟨_,rfl,?_⟩
 rw[qt T.on]
 have N:=M.ext a1
 have ae:=ac.ext a1
 by_cases S:reachedB t.old W.mem e.2=true
 case neg=>
  rw[za S]
  have o:iN t.old t.tgt (W,O) (e,lv)=(W,O):=by unfold iN;rw[za (λq=>S q.2)]
  exact⟨⟨k+1,by omega,by omega,by rw[w,o];exact a3,by rw[w,o];exact ae,I,by omega,by have:=P.size;have:=a1.size;omega,by rw[w,o];exact N⟩,hd⟩
 rw[qB S]
 have o:iN t.old t.tgt (W,O) (e,lv)=(((W.visit t.old t.tgt e.1).1.visit t.old t.tgt e.2).1,O++[((W.visit t.old t.tgt e.1).2,((W.visit t.old t.tgt e.1).1.visit t.old t.tgt e.2).2)]):=by unfold iN;rw[qB ⟨h2,S⟩]
 have J:=a1.get bz
 refine⟨_,by rw[aI N.g0];rfl,e.1,by rw[aI J];rfl,_,by rw[aI N.g0];rfl,e.2,fG J 1,HC.mono (jY N.tg z.1) ?_⟩
 rintro _ b2 ⟨rfl,cn,cy⟩
 have K:Fr (q.s::y9 b) c9 b2:=cy.mono (λi F _=>Dt _ F)
 have am:=N.go cn K
 have a7:=N.small
 have dd:=f.fr.size
 have dU:=a0.fr.size
 have cq:eh ∉ q.s::y9 b:=λh=>by have:=a7 eh h;omega
 have az:=K.get cq J
 refine⟨_,rfl,kl am.g0,⟨fG az 1,EO⟩,HC.mono (jY am.tg z.2) ?_⟩
 rintro _ b3 ⟨rfl,co,cz⟩
 have a2:Fr (q.s::y9 b) b2 b3:=cz.mono (λi F _=>Dt _ F)
 have cg:=am.go co a2
 refine⟨_,rfl,λe3 cc cG aa=>?_⟩
 have an:Ext b3 cc:=CI aa
 have g:=cg.ext an
 have bl: ∀j∈kd oB,j ∉ q.s::y9 b:=λj y h=>by have:=a7 j h;have:=I j y;omega
 have bp:=((ae.keep K bl).keep a2 bl).ext an
 have e0:=g.fr.size
 have dY:=a2.size
 have dX:=K.size
 have dW:=a1.size
 have dV:=P.size
 have dv:=an.size
 refine cI (ys:=[vu (W.visit t.old t.tgt e.1).2,vu ((W.visit t.old t.tgt e.1).1.visit t.old t.tgt e.2).2]) bp (kl (aF cG aa)) rfl rfl rfl (by omega) ?_
 intro B' c' cd bq D bo
 have G: ∀j∈kd oB,j≠c/\j≠c2/\j≠c3/\j≠c4/\j ∉ b.all/\j ∉ q.all/\j ∉ kd lB:=λj y=>by
  have dJ:=I j y
  have l0:=aS f.g0
  have l2:=aS f.g2
  have l4:=aS f.g4
  have l3:c3<X.size:=f.g3.lt c3 (by simp)
  exact⟨by omega,by omega,by omega,by omega,λh=>by have:=f.all j (.inl h);omega,λh=>by have:=f.all j (.inr h);omega,λh=>by have:=(f.lb j h).1;omega⟩
 have ch:GdL H b {x with sp:=((W.visit t.old t.tgt e.1).1.visit t.old t.tgt e.2).1} q {t with seen:=V} c c2 c3 c4 lB lC l d cd:=
  ⟨g.tg.stay D (λj y=>(G j y).2.2.2.2.1) (λj y=>(G j y).2.2.2.2.2.1),D.get (λh=>(G _ h).1 rfl) g.g0,D.get (λh=>(G _ h).2.1 rfl) g.g2,D.get (λh=>(G _ h).2.2.2.1 rfl) g.g4,g.g3.keep D (λj y h=>(G j h).2.2.1 (by simpa using y)),g.row.keep D (λj y h=>(G j h).2.2.2.2.2.2 y),g.fr.trans' D (λi F _=>F) (λi F u=>by have:=I i F;omega),g.new,g.lb,g.all,g.len⟩
 refine⟨⟨k+1,by omega,by omega,by rw[w,o,CV,a3];rfl,?_,λj y=>?_,by omega,by have:=D.size;omega,by rw[w,o];exact ch⟩,hd⟩
 ·rw[w,o,tf];exact bq
 ·rcases bo j y with h | h
  ·exact I j h
  ·omega
variable{d:Blk}{i:Hp}{H:zV}{j:List Int}{k:Tr}{o:Int}{r:TB}
theorem HpAt.putSy2(h:HpAt H d i)(v:Value):aH H ((Addr.mk d.h 0 none).add 1) 0 1/\HpAt (aP H ((Addr.mk d.h 0 none).add 1) [v] 0) d {i with sy:=v}/\Fr [d.h] H (aP H ((Addr.mk d.h 0 none).add 1) [v] 0):=by
 obtain⟨a,b⟩:=mx h.h 1 v (by simp)
 obtain⟨g,f⟩:=b _ rfl
 refine⟨a,⟨h.cd.keep f ?_ ?_ ?_ ?_,h.ne,g⟩,f⟩<;>have:=h.ne<;>simp<;>omega
theorem Tg.putSy{a:zV}{v:Value}(T:Tg H d i r k)(c:HpAt a d {i with sy:=v})(f:Fr [d.h] H a):Tg a d {i with sy:=v} r k:=
 ⟨⟨c,T.ok,T.tr.keep f (λe b h=>by
  simp at b
  exact T.apart e h (by rw[b];simp[Blk.all])),T.apart⟩,T.even,T.cf,T.on⟩
def js(O:Nat->Bool)(m:Mem)(l:List Int):List Int:=(l.filter λw=>decide (¬aO O w) || (m.fwd w).isSome).map λw=>if aO O w then(m.fwd w).getD 0 else w
theorem mE{O:Nat->Bool}{m:Mem}:js O m (j++[o])=js O m j++if(decide (¬aO O o) || (m.fwd o).isSome)=true then[if aO O o then(m.fwd o).getD 0 else o]else[]:=by
 unfold js
 rw[D7,C7]
 congr 1
 rw[List.filter_cons]
 by_cases h:(decide (¬aO O o) || (m.fwd o).isSome)=true
 ·rw[qB h,qB h];rfl
 ·rw[za h,za h];rfl
theorem rZ{t:Tr}{E:zW}{lC:Nat}(T:Tg H d i r t)(hs:dO H E (yE j))(hw: ∀w∈j,aD w)(O: ∀am∈kd E,am ∉ d.all)(hl:j.length<=1000000):
  jK.C (some ⟨r.t,0,none⟩) E j.length lC H (λv I=> ∃B c,v=.slice B (js t.old i.sp.mem j).length c/\Own I 28 1 B (js t.old i.sp.mem j).length c (yE (js t.old i.sp.mem j))/\(∀am∈kd B,H.size<=am)/\Tg I d i r t/\Fr (y9 d) H I):=by
 refine HC.via λR hR=>jK.link ?_
 unfold jK.pt zY
 refine HC.mono (mD T.toTc) ?_
 rintro _ U ⟨rfl,rfl⟩
 refine⟨_,rfl,?_⟩
 rw[za (by rw[T.on];decide)]
 refine⟨λB n c al A=> ∃k:Nat,al=k/\k<=j.length/\n=(js t.old i.sp.mem (j.take k)).length/\Own A 28 1 B n c (yE (js t.old i.sp.mem (j.take k)))/\(∀am∈kd B,U.size<=am)/\Tg A d i r t/\Fr (y9 d) U A,λ_ _ _ al _=>(j.length-al).toNat,
  ⟨0,rfl,by omega,rfl,gI,by simp,T,Fr.refl _ _⟩,?_⟩
 rintro B n c al A ⟨k,rfl,hk,rfl,G,f,J,p⟩
 by_cases e:(k:Int)< (j.length:Int)
 case neg=>
  rw[za e]
  obtain rfl:k=j.length:=by omega
  rw[D9]at G⊢
  exact hR _ _ ⟨B,c,rfl,G,f,J,p⟩
 rw[qB e]
 have g:k<j.length:=by omega
 have Z:((j.length:Int)-((k:Int)+1)).toNat< ((j.length:Int)-(k:Int)).toNat:=by omega
 rw[xT (n:=(k:Int)+1) (by omega)]
 have S:dO A E (yE j):=by
  cases E with
  | none=>exact hs
  | some a=>exact p.rowAt (λh=>O a.block (by simp) (jO h)) hs
 obtain⟨a,ha,s⟩:=rU S (k:=k) (v:=vu j[k]) (by unfold yE;rw[List.getElem?_map,List.getElem?_eq_getElem g];rfl)
 have D:=hw _ (CS g)
 have m:j.take (k+1)=j.take k++[j[k]]:=Db g
 have a1:(js t.old i.sp.mem (j.take k)).length<=k:=by
  unfold js
  rw[Dl]
  refine Dz (En _ _) ?_
  rw[Di];omega
 generalize j[k]=w at*
 refine⟨a,ha,⟨by omega,e⟩,_,s,?_⟩
 refine HC.mono (kP J.toTc D) ?_
 rintro _ H4 ⟨rfl,o⟩
 refine⟨_,rfl,?_⟩
 have Q:decide (¬(t.over=false/\aO t.old w))=decide (¬aO t.old w):=by
  by_cases h:aO t.old w
  ·rw[zQ (show ¬ ¬(t.over=false/\aO t.old w)from λr=>r ⟨T.on,h⟩),zQ (show ¬ ¬aO t.old w from λr=>r h)]
  ·rw[zX (show ¬(t.over=false/\aO t.old w)from λr=>h r.2),zX (show ¬aO t.old w from h)]
 rw[Q]
 have W:=J.grow o
 have z4:=o.size
 have zA:=p.size
 by_cases l:(decide (¬aO t.old w) || (i.sp.mem.fwd w).isSome)=true
 case neg=>
  rw[za l]
  exact⟨⟨k+1,by omega,by omega,by rw[m,mE,za l,DC],by rw[m,mE,za l,DC];exact G.ext o,f,W,p.trans o.fr⟩,Z⟩
 rw[qB l]
 have z:i.sp.visit t.old t.tgt w=(i.sp,if aO t.old w then(i.sp.mem.fwd w).getD 0 else w):=by
  by_cases h:aO t.old w
  ·rw[qB h]
   cases hf:i.sp.mem.fwd w with
   | none=>rw[hf,zQ (show ¬ ¬aO t.old w from λr=>r h)]at l;exact absurd l (by decide)
   | some v=>rw[Sp.visit_fwd h hf];rfl
  ·rw[za h];exact Ea h
 refine HC.mono (jY W D) ?_
 rintro _ H5 ⟨rfl,X,K⟩
 rw[z]at X⊢
 refine⟨_,rfl,λb6 V L q=>?_⟩
 have F:Ext H5 V:=CI q
 have T6:Tg V d i r t:=X.grow F
 have y: ∀am∈y9 d,am∈d.all:=λam b=>jO b
 have M: ∀am∈kd B,am ∉ y9 d:=λam b h=>by have:=T.lt (.inl (y am h));have:=f am b;omega
 have z5:=K.size
 have z6:=F.size
 refine cI (ys:=yE [if aO t.old w then(i.sp.mem.fwd w).getD 0 else w]) (((G.ext o).keep K (λam b=>M am b)).ext F) (eJ (aF L q) _ 0 0 (λam b=>by
  simp only[yE,List.map_cons,List.map_nil,List.length_cons,List.length_nil]at b
  obtain rfl:am=0:=by omega
  rfl)) rfl (gO _) rfl (by omega) ?_
 intro B' c' H7 u Y P
 have T7:Tg H7 d i r t:=T6.stay Y (λam b h=>by have:=T.lt (.inl h);have:=f am b;omega) (λam b h=>by have:=T.lt (.inr h);have:=f am b;omega)
 have x:js t.old i.sp.mem (j.take (k+1))=js t.old i.sp.mem (j.take k)++[if aO t.old w then(i.sp.mem.fwd w).getD 0 else w]:=by rw[m,mE,qB l]
 have N:(js t.old i.sp.mem (j.take (k+1))).length=(js t.old i.sp.mem (j.take k)).length+1:=by rw[x,CV];rfl
 refine⟨⟨k+1,by omega,by omega,N.symm,?_,λam b=>?_,T7,?_⟩,Z⟩
 ·rw[x]
  unfold yE at u⊢
  rw[C7]
  exact u
 ·rcases P am b with h | h
  ·exact f am h
  ·omega
 ·exact(((p.trans o.fr).trans K).trans F.fr).trans' Y (λam b _=>b) (λam b e=>by have:=f am b;omega)
def rv(O:Nat->Bool)(fw:Int->Option Int)(w:Int):Bool:=decide (¬aO O w) || (fw (w / 8)).isSome
def o8(O:Nat->Bool)(fw:Int->Option Int)(l:List Int):List Int:=(l.filter (rv O fw)).map (Fw O fw)
theorem ta.pruned{Z:TZ}{A u g B:Sp}{D:Int->Nat}{c:Int->Option Int}(C:ta Z A o k c j D u g B)(z:k.old=Z.O){l:List Int}(s: ∀w∈l,aD w/\Good Z.m Z.sz w):
  js k.old g.mem l=o8 k.old c l:=by
 have t:=C.t
 have S:=t.S
 rw[z]
 have key: ∀w,aD w->Good Z.m Z.sz w->aO Z.O w->g.mem.fwd w=(c (w / 8)).map λb=>b*8+w % 8:=λw i d a=>by
  rw[<-t.tri.fwd_is S i d a]
  obtain⟨x,y,E,F⟩:=S.oldWord d a
  have n:=t.tri.heads.used (S.sound.used _ x).1
  have e:=C.brk.old _ n y
  unfold Mem.fwd
  rw[e]
  have p:g.mem.used (w / 8) ↔ u.mem.used (w / 8):=C.brk.same.used
  exact kQ ⟨λq=>⟨n,q.2⟩,λq=>⟨p.2 n,q.2⟩⟩ _ _
 induction l with
 | nil=>rfl
 | cons w l f=>
  have f:=f (λv h=>s v (by simp[h]))
  obtain⟨i,d⟩:=s w (by simp)
  have r:(decide (¬aO Z.O w) || (g.mem.fwd w).isSome)=rv Z.O c w:=by
   unfold rv
   by_cases a:aO Z.O w
   ·rw[key w i d a,Option.isSome_map]
   ·rw[zX (show ¬aO Z.O w from a)];rfl
  unfold js o8 at f⊢
  by_cases hk:rv Z.O c w=true
  ·rw[EI (by rw[r];exact hk),EI hk,List.map_cons,List.map_cons,f]
   congr 1
   by_cases a:aO Z.O w
   ·rw[qB a,key w i d a]
    unfold rv at hk
    rw[zQ (show ¬ ¬aO Z.O w from λq=>q a)]at hk
    obtain⟨v,h⟩:=D4.1 (by simpa using hk)
    rw[h,kq a h];rfl
   ·rw[za a,jv a]
  ·rw[EA (by rw[r];exact hk),EA hk,f]
structure uJ (K:zV->List Int->Prop) (S:List Nat) (H H':zV) (b:Blk) (x:Hp) (sz:Int->Nat) (g T:Int) (roots:List Int) (el:List (Int×Int)) (syl:List Int) (V:Int->Prop) (q:Int->Option Int) (P:List Int) (fw:Int->Option Int) (al:List Int) (sz':Int->Nat) (tr:Tr) (s3 s4 s5:Sp) (out:List (Int×Int)):Prop where
 col:ta ⟨x.sp.mem,sz,tr.old,T,V,q,P⟩ x.sp g tr fw al sz' s3 s4 s5
 own:K H' (roots.map (Fw tr.old fw))
 kept: ∀w∈roots,V w
 fr:Fr (b.all++S) H H'
 cf:s5.cf<=x.sp.cf+1024
 none:el=[]->P=[]/\(∀y,q y=none)/\ ∀v,V v->v∈roots
 ents:(∀e∈out,∃e0∈el,e=(Fw tr.old fw e0.1,Fw tr.old fw e0.2)/\Dn tr.old fw e0.1/\Dn tr.old fw e0.2)/\out.length<=el.length
 at': ∃B c oB oC,HpAt H' b {x with sp:=s5,sy:=.slice B (o8 tr.old fw syl).length c,en:=vs oB out.length oC,ep:=IntKind.wrap .u64 (x.ep+1)}/\Own H' 28 1 B (o8 tr.old fw syl).length c (yE (o8 tr.old fw syl))/\(∀j∈kd B,H.size<=j)/\Own H' 36 2 oB out.length oC (AK out)/\(∀j∈kd oB,H.size<=j)/\ ∀j∈kd B,j ∉ kd oB
theorem HpAt.putEn2(h:HpAt H d i)(v:Value):aH H ((Addr.mk d.h 0 none).add 2) 0 1/\HpAt (aP H ((Addr.mk d.h 0 none).add 2) [v] 0) d {i with en:=v}/\Fr [d.h] H (aP H ((Addr.mk d.h 0 none).add 2) [v] 0):=by
 obtain⟨a,b⟩:=mx h.h 2 v (by simp)
 obtain⟨g,f⟩:=b _ rfl
 refine⟨a,⟨h.cd.keep f ?_ ?_ ?_ ?_,h.ne,g⟩,f⟩<;>have:=h.ne<;>simp<;>omega
theorem Tg.putEn{a:zV}{v:Value}(T:Tg H d i r k)(c:HpAt a d {i with en:=v})(f:Fr [d.h] H a):Tg a d {i with en:=v} r k:=
 ⟨⟨c,T.ok,T.tr.keep f (λe b h=>by
  simp at b
  exact T.apart e h (by rw[b];simp[Blk.all])),T.apart⟩,T.even,T.cf,T.on⟩
theorem sc{K:zV->List Int->Prop}{S:List Nat}{ra:Addr}(Ce:Cel S ra K){x:Hp}{sz:Int->Nat}{T:Int}{k:Nat}{pB:zW}{pN pC:Nat}(hp:HpAt H d x)(I:Inv x.sp sz)(cu:x.sp.cf<4611686018427387904){eB:zW}{eC:Nat}{m:List (Int×Int)}(bl:x.en=vs eB m.length eC)(aw:Own H 36 2 eB m.length eC (AK m))(L: ∀dH∈kd eB,dH ∉ d.all/\dH ∉ S)(U: ∀e∈m,oZ x.sp.mem sz e)(cA:m.length<=1000000){sB:zW}{sC:Nat}{f:List Int}(cM:x.sy=vs sB f.length sC)(bO:Own H 28 1 sB f.length sC (yE f))(u: ∀dH∈kd sB,dH ∉ d.all/\dH ∉ S)(bT: ∀w∈f,aD w/\Good x.sp.mem sz w)(cL:f.length<=1000000)(hg:Ah o)(hT:Ah T)
  (hr:K H j) (a7: ∀dH∈S,dH ∉ d.all) (bI:dO H pB (zR k ra j.length)) (dr:pN=k+j.length) (bB: ∀dH∈kd pB,dH ∉ d.all/\dH ∉ S/\dH<H.size) (W: ∀w∈j,aD w/\Good x.sp.mem sz w) (hl:pN<=1000000000):
  iC.C (some ⟨d.h,0,none⟩) o T pB pN pC H (λv H'=>(iM x.sp o T ((m.length / 32+1:Nat):Int)≠0->v=vi (iM x.sp o T ((m.length / 32+1:Nat):Int))/\Ext H H')/\
   (iM x.sp o T ((m.length / 32+1:Nat):Int)=0->v=vi 0/\ ∃V q P fw al a8 tr s3 p s5 z,uJ K S H H' d x sz o T j m f V q P fw al a8 tr s3 p s5 z)):=by
 refine HC.via λR hR=>iC.link ?_
 unfold iC.pt zY
 rw[CK]
 have ok:=I.ok
 have ax:lD.C (some ⟨d.h,0,none⟩) H (λv H'=>v=vi ((m.length / 32+1:Nat):Int)/\H'=H):=by
  refine HC.via λR hR=>lD.link ?_
  unfold lD.pt zY
  refine⟨_,rfl,eB,m.length,eC,?_,hR _ _ ⟨?_,rfl⟩⟩
  ·rw[fG hp.h 2];exact CJ some bl
  ·rw[jw (by omega),xT (n:=(m.length:Int) / 32) (by omega),xT (n:=(m.length:Int) / 32+1) (by omega)]
   congr 1
 generalize dq:((m.length / 32+1:Nat):Int)=J at*
 have ae:0<=J/\J<=1000001/\((m.length / 32:Nat):Int)<=J:=by omega
 refine HC.mono ax ?_
 rintro _ H1 ⟨rfl,rfl⟩
 refine⟨_,rfl,?_⟩
 refine HC.mono (uf hp ok I.even cu hg hT (by constructor<;>omega)) ?_
 rintro v2 H2 ⟨cE,c5⟩
 by_cases D:iM x.sp o T J=0
 case neg=>
  obtain⟨rfl,e2⟩:=cE D
  refine⟨_,_,rfl,?_⟩
  rw[za D]
  exact hR _ _ ⟨λ_=>⟨rfl,e2⟩,λh=>absurd h D⟩
 obtain⟨q,t,rfl,T2,B,hq,f2⟩:=c5 D
 refine⟨_,_,rfl,?_⟩
 rw[qB rfl]
 obtain rfl:=B.tgt
 have d3:=nJ ae.1 D
 have cX:=hp.lt
 have bM:=Ce.lt hr
 have c: ∀dH∈y9 d,dH∈d.all:=λdH b=>jO b
 have z2:=f2.size
 have bN: ∀dH∈S,dH ∉ q.all:=λdH b h=>by have:=bM dH b;have:=hq dH h;omega
 have hw: ∀w∈j,aD w:=λw h=>(W w h).1
 have cJ:=Ce.keep hr f2 (λdH b h=>a7 dH b (c dH h))
 have ag:dO H2 pB (zR k ra j.length):=by
  cases pB with
  | none=>exact bI
  | some a=>
   have E:=bB a.block (by simp)
   exact f2.rowAt (λh=>E.1 (c _ h)) bI
 have ey:({x with sp:=x.sp.fresh (eZ o)}:Hp).sp=x.sp.fresh (eZ o):=rfl
 generalize Z:({x with sp:=x.sp.fresh (eZ o)}:Hp)=y at*
 refine⟨λi A=>(0<=i/\i<=pN)/\Tg A d {y with sp:=(y.sp.visL t.old t.tgt (j.take (i-k).toNat)).1} q t/\K A ((y.sp.visL t.old t.tgt (j.take (i-k).toNat)).2++j.drop (i-k).toNat)/\Fr (y9 d++S) H2 A,λi _=>(pN-i).toNat,
  ⟨⟨by omega,by omega⟩,?_,?_,Fr.refl _ _⟩,?_⟩
 ·rw[show((0:Int)-(k:Int)).toNat=0 by omega];exact T2
 ·rw[show((0:Int)-(k:Int)).toNat=0 by omega];exact cJ
 rintro i A ⟨hi,TA,hA,fA⟩
 by_cases a4:i< (pN:Int)
 case pos=>
  rw[qB a4]
  have hd:((pN:Int)-(i+1)).toNat< ((pN:Int)-i).toNat:=by omega
  rw[xT (n:=i+1) (by omega)]
  have ah:dO A pB (zR k ra j.length):=by
   cases pB with
   | none=>exact ag
   | some a=>
    have E:=bB a.block (by simp)
    exact fA.rowAt (λh=>by rcases CM.1 h with h | h;exact E.1 (c _ h);exact E.2.1 h) ag
  by_cases dn:i<k
  ·obtain⟨a,ha,Q⟩:=rU ah (xf (k:=k) (i:=i.toNat) (by omega))
   refine⟨a,ha,⟨hi.1,a4⟩,_,Q,?_⟩
   rw[CP]
   rw[show(i-(k:Int)).toNat=0 by omega]at TA hA
   exact⟨⟨⟨by omega,by omega⟩,by rw[show(i+1-(k:Int)).toNat=0 by omega];exact TA,by rw[show(i+1-(k:Int)).toNat=0 by omega];exact hA,fA⟩,hd⟩
  ·obtain⟨dH,b⟩: ∃dH:Nat,i=k+dH:=⟨(i-k).toNat,by omega⟩
   have a3:dH<j.length:=by omega
   subst b
   rw[show((k:Int)+(dH:Int)-(k:Int)).toNat=dH by omega]at TA hA
   obtain⟨a,ha,Q⟩:=rU ah (xg (k:=k) (a:=ra) a3)
   refine⟨a,ha,⟨hi.1,a4⟩,_,by rw[show((k:Int)+(dH:Int)).toNat=k+dH by omega];exact Q,?_⟩
   rw[CK]
   have b0:=Sp.visL_len t.old t.tgt y.sp (j.take dH)
   rw[Di,Nat.min_eq_left (by omega)]at b0
   have bo:dH< ((y.sp.visL t.old t.tgt (j.take dH)).2++j.drop dH).length:=by rw[CV,List.length_drop];omega
   have cB:((y.sp.visL t.old t.tgt (j.take dH)).2++j.drop dH)[dH]=j[dH]:=by
    rw[List.getElem_append_right (by omega)]
    simp only[b0,Nat.sub_self,List.getElem_drop,Nat.add_zero]
   have ab:=Ce.at' hA bo
   rw[cB]at ab
   refine⟨_,ab,?_⟩
   have bp:=CS a3
   refine HC.mono (jY TA (hw _ bp)) ?_
   rintro _ A2 ⟨rfl,cn,be⟩
   have cp:=Ce.keep hA be (λdH b h=>a7 dH b (c dH h))
   obtain⟨cw,hs⟩:=Ce.put ((y.sp.visL t.old t.tgt (j.take dH)).1.visit t.old t.tgt j[dH]).2 cp bo
   refine⟨_,rfl,cw,λA3 cq=>?_⟩
   obtain⟨bs,f3⟩:=hs A3 cq
   have cN:j.take (dH+1)=j.take dH++[j[dH]]:=Db a3
   have bU:y.sp.visL t.old t.tgt (j.take (dH+1))=(((y.sp.visL t.old t.tgt (j.take dH)).1.visit t.old t.tgt j[dH]).1,(y.sp.visL t.old t.tgt (j.take dH)).2++[((y.sp.visL t.old t.tgt (j.take dH)).1.visit t.old t.tgt j[dH]).2]):=by rw[cN,Sp.visL_snoc]
   have F:((y.sp.visL t.old t.tgt (j.take dH)).2++j.drop dH).set dH ((y.sp.visL t.old t.tgt (j.take dH)).1.visit t.old t.tgt j[dH]).2=(y.sp.visL t.old t.tgt (j.take (dH+1))).2++j.drop (dH+1):=by
    rw[bU,List.set_append,za (by omega),b0,Nat.sub_self,EN a3,List.set_cons_zero,DL]
    rfl
   rw[F]at bs
   refine⟨⟨⟨by omega,by omega⟩,?_,?_,?_⟩,hd⟩
   ·rw[show((k:Int)+(dH:Int)+1-(k:Int)).toNat=dH+1 by omega,bU]
    exact cn.stay f3 (λi hi h=>a7 i hi h) (λi hi h=>bN i hi h)
   ·rw[show((k:Int)+(dH:Int)+1-(k:Int)).toNat=dH+1 by omega];exact bs
   ·exact(fA.trans (be.mono (λi hi _=>Dg _ hi))).trans (f3.mono (λi hi _=>Du _ hi))
 rw[za a4]
 have ac:(i-(k:Int)).toNat=j.length:=by omega
 rw[ac,D9]at TA
 rw[ac,D9,List.drop_length,DC]at hA
 refine HC.mono (uc TA (B.cardsOK ok.mem)) ?_
 rintro _ H6 ⟨T6,f6⟩
 refine HC.mono (qc T6 (B.seenOK ok.mem) (by omega)) ?_
 rintro _ H7 ⟨s3,cQ,cy,cx,T7,bR,f7⟩
 have bX:y.en=vs eB m.length eC:=by rw[<-Z];exact bl
 have c7:y.sy=vs sB f.length sC:=by rw[<-Z];exact cM
 have d1:y.ep=x.ep:=by rw[<-Z]
 have bk: ∀dH∈kd eB,dH ∉ d.all++q.all:=λdH b h=>by
  rcases CM.1 h with h | h
  ·exact(L dH b).1 h
  ·have:=aw.lt dH b;have:=hq dH h;omega
 have cz:Own A 36 2 eB m.length eC (AK m):=(aw.keep f2 (λdH b h=>(L dH b).1 (c dH h))).keep fA (λdH b h=>by
  rcases CM.1 h with h | h
  ·exact(L dH b).1 (c dH h)
  ·exact(L dH b).2 h)
 have bj:Own H7 36 2 eB m.length eC (AK m):=(cz.keep f6 (λdH b h=>(L dH b).1 (c dH h))).keep f7 (λdH b h=>bk dH b (by
  rcases CR.1 h with h | h
  ·rw[h];simp[TB.all]
  ·exact Dg _ (c dH h)))
 refine⟨eB,m.length,eC,by rw[fG T7.hp.h 2];exact CJ some bX,?_⟩
 have bm:=bj.lt
 refine HC.mono (qK T7 bR (show 0<=t.tgt by omega) bj.entries (λe h=>⟨(U e h).1.1,(U e h).2.1⟩) (λdH b=>⟨bm dH b,(L dH b).1,λh=>by have:=aw.lt dH b;have:=hq dH h;omega⟩) cA) ?_
 rintro _ H8 ⟨p,k4,aj,gB,gC,cs,cC,rfl,Y,g,T8,d4,f8⟩
 have c6:y.sp=x.sp.fresh (eZ o):=by rw[<-Z]
 have bi:iG t.old t.tgt (((x.sp.fresh (eZ o)).visL t.old t.tgt j).1.lookCards t.old t.tgt t.cards) t.seen s3 cQ:=by rw[<-c6];exact cy
 obtain⟨V,qq,P,fw,al,a8,ON,cP,cK,F,cY,bq⟩:=rW I ae.2.2 D B W U bi cx cs cC
 have bu:=xj ON U F
 have bw:=xk ON U F
 have az:=we t.old fw m aj
 rw[bu]at T8 Y
 rw[bu]
 generalize AQ t.old fw m aj=z at*
 replace Y:Own H8 36 2 gB z.length gC (AK z):=Y
 obtain⟨bh,bA,f9⟩:=T8.hp.putEn2 (vs gB z.length gC)
 refine⟨_,_,_,rfl,bh,λH9 cr=>?_⟩
 rw[<-cr]at bA f9
 have T9:=T8.putEn bA f9
 refine HC.mono (qJ T9 (B.frmOK ok.mem) (B.cardsOK ok.mem)) ?_
 rintro _ a1 ⟨l,bn,M,N⟩
 refine⟨sB,f.length,sC,by rw[fG M.hp.h 1,<-c7];rfl,?_⟩
 have ai: ∀dH∈kd sB,dH ∉ d.all++q.all:=λdH b h=>by
  rcases CM.1 h with h | h
  ·exact(u dH b).1 h
  ·have:=bO.lt dH b;have:=hq dH h;omega
 have aV: ∀dH∈q.s::y9 d,dH∈d.all++q.all:=λdH b=>by
  rcases CR.1 b with h | h
  ·rw[h];simp[TB.all]
  ·exact Dg _ (c dH h)
 have bS:Own A 28 1 sB f.length sC (yE f):=(bO.keep f2 (λdH b h=>(u dH b).1 (c dH h))).keep fA (λdH b h=>by
  rcases CM.1 h with h | h
  ·exact(u dH b).1 (c dH h)
  ·exact(u dH b).2 h)
 have aW:Own a1 28 1 sB f.length sC (yE f):=(((((bS.keep f6 (λdH b h=>(u dH b).1 (c dH h))).keep f7 (λdH b h=>ai dH b (aV dH h))).keep f8 (λdH b h=>ai dH b (aV dH h))).keep f9 (λdH b h=>(u dH b).1 (by simp at h;rw[h];simp[Blk.all])))).keep N (λdH b h=>(u dH b).1 (c dH h))
 refine HC.mono (rZ M aW.src (λw h=>(bT w h).1) (λdH b=>(u dH b).1) cL) ?_
 rintro _ da ⟨oB,oC,rfl,cG,a5,ba,bb⟩
 obtain⟨av,af,O⟩:=ba.hp.putSy2 (.slice oB (js t.old _ f).length oC)
 refine⟨_,_,_,rfl,av,λb9 bg=>?_⟩
 rw[<-bg]at af O
 have cj:=ba.putSy af O
 refine HD.mono (vV cj) ?_
 rintro am ⟨bz,cO,ao⟩
 have C:ta ⟨x.sp.mem,sz,t.old,t.tgt,V,qq,P⟩ x.sp o t fw al a8 p {p with mem:=(p.mem.weaks t l).foldl (yR t.old) p.mem} (({p with mem:=(p.mem.weaks t l).foldl (yR t.old) p.mem}:Sp).ended t):=Tri.ends ON.S ON.tri I.marked B rfl ON.fin ON.roots bn
 have sX: ∀dH∈y9 d,dH∈d.all++q.all:=λdH b=>Dg _ (c dH b)
 have G:Fr (d.all++q.all) A am:=by
  have df:Fr (d.all++q.all) A H6:=f6.mono (λdH b _=>sX dH b)
  have a2:Fr (d.all++q.all) H6 H7:=f7.mono (λdH b _=>by
   rcases CR.1 b with h | h
   ·rw[h];simp[TB.all]
   ·exact sX dH h)
  have di:Fr (d.all++q.all) H7 b9:=((((f8.mono (λdH b _=>aV dH b)).trans (f9.mono (λdH b _=>by simp at b;rw[b];simp[Blk.all]))).trans (N.mono (λdH b _=>sX dH b))).trans (bb.mono (λdH b _=>sX dH b))).trans (O.mono (λdH b _=>by simp at b;rw[b];simp[Blk.all]))
  have dj:Fr (d.all++q.all) b9 am:=ao.mono (λdH b _=>by
   rcases CR.1 b with h | h
   ·rw[h];simp[Blk.all]
   ·rcases CR.1 h with h | h
    ·rw[h];simp[TB.all]
    ·exact sX dH h)
  exact((df.trans a2).trans di).trans dj
 have a6:=Ce.keep hA G (λdH b h=>by
  rcases CM.1 h with h | h
  ·exact a7 dH b h
  ·exact bN dH b h)
 have FA:Fr (d.all++S) H1 A:=(f2.mono (λdH b _=>Dg _ (c dH b))).trans (fA.mono (λdH b _=>by
  rcases CM.1 b with h | h
  ·exact Dg _ (c dH h)
  ·exact Du _ h))
 have bC:=C.pruned rfl bT
 have zb:=M.lt (i:=d.h) (.inl (by simp[Blk.all]))
 have dw:H1.size<=a1.size:=by
  have:=f2.size;have:=fA.size;have:=f6.size;have:=f7.size;have:=f8.size;have:=f9.size;have:=N.size
  omega
 have z7:H1.size<=H7.size:=by
  have:=f2.size;have:=fA.size;have:=f6.size;have:=f7.size
  omega
 have r: ∀dH,dH∈d.all\/dH∈q.all->dH<H7.size:=λdH b=>T7.lt b
 have X: ∀dH∈d.h::q.t::y9 d,dH<a1.size/\dH<H7.size:=λdH b=>by
  rcases CR.1 b with h | h
  ·rw[h];exact⟨zb,r _ (.inl (by simp[Blk.all]))⟩
  rcases CR.1 h with h | h
  ·rw[h];exact⟨M.lt (.inr (by simp[TB.all])),r _ (.inr (by simp[TB.all]))⟩
  ·exact⟨M.lt (.inl (c dH h)),r _ (.inl (c dH h))⟩
 have aU:=(cG.keep O (λdH b h=>by simp at h;have:=a5 dH b;omega)).keep ao (λdH b h=>by have:=a5 dH b;have:=(X dH h).1;omega)
 have br:Own am 36 2 gB z.length gC (AK z):=((((Y.keep f9 (λdH b h=>by simp at h;have:=g dH b;have:=r d.h (.inl (by simp[Blk.all]));omega)).keep N (λdH b h=>by have:=g dH b;have:=r dH (.inl (c dH h));omega)).keep bb (λdH b h=>by have:=g dH b;have:=r dH (.inl (c dH h));omega)).keep O (λdH b h=>by simp at h;have:=g dH b;have:=r d.h (.inl (by simp[Blk.all]));omega)).keep ao (λdH b h=>by have:=g dH b;have:=(X dH h).2;omega)
 have cZ:=Sp.ended_cf ({p with mem:=(p.mem.weaks t l).foldl (yR t.old) p.mem}:Sp) t
 have cv:({p with mem:=(p.mem.weaks t l).foldl (yR t.old) p.mem}:Sp).cf=p.cf:=by
  unfold Sp.cf
  show((p.mem.weaks t l).foldl (yR t.old) p.mem).count+((p.mem.weaks t l).foldl (yR t.old) p.mem).free=_
  rw[C.brk.same.count,C.brk.same.free]
 have ay: ∀dH∈kd gB,dH<a1.size:=λdH b=>((Y.keep f9 (λdH b h=>by simp at h;have:=g dH b;have:=r d.h (.inl (by simp[Blk.all]));omega)).keep N (λdH b h=>by have:=g dH b;have:=r dH (.inl (c dH h));omega)).lt dH b
 refine hR _ _ ⟨λh=>absurd D h,λ_=>⟨rfl,V,qq,P,fw,al,a8,t,p,_,_,z,⟨C,?_,cK,?_,by omega,bq,⟨bw,az⟩,oB,oC,gB,gC,?_,?_,λdH b=>by have:=a5 dH b;omega,br,λdH b=>by have:=g dH b;omega,λdH b h=>by have:=a5 dH b;have:=ay dH h;omega⟩⟩⟩
 ·rw[<-cP,<-c6];exact a6
 ·exact FA.trans' G (λdH b _=>b) (λdH b hl=>by
   rcases CM.1 b with h | h
   ·exact Dg _ h
   ·have:=hq dH h;omega)
 ·have:=bz
  rw[<-Z]at this
  rw[<-bC]
  exact this
 ·rw[<-bC];exact aU
