/-
 A trace that is on puts a thing behind a guardian's queue. Proves nothing of any one statement.
-/
import Derived.Test.YtfhbhckhmnleoaaGreatGcJ
set_option linter.unusedVariables false
set_option linter.unusedSimpArgs false
set_option maxRecDepth 100000
namespace Go.Proofs.YtfhbhckhmnleoaaGreat
open Go
section
variable {Z:TZ} {g F0:Int} {fw:Int->Option Int} {al:List Int} {s:Sp} {sz:Int->Nat} {ks:List (Int×Value)}
theorem Tri.places(S:aX Z g F0)(t:Tri Z F0 fw al s sz){a:Int}(h:sz a≠0){i:Nat}(b:i<sz a):s.mem.used (a+i)/\(a+i) / 64=a / 64/\(a+i) % 64=a % 64+i:=by
 rcases t.szn a h with q | ⟨d,q⟩ | q
 ·have e:=t.sz0 a q
  rw[e]at h b
  have:=S.sound.usedAt h b (λk=>(S.ok.seg k).n.2)
  exact⟨t.heads.used this.1,this.2⟩
 ·obtain⟨j,c⟩:=t.img d a q
  have m:=c.fit
  exact⟨c.here i (by omega),by omega,by omega⟩
 ·have N:=t.pair a q
  have f:=N.used.1.1
  have l:=N.even
  rw[N.sz]at b
  refine⟨?_,by omega,by omega⟩
  rcases(show i=0\/i=1 by omega)with rfl | rfl
  ·simpa using N.used.1
  ·exact N.used.2
theorem Tri.pairs(S:aX Z g F0)(t:Tri Z F0 fw al s sz){a:Int}(h:sz a≠0)(hk:s.mem.kAt a<=1):sz a=2/\a % 2=0:=by
 rcases t.szn a h with q | ⟨c,q⟩ | q
 ·have e:=t.sz0 a q
  rw[e]at h⊢
  exact S.sound.two a h (by rw[<-(t.kAt q).1];exact hk)
 ·obtain⟨d,f⟩:=t.img c a q
  have b:Z.m.kAt c<=1:=by rw[<-f.kind];exact hk
  rw[d]
  exact⟨(S.sound.two c (by rw[<-d];exact h) b).1,f.even b⟩
 ·exact⟨(t.pair a q).sz,(t.pair a q).even⟩
theorem Tri.obj(S:aX Z g F0)(t:Tri Z F0 fw al s sz){a:Int}(h:sz a≠0)(n:Z.O (a / 64).toNat=false)(k:2<=s.mem.kAt a):jO (s.mem.get a)/\s.mem.kAt a=yM (hk (s.mem.get a))/\(sz a:Int)=hn (s.mem.get a)+1:=by
 have d:Z.q a=none:=by
  cases d:Z.q a with
  | none=>rfl
  | some w=>have:=(t.qok a w d).head h;omega
 have key: ∀v,zs Z fw a v->jO v->s.mem.get a=v:=λv o m=>by
  rcases t.val a v (.inr ⟨d,o⟩)with e | ⟨_,_,e⟩
  ·exact e
  ·rw[e,jv (oL m _)]
 rcases t.szn a h with q | ⟨c,q⟩ | q
 ·have e:=t.sz0 a q
  have hk:=(t.kAt q).1
  obtain⟨b,f,i⟩:=S.sound.obj a (by rw[<-e];exact h) (by rw[<-hk];exact k)
  rw[key _ (.inl ⟨q,n,rfl⟩) b,hk,e]
  exact⟨b,f,i⟩
 ·obtain⟨j,l⟩:=t.img c a q
  obtain⟨b,f,i⟩:=S.sound.obj c (by rw[<-j];exact h) (by rw[<-l.kind];exact k)
  rw[key _ (.inr ⟨c,a,0,q,by omega,by simp,by simp⟩) b,l.kind,j]
  exact⟨b,f,i⟩
 ·have:=(t.pair a q).kind;omega
theorem Tri.alone(t:Tri Z F0 fw al s sz){a:Int}(h:sz a≠0){i:Nat}(c:0<i)(d:i<sz a):sz (a+i)=0:=by
 by_cases b:sz (a+i)=0
 ·exact b
 ·have:=t.apart a (a+i) h b (by omega);omega
theorem Tri.outOf(S:aX Z g F0)(t:Tri Z F0 fw al s sz){w:Int}(d:Good s.mem sz w)(e: ¬aO Z.O w)(a:bE w):Z.O (w / 8 / 64).toNat=false/\gJ w/\s.mem.used (w / 8):=by
 have b:=t.sz_used S (d.2 a).1
 have i:=t.ok.mem.lim
 have h:=b.2.1.2.1
 have f:=b.1
 have c:gJ w:=⟨by unfold bE at a;omega,by omega⟩
 refine⟨?_,c,b⟩
 by_cases q:Z.O (w / 8 / 64).toNat=true
 ·exact absurd ⟨c,by unfold bE at a;omega,q⟩ e
 ·simpa using q
theorem Tri.isPair(S:aX Z g F0)(t:Tri Z F0 fw al s sz){w:Int}(i:Good s.mem sz w)(n: ¬aO Z.O w):s.mem.isPair w ↔ w % 8=1\/w % 8=2:=by
 constructor
 ·intro m
  rcases m.1 with q | q
  ·exact .inl q.2.1
  ·exact .inr q.2.1
 ·intro h
  have j:bE w:=by unfold bE;omega
  obtain⟨k,a⟩:=i.2 j
  obtain⟨_,f,d⟩:=t.outOf S i n j
  unfold zp at a
  have e:s.mem.kAt (w / 8)<=1:=by
   by_cases b:s.mem.kAt (w / 8)=0
   ·omega
   ·rw[za b]at a
    by_cases c:s.mem.kAt (w / 8)=1
    ·omega
    ·rw[za c]at a;omega
  have l:=(t.pairs S k e).2
  refine⟨?_,l⟩
  by_cases b:s.mem.kAt (w / 8)=0
  ·rw[qB b]at a;exact .inl ⟨f,a,d.2.1,b,d.2.2⟩
  ·rw[za b]at a
   by_cases c:s.mem.kAt (w / 8)=1
   ·rw[qB c]at a;exact .inr ⟨f,a,d.2.1,c,d.2.2⟩
   ·rw[za c]at a;omega
theorem Tri.cdrAt(S:aX Z g F0)(t:Tri Z F0 fw al s sz){w:Int}(f:Good s.mem sz w)(n: ¬aO Z.O w)(h:w % 8=1\/w % 8=2):s.mem.used (w / 8+1)/\Z.O ((w / 8+1) / 64).toNat=false/\s.mem.strong (w / 8+1)/\sz (w / 8+1)=0/\s.mem.kAt (w / 8+1)<=1:=by
 have j:bE w:=by unfold bE;omega
 obtain⟨b,c⟩:=f.2 j
 obtain⟨m,q,r⟩:=t.outOf S f n j
 have e:=(t.ok.mem.seg (w / 8 / 64).toNat).kind
 have e:0<=s.mem.kAt (w / 8)/\s.mem.kAt (w / 8)<=3:=e
 have a:s.mem.kAt (w / 8)<=1:=by
  unfold zp at c
  by_cases o:s.mem.kAt (w / 8)=0
  ·omega
  ·rw[za o]at c
   by_cases p:s.mem.kAt (w / 8)=1
   ·omega
   ·rw[za p]at c;omega
 obtain⟨u,v⟩:=t.pairs S b a
 obtain⟨k,d,x⟩:=t.places S b (i:=1) (by omega)
 have l:w / 8+((1:Nat):Int)=w / 8+1:=rfl
 rw[l]at k d
 have hk:s.mem.kAt (w / 8+1)=s.mem.kAt (w / 8):=by unfold Mem.kAt;rw[d]
 refine⟨k,by rw[d];exact m,?_,t.alone b (i:=1) (by decide) (by omega),by rw[hk];exact a⟩
 unfold Mem.strong
 rw[hk]
 exact⟨by omega,.inr (by omega)⟩
structure GdAt (Z:TZ) (s:Sp) (sz:Int->Nat) (gd:Int):Prop where
 tag:gd % 8=3
 three:sz (gd / 8)=3
 kind:s.mem.kAt (gd / 8)=2
 out:Z.O (gd / 8 / 64).toNat=false
 used: ∀i:Nat,i<3->s.mem.used (gd / 8+i)/\(gd / 8+i) / 64=gd / 8 / 64
 alone: ∀i:Nat,0<i->i<3->sz (gd / 8+i)=0
 head:jO (s.mem.get (gd / 8))/\hk (s.mem.get (gd / 8))=10/\hn (s.mem.get (gd / 8))=2
theorem GdAt.strong{a:Int}(h:GdAt Z s sz a){i:Nat}(b:i<3):s.mem.kAt (a / 8+i)=2/\s.mem.strong (a / 8+i)/\Z.O ((a / 8+i) / 64).toNat=false:=by
 have e:=(h.used i b).2
 have hk:s.mem.kAt (a / 8+i)=2:=by unfold Mem.kAt;rw[e];exact h.kind
 refine⟨hk,?_,by rw[e];exact h.out⟩
 unfold Mem.strong
 rw[hk];exact⟨by decide,.inl (by decide)⟩
theorem Tri.gdAt(S:aX Z g F0)(t:Tri Z F0 fw al s sz){a:Int}(h:Good s.mem sz a)(p: ¬aO Z.O a)(n:a % 8=3)(d:hk (s.mem.get (a / 8))=10/\hn (s.mem.get (a / 8))=2):GdAt Z s sz a:=by
 have k:bE a:=by unfold bE;omega
 obtain⟨c,b⟩:=h.2 k
 obtain⟨j,z,A⟩:=t.outOf S h p k
 have y:0<=s.mem.kAt (a / 8)/\s.mem.kAt (a / 8)<=3:=(t.ok.mem.seg (a / 8 / 64).toNat).kind
 have e:2<=s.mem.kAt (a / 8):=by
  unfold zp at b
  by_cases l:s.mem.kAt (a / 8)=0
  ·rw[qB l]at b;omega
  ·rw[za l]at b
   by_cases v:s.mem.kAt (a / 8)=1
   ·rw[qB v]at b;omega
   ·omega
 obtain⟨q,r,u⟩:=t.obj S c j e
 rw[d.2]at u
 have f:sz (a / 8)=3:=by omega
 exact⟨n,f,by rw[r,d.1];rfl,j,λi o=>by
  obtain⟨w,x,_⟩:=t.places S c (i:=i) (by omega)
  exact⟨w,x⟩,λi m o=>t.alone c m (by omega),q,d⟩
theorem GdAt.isObj(t:Tri Z F0 fw al s sz){a:Int}(h:GdAt Z s sz a):s.mem.isObj a/\s.mem.typ a=10/\s.mem.len a=2:=by
 have c:s.mem.used (a / 8):=by simpa using(h.used 0 (by decide)).1
 obtain⟨f,e⟩:=h.used 2 (by decide)
 have k:=t.ok.mem.lim
 have j:=c.2.1.2.1
 have i:=c.1
 have hn:=(t.ok.mem.seg (a / 8 / 64).toNat).n
 have b:s.mem.isObj a:=by
  refine⟨⟨⟨by have:=h.tag;omega,by omega⟩,h.tag,c.2.1,?_,c.2.2⟩,h.head.1,?_⟩
  ·rw[h.head.2.1];exact h.kind
  ·rw[h.head.2.2]
   have:=f.2.2
   have d:(a / 8+2) / 64=a / 8 / 64:=e
   rw[show(a / 8+((2:Nat):Int))=a / 8+2 from rfl,d]at this
   omega
 exact⟨b,by unfold Mem.typ;rw[qB b];exact h.head.2.1,by unfold Mem.len;rw[qB b];exact h.head.2.2⟩
theorem GdAt.field(t:Tri Z F0 fw al s sz){a:Int}(h:GdAt Z s sz a){i:Int}(e:i=0\/i=1):s.mem.fieldE a 10 i=0:=by
 obtain⟨b,c,d⟩:=h.isObj t
 unfold Mem.fieldE
 rw[za (λq=>by rcases q with q | q;exact q b;exact q c),za (by rw[d];omega)]
theorem Tri.gdOf(S:aX Z g F0)(t:Tri Z F0 fw al s sz){b:Int}(e:Good s.mem sz b)(f: ¬aO Z.O b)(c:s.mem.typ b=10)(d:s.mem.len b=2):GdAt Z s sz b:=by
 by_cases a:s.mem.isObj b
 ·unfold Mem.typ at c
  unfold Mem.len at d
  rw[qB a]at c d
  exact t.gdAt S e f a.1.2.1 ⟨c,d⟩
 ·unfold Mem.typ at c
  rw[za a]at c;exact absurd c (by decide)
theorem GdAt.keep{a:Int}(h:GdAt Z s sz a){Z':TZ}{s':Sp}{c:Int->Nat}(k:Z'.O=Z.O)(d:gY s.mem s'.mem)(e: ∀y,s.mem.used y->c y=sz y)(l:s'.mem.get (a / 8)=s.mem.get (a / 8)):GdAt Z' s' c a:=by
 have f:s.mem.used (a / 8):=by simpa using(h.used 0 (by decide)).1
 exact⟨h.tag,(e _ f).trans h.three,(d.kAt f).1.trans h.kind,by rw[k];exact h.out,λi b=>⟨d.used (h.used i b).1,(h.used i b).2⟩,λi j b=>(e _ (h.used i b).1).trans (h.alone i j b),by rw[l];exact h.head⟩
theorem Good.keep{m c:Mem}{sz a:Int->Nat}{v:Int}(h:Good m sz v)(e:gY m c)(i: ∀y,sz y≠0->m.used y)(j: ∀y,m.used y->a y=sz y):Good c a v:=⟨h.1,λf=>by
 obtain⟨b,d⟩:=h.2 f
 have u:=i _ b
 rw[j _ u,(e.kAt u).1];exact⟨b,d⟩⟩
def qZ(v:Int):Prop:=v % 8=1\/v % 8=2
instance (v:Int):Decidable (qZ v):=by unfold qZ;infer_instance
def nT(m:Mem)(gd th p x:Int):Int:=
 if x=p then th else if x=p+1 then 20 else if x=gd / 8+2 then p*8+1 else if x=(if qZ (m.get (gd / 8+2))then m.get (gd / 8+2) / 8+1 else gd / 8+1)then p*8+1 else m.get x
structure xO (Z:TZ) (F0:Int) (fw:Int->Option Int) (al:List Int) (s:Sp) (sz:Int->Nat) (ks:List (Int×Value)) (gd th p:Int) (q:Int->Option Int) (s':Sp) (sz':Int->Nat):Prop where
 tri:Tri {Z with q:=q,P:=p::Z.P} F0 fw al s' sz'
 pend:Pend {Z with q:=q,P:=p::Z.P} fw s' ks
 heads:gY s.mem s'.mem
 new: ¬s.mem.used p/\ ¬s.mem.used (p+1)
 used: ∀x,s'.mem.used x ↔ s.mem.used x\/x=p\/x=p+1
 get: ∀x,s'.mem.used x->s'.mem.get x=nT s.mem gd th p x
 szo: ∀y,s.mem.used y->sz' y=sz y
 done: ∀y,s.mem.used y->Done Z fw s y->Done {Z with q:=q,P:=p::Z.P} fw s' y
 qo: ∀y,s.mem.used y->y≠gd / 8+2->y≠(if qZ (s.mem.get (gd / 8+2))then s.mem.get (gd / 8+2) / 8+1 else gd / 8+1)->q y=Z.q y
 qz: ∀y,Z.q y≠none->q y≠none
 cf:s'.cf=s.cf
theorem Tri.putsG(S:aX Z g F0)(t:Tri Z F0 fw al s sz)(p:Pend Z fw s ks){a d:Int}(bl:aD a)(ay:Good s.mem sz a)(az: ¬aO Z.O a)(b0:aD d)(aW:Good s.mem sz d)(b1: ¬aO Z.O d)(aZ:bE d)
  (a2:2*((Z.yk 0:Int)+Z.yk 1+Z.yk 2+Z.yk 3)+8+(((Z.P.length+1) / 32:Nat):Int)<=F0)
  (hg:s.mem.typ a=10/\s.mem.len a=2) (hf: ∀i:Nat,i=1\/i=2->Done Z fw s (a / 8+i))
  (hl:qZ (s.mem.get (a / 8+2))->Good s.mem sz (s.mem.get (a / 8+2))/\ ¬aO Z.O (s.mem.get (a / 8+2))/\Done Z fw s (s.mem.get (a / 8+2) / 8+1)):
  ∃p q b5,xO Z F0 fw al s sz ks a d p q (s.putsG Z.T a d) b5:=by
 obtain⟨c,a9⟩:=t.cap
 have aV:=a9.room t.ok S.sound S.ok t.olds S.room
 have ba:=S.rng
 have ac:Ar Z.T 0 2:=⟨by omega,.inl ⟨.inl rfl,rfl⟩⟩
 have a8:=Sp.alloc_can t.ok ac aV
 have A:=t.putP S b0 (by decide:aD 20) b1 (λo=>absurd o.1.1 (by decide)) aW ⟨by decide,λh=>absurd h (by decide)⟩ (.inl aZ) (.inr rfl) a8 rfl rfl rfl
 have aa:(s.alloc Z.T 0 2).1.cf=s.cf:=Sp.alloc_cf _ _ _ _
 have e0:s.putT Z.T d 20=({(s.alloc Z.T 0 2).1 with mem:=(s.alloc Z.T 0 2).1.mem.sets (s.alloc Z.T 0 2).2.1 [d,20]},(s.alloc Z.T 0 2).2.1*8+1):=by unfold Sp.putT;rw[qB a8]
 have R:({(s.alloc Z.T 0 2).1 with mem:=(s.alloc Z.T 0 2).1.mem.sets (s.alloc Z.T 0 2).2.1 [d,20]}:Sp).cf=s.cf:=by
  have h:=bG.sets [d,20] (s.alloc Z.T 0 2).1.mem (s.alloc Z.T 0 2).2.1
  rw[<-aa]
  unfold Sp.cf
  show((s.alloc Z.T 0 2).1.mem.sets _ _).count+((s.alloc Z.T 0 2).1.mem.sets _ _).free=_
  rw[h.count,h.free]
 generalize ({(s.alloc Z.T 0 2).1 with mem:=(s.alloc Z.T 0 2).1.mem.sets (s.alloc Z.T 0 2).2.1 [d,20]}:Sp)=b at*
 generalize (s.alloc Z.T 0 2).2.1=pa at*
 generalize bb:(λx=>if x=pa then 2 else sz x)=k at*
 obtain⟨N,w2,w3,w4⟩:=A.word
 have w5:bE (pa*8+1)\/pa*8+1=20:=.inl (by unfold bE;omega)
 have K:aX (Z.putP pa d 20) g F0:=S.putP a2
 have m:=A.tri
 have p1:=p.putP S t A
 have ag: ∀y,sz y≠0->s.mem.used y:=λy h=>t.sz_used S h
 have Q:=t.gdOf S ay az hg.1 hg.2
 have e1: ∀{z:Int},z+((1:Nat):Int)=z+1:=rfl
 have e2: ∀{z:Int},z+((2:Nat):Int)=z+2:=rfl
 have u0:s.mem.used (a / 8):=by simpa using(Q.used 0 (by decide)).1
 have u1:s.mem.used (a / 8+1):=(Q.used 1 (by decide)).1
 have u2:s.mem.used (a / 8+2):=(Q.used 2 (by decide)).1
 have V:GdAt (Z.putP pa d 20) b k a:=Q.keep rfl A.heads.l A.szo (A.get _ u0)
 have H:b.mem.lastG a=s.mem.get (a / 8+2):=by
  unfold Mem.lastG
  rw[qB (V.field m (.inr rfl)),show a / 8+1+1=a / 8+2 by omega,A.get _ u2]
 have d1: ∀i:Nat,i=1\/i=2->Done (Z.putP pa d 20) fw b (a / 8+i):=λi hi=>A.done t (Q.used i (by omega)).1 (hf i hi)
 have v: ∀y,s.mem.used y->y≠pa/\y≠pa+1:=λy r=>⟨λe=>A.new.1 (e▸r),λe=>A.new.2 (e▸r)⟩
 have ev:s.putsG Z.T a d={b with mem:=b.mem.queued a (pa*8+1)}:=by
  unfold Sp.putsG
  rw[qB hg,e0,za w4]
 rw[ev]
 by_cases j:qZ (s.mem.get (a / 8+2))
 ·obtain⟨l1,l2,l3⟩:=hl j
  have U:Good b.mem k (s.mem.get (a / 8+2)):=l1.keep A.heads.l ag A.szo
  obtain⟨W,c2,c3,c4,c5⟩:=m.cdrAt K U l2 j
  obtain⟨b8,b2,b3,b4,bL⟩:=t.cdrAt S l1 l2 j
  have ae:s.mem.get (a / 8+2) / 8+1≠a / 8/\s.mem.get (a / 8+2) / 8+1≠a / 8+1/\s.mem.get (a / 8+2) / 8+1≠a / 8+2:=by
   have k0:=Q.kind
   have k1:s.mem.kAt (a / 8+1)=2:=(Q.strong (i:=1) (by decide)).1
   have k2:s.mem.kAt (a / 8+2)=2:=(Q.strong (i:=2) (by decide)).1
   refine⟨λe=>?_,λe=>?_,λe=>?_⟩
   ·rw[e,k0]at bL;omega
   ·rw[e,k1]at bL;omega
   ·rw[e,k2]at bL;omega
  have aw:Done (Z.putP pa d 20) fw b (s.mem.get (a / 8+2) / 8+1):=A.done t b8 l3
  generalize hL:s.mem.get (a / 8+2)=L at*
  obtain⟨I,B⟩:=m.write K W c2 c3 aw (λh=>absurd c4 h) N w3 w2 w5
  have p2:=p1.write K m W B
  have f:=Mem.store_headsL m.ok.mem (x:=L / 8+1) N
  have S2:=K.wrt (L / 8+1) (pa*8+1)
  have M:GdAt ((Z.putP pa d 20).wrt (L / 8+1) (pa*8+1)) {b with mem:=(b.mem.store (L / 8+1) (pa*8+1)).1} k a:=V.keep rfl f (λ_ _=>rfl) (by
   show(b.mem.store (L / 8+1) (pa*8+1)).1.get _=_
   rw[Mem.store_get W _ u0.1,za (λe=>ae.1 e.symm)])
  have hq:b.mem.queued a (pa*8+1)=((b.mem.store (L / 8+1) (pa*8+1)).1.store (a / 8+2) (pa*8+1)).1:=by
   have ab:=(m.isPair K U l2).2 j
   have hE:b.mem.hsetE L 1 (pa*8+1)=0:=by unfold Mem.hsetE;rw[qB ab];exact Mem.store_0 m.ok.mem W N
   have hS:b.mem.hset L 1 (pa*8+1)=(b.mem.store (L / 8+1) (pa*8+1)).1:=by unfold Mem.hset;rw[qB ab]
   unfold Mem.queued
   rw[H,qB hE,hS]
   unfold Mem.fset
   rw[qB (M.field I (.inr rfl)),show a / 8+1+1=a / 8+2 by omega]
  have J:=(M.used 2 (by decide)).1
  have n:=M.strong (i:=2) (by decide)
  rw[e2]at J n
  have X:Done ((Z.putP pa d 20).wrt (L / 8+1) (pa*8+1)) fw {b with mem:=(b.mem.store (L / 8+1) (pa*8+1)).1} (a / 8+2):=(d1 2 (.inr rfl)).wrt m W (A.heads.used u2) (λe=>ae.2.2 e.symm)
  have a1:Good (b.mem.store (L / 8+1) (pa*8+1)).1 k (pa*8+1):=w2.keep f (λy h=>m.sz_used K h) (λ_ _=>rfl)
  obtain⟨t3,C⟩:=I.write S2 J n.2.2 n.2.1 X (λh=>absurd (M.alone 2 (by decide) (by decide)) h) N w3 a1 w5
  have p3:=p2.write S2 I J C
  have Y:=Mem.store_headsL I.ok.mem (x:=a / 8+2) N
  rw[hq]
  have E:({b with mem:=((b.mem.store (L / 8+1) (pa*8+1)).1.store (a / 8+2) (pa*8+1)).1}:Sp).cf=s.cf:=by
   rw[<-R]
   unfold Sp.cf
   show((b.mem.store _ _).1.store _ _).1.count+((b.mem.store _ _).1.store _ _).1.free=_
   rw[Mem.store_lim.2.2,Mem.store_lim.2.1,Mem.store_lim.2.2,Mem.store_lim.2.1]
  refine⟨pa,_,k,t3,p3,(A.heads.l.trans f).trans Y,A.new,λx=>?_,λx w=>?_,A.szo,λy r a0=>?_,λy r D u=>?_,λy h=>?_,E⟩
  ·show((b.mem.store _ _).1.store _ _).1.used x ↔ _
   rw[Mem.store_used,Mem.store_used,A.used]
  ·have w:((b.mem.store (L / 8+1) (pa*8+1)).1.store (a / 8+2) (pa*8+1)).1.used x:=w
   rw[Mem.store_used,Mem.store_used]at w
   show((b.mem.store (L / 8+1) (pa*8+1)).1.store (a / 8+2) (pa*8+1)).1.get x=_
   have a5:(b.mem.store (L / 8+1) (pa*8+1)).1.used (a / 8+2):=J
   rw[Mem.store_get a5 x w.1,Mem.store_get W x w.1]
   unfold nT
   rw[hL,qB j]
   have n1:=v _ u2
   have n2:=v _ b8
   by_cases D:x=pa
   ·rw[qB D,za (by omega),za (by omega),D,A.car]
   rw[za D]
   by_cases u:x=pa+1
   ·rw[qB u,za (by omega),za (by omega),u,A.cdr]
   rw[za u]
   refine ite_congr rfl (λ_=>rfl) (λ_=>ite_congr rfl (λ_=>rfl) (λ_=>?_))
   exact A.get x (((A.used x).1 w).resolve_right (by omega))
  ·have F:=A.done t r a0
   have G:Done ((Z.putP pa d 20).wrt (L / 8+1) (pa*8+1)) fw {b with mem:=(b.mem.store (L / 8+1) (pa*8+1)).1} y:=by
    by_cases e:y=L / 8+1
    ·rw[e];exact B
    ·exact F.wrt m W (A.heads.used r) e
   by_cases e:y=a / 8+2
   ·rw[e];exact C
   ·exact G.wrt I J (f.used (A.heads.used r)) e
  ·rw[hL,qB j]at u
   obtain⟨n1,n2⟩:=v y r
   show(if y=a / 8+2 then _ else if y=L / 8+1 then _ else if y=pa then _ else if y=pa+1 then _ else Z.q y)=_
   rw[za D,za u,za n1,za n2]
  ·show(if y=a / 8+2 then _ else if y=L / 8+1 then _ else if y=pa then _ else if y=pa+1 then _ else Z.q y)≠none
   split
   ·simp
   split
   ·simp
   split
   ·simp
   split
   ·simp
   ·exact h
 ·have af: ¬b.mem.isPair (s.mem.get (a / 8+2)):=λhp=>j (by
   rcases hp.1 with q | q
   ·exact .inl q.2.1
   ·exact .inr q.2.1)
  generalize hL:s.mem.get (a / 8+2)=L at*
  have v1:=(V.used 1 (by decide)).1
  have a3:=V.strong (i:=1) (by decide)
  rw[e1]at v1 a3
  obtain⟨I,B⟩:=m.write K v1 a3.2.2 a3.2.1 (d1 1 (.inl rfl)) (λh=>absurd (V.alone 1 (by decide) (by decide)) h) N w3 w2 w5
  have p2:=p1.write K m v1 B
  have f:=Mem.store_headsL m.ok.mem (x:=a / 8+1) N
  have S2:=K.wrt (a / 8+1) (pa*8+1)
  have M:GdAt ((Z.putP pa d 20).wrt (a / 8+1) (pa*8+1)) {b with mem:=(b.mem.store (a / 8+1) (pa*8+1)).1} k a:=V.keep rfl f (λ_ _=>rfl) (by
   show(b.mem.store (a / 8+1) (pa*8+1)).1.get _=_
   rw[Mem.store_get v1 _ u0.1,za (by omega)])
  have hq:b.mem.queued a (pa*8+1)=((b.mem.store (a / 8+1) (pa*8+1)).1.store (a / 8+2) (pa*8+1)).1:=by
   have hE: ¬b.mem.hsetE L 1 (pa*8+1)=0:=by unfold Mem.hsetE;rw[za af];decide
   have hS:b.mem.hset L 1 (pa*8+1)=b.mem:=by unfold Mem.hset;rw[za af]
   unfold Mem.queued
   rw[H,za hE,hS]
   have e:b.mem.fset a 10 0 (pa*8+1)=(b.mem.store (a / 8+1) (pa*8+1)).1:=by
    unfold Mem.fset
    rw[qB (V.field m (.inl rfl)),show a / 8+1+0=a / 8+1 by omega]
   rw[e]
   unfold Mem.fset
   rw[qB (M.field I (.inr rfl)),show a / 8+1+1=a / 8+2 by omega]
  have J:=(M.used 2 (by decide)).1
  have n:=M.strong (i:=2) (by decide)
  rw[e2]at J n
  have X:Done ((Z.putP pa d 20).wrt (a / 8+1) (pa*8+1)) fw {b with mem:=(b.mem.store (a / 8+1) (pa*8+1)).1} (a / 8+2):=(d1 2 (.inr rfl)).wrt m v1 (A.heads.used u2) (by omega)
  have a1:Good (b.mem.store (a / 8+1) (pa*8+1)).1 k (pa*8+1):=w2.keep f (λy h=>m.sz_used K h) (λ_ _=>rfl)
  obtain⟨t3,C⟩:=I.write S2 J n.2.2 n.2.1 X (λh=>absurd (M.alone 2 (by decide) (by decide)) h) N w3 a1 w5
  have p3:=p2.write S2 I J C
  have Y:=Mem.store_headsL I.ok.mem (x:=a / 8+2) N
  rw[hq]
  have E:({b with mem:=((b.mem.store (a / 8+1) (pa*8+1)).1.store (a / 8+2) (pa*8+1)).1}:Sp).cf=s.cf:=by
   rw[<-R]
   unfold Sp.cf
   show((b.mem.store _ _).1.store _ _).1.count+((b.mem.store _ _).1.store _ _).1.free=_
   rw[Mem.store_lim.2.2,Mem.store_lim.2.1,Mem.store_lim.2.2,Mem.store_lim.2.1]
  refine⟨pa,_,k,t3,p3,(A.heads.l.trans f).trans Y,A.new,λx=>?_,λx w=>?_,A.szo,λy r a0=>?_,λy r D u=>?_,λy h=>?_,E⟩
  ·show((b.mem.store _ _).1.store _ _).1.used x ↔ _
   rw[Mem.store_used,Mem.store_used,A.used]
  ·have w:((b.mem.store (a / 8+1) (pa*8+1)).1.store (a / 8+2) (pa*8+1)).1.used x:=w
   rw[Mem.store_used,Mem.store_used]at w
   show((b.mem.store (a / 8+1) (pa*8+1)).1.store (a / 8+2) (pa*8+1)).1.get x=_
   have a5:(b.mem.store (a / 8+1) (pa*8+1)).1.used (a / 8+2):=J
   rw[Mem.store_get a5 x w.1,Mem.store_get v1 x w.1]
   unfold nT
   rw[hL,za j]
   have n1:=v _ u2
   have n2:=v _ u1
   by_cases D:x=pa
   ·rw[qB D,za (by omega),za (by omega),D,A.car]
   rw[za D]
   by_cases u:x=pa+1
   ·rw[qB u,za (by omega),za (by omega),u,A.cdr]
   rw[za u]
   refine ite_congr rfl (λ_=>rfl) (λ_=>ite_congr rfl (λ_=>rfl) (λ_=>?_))
   exact A.get x (((A.used x).1 w).resolve_right (by omega))
  ·have F:=A.done t r a0
   have G:Done ((Z.putP pa d 20).wrt (a / 8+1) (pa*8+1)) fw {b with mem:=(b.mem.store (a / 8+1) (pa*8+1)).1} y:=by
    by_cases e:y=a / 8+1
    ·rw[e];exact B
    ·exact F.wrt m v1 (A.heads.used r) e
   by_cases e:y=a / 8+2
   ·rw[e];exact C
   ·exact G.wrt I J (f.used (A.heads.used r)) e
  ·rw[hL,za j]at u
   obtain⟨n1,n2⟩:=v y r
   show(if y=a / 8+2 then _ else if y=a / 8+1 then _ else if y=pa then _ else if y=pa+1 then _ else Z.q y)=_
   rw[za D,za u,za n1,za n2]
  ·show(if y=a / 8+2 then _ else if y=a / 8+1 then _ else if y=pa then _ else if y=pa+1 then _ else Z.q y)≠none
   split
   ·simp
   split
   ·simp
   split
   ·simp
   split
   ·simp
   ·exact h
end
def reachedB(O:Nat->Bool)(m:Mem)(w:Int):Bool:=decide (¬aO O w) || (m.fwd w).isSome
def Bd(O:Nat->Bool)(fw:Int->Option Int)(w:Int):Bool:=decide (¬aO O w) || (fw (w / 8)).isSome
theorem nU{O:Nat->Bool}{fw:Int->Option Int}{w:Int}:Bd O fw w=true ↔ Dn O fw w:=by
 unfold Bd Dn
 by_cases h:aO O w
 ·rw[zQ (show ¬ ¬aO O w from λq=>q h),Bool.false_or,Option.isSome_iff_exists]
  exact⟨λq _=>q,λq=>q h⟩
 ·rw[zX h,Bool.true_or]
  exact⟨λ_ q=>absurd q h,λ_=>rfl⟩
def Fit(O:Nat->Bool)(m:Mem)(l:List (Int×Int))(lost:List Int)(i:Nat):Prop:= ∃e,l[i]?=some e/\lost[i]?=some 1/\reachedB O m e.2=true
def rI(O:Nat->Bool)(T:Int)(s:Sp)(e:Int×Int):Sp:=((s.visit O T e.1).1.visit O T e.2).1.putsG T ((s.visit O T e.1).1.visit O T e.2).2 (s.visit O T e.1).2
inductive Rdy (O:Nat->Bool) (T:Int) (l:List (Int×Int)) (s:Sp) (ks:List (Int×Value)) (lost:List Int):Sp->List (Int×Value)->List Int->Prop
 | refl:Rdy O T l s ks lost s ks lost
 | step {s1 s2:Sp} {k1 k2:List (Int×Value)} {lost1:List Int} {i:Nat} {e:Int×Int} (h:Rdy O T l s ks lost s1 k1 lost1) (he:l[i]?=some e) (hl:lost1[i]?=some 1) (hr:reachedB O s1.mem e.2=true) (hf: ∀j,j<i-> ¬Fit O s1.mem l lost1 j)
   (hd:iB O T (rI O T s1 e) k1 s2 k2) (hdd:lQ O T s2 k2):Rdy O T l s ks lost s2 k2 (lost1.set i 2)
def kz(O:Nat->Bool)(m:Mem)(l:List (Int×Int)):List Int:=l.map λe=>if reachedB O m e.1=true then 0 else 1
def iK(O:Nat->Bool)(T:Int)(st:Sp×List (Int×Int))(e:(Int×Int)×Int):Sp×List (Int×Int):=
 if e.2<2/\reachedB O st.1.mem e.1.2=true then(((st.1.visit O T e.1.1).1.visit O T e.1.2).1,st.2++[((st.1.visit O T e.1.1).2,((st.1.visit O T e.1.1).1.visit O T e.1.2).2)])else st
def zM(O:Nat->Bool)(T:Int)(s:Sp)(l:List (Int×Int))(lost:List Int):Sp×List (Int×Int):=(l.zip lost).foldl (iK O T) (s,[])
section
variable {Z:TZ} {g F0:Int} {fw:Int->Option Int} {al:List Int} {s:Sp} {sz:Int->Nat} {ks:List (Int×Value)}
theorem Tri.reachedB(S:aX Z g F0)(t:Tri Z F0 fw al s sz){w:Int}(b:aD w)(a:Good Z.m Z.sz w):reachedB Z.O s.mem w=Bd Z.O fw w:=by
 unfold Go.Proofs.YtfhbhckhmnleoaaGreat.reachedB Bd
 by_cases h:aO Z.O w
 ·rw[t.fwd_is S b a h,Option.isSome_map]
 ·rw[zX h];rfl
theorem Tri.visit_dn(S:aX Z g F0)(t:Tri Z F0 fw al s sz){w:Int}(f:aD w)(d:Good Z.m Z.sz w)(c:Dn Z.O fw w):s.visit Z.O Z.T w=(s,Fw Z.O fw w):=by
 by_cases h:aO Z.O w
 ·obtain⟨b,a⟩:=c h
  have e:=t.fwd_is S f d h
  rw[a]at e
  rw[Sp.visit_fwd h e,kr h a]
 ·rw[Sp.visit_no h,jv h]
theorem Tri.goodFw(S:aX Z g F0)(t:Tri Z F0 fw al s sz){v:Int}(n:aD v)(c:Good Z.m Z.sz v)(h:Dn Z.O fw v):aD (Fw Z.O fw v)/\Good s.mem sz (Fw Z.O fw v)/\ ¬aO Z.O (Fw Z.O fw v):=by
 refine⟨t.fw_word S n,?_,t.fw_young h⟩
 by_cases d:aO Z.O v
 ·obtain⟨b,f⟩:=h d
  obtain⟨a,e,p,k⟩:=S.oldWord c d
  obtain⟨j,o⟩:=t.img _ _ f
  rw[kr d f]
  refine⟨by have:=c.1;omega,λ_=>?_⟩
  rw[show(b*8+v % 8) / 8=b by omega,show(b*8+v % 8) % 8=v % 8 by omega,j,o.kind]
  exact⟨a,k⟩
 ·rw[jv d]
  refine⟨c.1,λl=>?_⟩
  obtain⟨a,e⟩:=c.2 l
  have i:=(S.sound.used _ a).1
  rw[t.sz0 _ i,(t.kAt i).1]
  exact⟨a,e⟩
theorem Tri.doneWord(S:aX Z g F0)(t:Tri Z F0 fw al s sz){x:Int}(k:s.mem.used x)(i:Z.O (x / 64).toNat=false)(j:s.mem.strong x)(f:Done Z fw s x):aD (s.mem.get x)/\Good s.mem sz (s.mem.get x)/\ ¬aO Z.O (s.mem.get x):=by
 obtain⟨v,a⟩:=t.was k i
 obtain⟨d,e⟩:=f v a
 rw[e]
 rcases a with h | ⟨_,h⟩
 ·have W:=t.qok x v h
  rw[jv W.young];exact⟨W.word,W.good,W.young⟩
 ·obtain⟨b,c⟩:=t.was0_any S h j.1
  exact t.goodFw S b c d
theorem Tri.sz_same(t:Tri Z F0 fw al s sz){Z':TZ}(hm:Z'.m=Z.m)(f:Z'.sz=Z.sz)(i: ∀p∈Z.P,p∈Z'.P){b:Int->Option Int}{d:List Int}{k:Sp}{c:Int->Nat}(e:Tri Z' F0 b d k c)(j:Le fw b){y:Int}(h:sz y≠0):c y=sz y:=by
 rcases t.szn y h with q | ⟨a,q⟩ | q
 ·rw[t.sz0 y q,e.sz0 y (by rw[hm];exact q),f]
 ·rw[(t.img a y q).1,(e.img a y (j _ _ q)).1,f]
 ·rw[(t.pair y q).sz,(e.pair y (i y q)).sz]
theorem Tri.stay(t:Tri Z F0 fw al s sz){a:Int->Option Int}{d:List Int}{b:Sp}{i:Int->Nat}(y:Tri Z F0 a d b i)(h:Le fw a)(hk:gY s.mem b.mem){x:Int}(j:s.mem.used x)(w:Z.O (x / 64).toNat=false)(u:s.mem.strong x->Done Z fw s x/\Done Z a b x):b.mem.get x=s.mem.get x:=by
 obtain⟨v,c⟩:=t.was j w
 by_cases e:s.mem.strong x
 ·obtain⟨p,r⟩:=u e
  obtain⟨k,l⟩:=p v c
  obtain⟨z,m⟩:=r v (c.mono h)
  rw[l,m,lS k h]
 ·have f: ¬b.mem.strong x:=λq=>e (by unfold Mem.strong at*;rw[<-(hk.kAt j).1];exact q)
  have n:s.mem.get x=v:=by
   rcases t.val x v c with q | ⟨q,_⟩
   ·exact q
   ·exact absurd q e
  have o:b.mem.get x=v:=by
   rcases y.val x v (c.mono h)with q | ⟨q,_⟩
   ·exact q
   ·exact absurd q f
  rw[n,o]
theorem xP{O:Nat->Bool}{fw:Int->Option Int}(v:Int):Fw O fw v % 8=v % 8:=by
 unfold Fw
 split
 ·cases fw (v / 8)with
  | none=>rfl
  | some b=>show(b*8+v % 8) % 8=_;omega
 ·rfl
structure On (M:Mem) (szM:Int->Nat) (O:Nat->Bool) (T g F0:Int) (V:Int->Prop) (q:Int->Option Int) (P:List Int) (fw:Int->Option Int) (al:List Int) (s:Sp) (sz:Int->Nat) (ks:List (Int×Value)):Prop where
 S:aX ⟨M,szM,O,T,V,q,P⟩ g F0
 tri:Tri ⟨M,szM,O,T,V,q,P⟩ F0 fw al s sz
 fin:Fin ⟨M,szM,O,T,V,q,P⟩ fw s
 pend:Pend ⟨M,szM,O,T,V,q,P⟩ fw s ks
 roots: ∀v,V v->Dn O fw v
end
structure wY (M:Mem) (szM:Int->Nat) (O:Nat->Bool) (T g F0:Int) (V:Int->Prop) (q:Int->Option Int) (P:List Int) (fw:Int->Option Int) (s:Sp) (sz:Int->Nat) (o gd:Int) (q':Int->Option Int) (P':List Int) (fw':Int->Option Int) (al':List Int) (s2:Sp) (sz':Int->Nat) (ks2:List (Int×Value)):Prop where
 on:On M szM O T g F0 (λv=>v=o\/V v) q' P' fw' al' s2 sz' ks2
 le:Le fw fw'
 heads:gY s.mem s2.mem
 cf:s2.cf=s.cf
 szo: ∀y,sz y≠0->sz' y=sz y
 qz: ∀y,q y≠none->q' y≠none
 how:(¬(s.mem.typ (Fw O fw gd)=10/\s.mem.len (Fw O fw gd)=2)/\q'=q/\P'=P/\ ∀x,s.mem.used x->O (x / 64).toNat=false->s2.mem.get x=s.mem.get x)\/
  ((s.mem.typ (Fw O fw gd)=10/\s.mem.len (Fw O fw gd)=2)/\ ∃p,P'=p::P/\ ¬s.mem.used p/\ ¬s.mem.used (p+1)/\ ∀x,(s.mem.used x/\O (x / 64).toNat=false)\/x=p\/x=p+1->s2.mem.get x=nT s.mem (Fw O fw gd) (Fw O fw' o) p x)
theorem On.ready{M:Mem}{j:Int->Nat}{O:Nat->Bool}{T g F0:Int}{V:Int->Prop}{q:Int->Option Int}{P:List Int}{fw:Int->Option Int}{al:List Int}{s:Sp}{sz:Int->Nat}{ks:List (Int×Value)}(h:On M j O T g F0 V q P fw al s sz ks)
  {o d:Int} (ag:aD o) (af:Good M j o) (b2:bE o) (ae:aD d) (ac:Good M j d) (hr:reachedB O s.mem d=true) (a0: ∀Z:TZ,Z.m=M->Z.O=O->2*((Z.yk 0:Int)+Z.yk 1+Z.yk 2+Z.yk 3)+8+(((P.length+1) / 32:Nat):Int)<=F0)
  {s2:Sp} {ai:List (Int×Value)} (hd:iB O T (rI O T s (o,d)) ks s2 ai) (ap:lQ O T s2 ai):
  ∃q' P' J U a3,wY M j O T g F0 V q P fw s sz o d q' P' J U s2 a3 ai:=by
 obtain⟨S,t,f,p,r⟩:=h
 have ab:Dn O fw d:=by
  have:=t.reachedB S ae ac
  rw[this]at hr
  exact nU.1 hr
 have w:aX ⟨M,j,O,T,λv=>v=o\/V v,q,P⟩ g F0:=S.more ag af
 have H:Tri ⟨M,j,O,T,λv=>v=o\/V v,q,P⟩ F0 fw al s sz:=t.more o
 have p1:Pend ⟨M,j,O,T,λv=>v=o\/V v,q,P⟩ fw s ks:=p.more o
 have f1:Fin ⟨M,j,O,T,λv=>v=o\/V v,q,P⟩ fw s:=f
 clear t p f S
 obtain⟨b,bl,aw,W⟩:=H.visit w ag af (λC=> .root (.inl rfl) C)
 have t2:=W.tri
 have A:=W.le
 have au:Dn O b d:=ab.mono A
 have b6:(s.visit O T o).1.visit O T d=((s.visit O T o).1,Fw O b d):=t2.visit_dn w ae ac au
 have b0:Fw O b d=Fw O fw d:=lS ab A
 have b7:(s.visit O T o).2=Fw O b o:=W.val
 have e:rI O T s (o,d)=(s.visit O T o).1.putsG T (Fw O fw d) (Fw O b o):=by
  unfold rI
  show((s.visit O T o).1.visit O T d).1.putsG T ((s.visit O T o).1.visit O T d).2 (s.visit O T o).2=_
  rw[b6,b7,b0]
 rw[e]at hd
 have av:=p1.visited H W
 obtain⟨bk,a2,aj⟩:=H.goodFw w ae ac ab
 obtain⟨bm,bn,bo⟩:=t2.goodFw w ag af W.dn
 have bp:bE (Fw O b o):=by
  have e:=xP (O:=O) (fw:=b) o
  unfold bE at*;rw[e];exact b2
 have a8:(s.visit O T o).1.cf=s.cf:=Sp.visit_cf _ _ _ _
 have ah: ∀y,sz y≠0->aw y=sz y:=λy hy=>H.sz_same rfl rfl (λ_ h=>h) t2 A hy
 have a1: ∀y,sz y≠0->s.mem.used y:=λy hy=>H.sz_used w hy
 have n: ∀v,Good s.mem sz v->Good (s.visit O T o).1.mem aw v:=λv E=>⟨E.1,λht=>by
  obtain⟨g1,g2⟩:=E.2 ht
  rw[ah _ g1,(W.heads.l.kAt (a1 _ g1)).1]
  exact⟨g1,g2⟩⟩
 have B:=W.rest
 have a:=W.heads
 have k: ∀x,s.mem.used x->O (x / 64).toNat=false->s.mem.strong x->Done ⟨M,j,O,T,λv=>v=o\/V v,q,P⟩ b (s.visit O T o).1 x:=λx hu C hs=>W.done H hu C (f1 x hu C hs)
 have D: ∀v,(v=o\/V v)->Dn O b v:=λv E=>by
  rcases E with rfl | E
  ·exact W.dn
  ·exact(r v E).mono A
 generalize (s.visit O T o).1=R at*
 have I:(R.mem.typ (Fw O fw d)=10/\R.mem.len (Fw O fw d)=2) ↔ (s.mem.typ (Fw O fw d)=10/\s.mem.len (Fw O fw d)=2):=by
  constructor
  ·rintro⟨c1,c2⟩
   have G:=t2.gdOf w (n _ a2) aj c1 c2
   have h3:=G.tag
   have hu:s.mem.used (Fw O fw d / 8):=a1 _ (a2.2 (by unfold bE;omega)).1
   have C:=G.out
   have:=(H.gdAt w a2 aj h3 (by rw[<-B _ hu C];exact G.head.2)).isObj H
   exact this.2
  ·rintro⟨c1,c2⟩
   have G:=H.gdOf w a2 aj c1 c2
   have h3:=G.tag
   have hu:s.mem.used (Fw O fw d / 8):=a1 _ (a2.2 (by unfold bE;omega)).1
   have:=(t2.gdAt w (n _ a2) aj h3 (by rw[B _ hu G.out];exact G.head.2)).isObj t2
   exact this.2
 by_cases hG:R.mem.typ (Fw O fw d)=10/\R.mem.len (Fw O fw d)=2
 case neg=>
  have ep:R.putsG T (Fw O fw d) (Fw O b o)=R:=by unfold Sp.putsG;rw[za hG]
  rw[ep]at hd
  obtain⟨J,U,a3,L,X,F⟩:=t2.pends w av hd ap
  refine⟨q,P,J,U,a3,⟨w,L.tri,X,F,λv E=>(D v E).mono L.le⟩,A.trans L.le,a.l.trans L.heads.l,(ox hd).trans a8,λy hy=>?_,λy hy=>hy,.inl ⟨λq=>hG (I.2 q),rfl,rfl,λx hu C=>?_⟩⟩
  ·exact H.sz_same rfl rfl (λ_ h=>h) L.tri (A.trans L.le) hy
  ·exact H.stay L.tri (A.trans L.le) (a.l.trans L.heads.l) hu C (λhs=>⟨f1 x hu C hs,L.done x (a.used hu) C (k x hu C hs)⟩)
 have G1:=H.gdOf w a2 aj (I.1 hG).1 (I.1 hG).2
 have u2:s.mem.used (Fw O fw d / 8+2):=(G1.used 2 (by decide)).1
 have K:=G1.strong (i:=2) (by decide)
 have e2:Fw O fw d / 8+((2:Nat):Int)=Fw O fw d / 8+2:=rfl
 rw[e2]at K
 have Y:R.mem.get (Fw O fw d / 8+2)=s.mem.get (Fw O fw d / 8+2):=B _ u2 K.2.2
 obtain⟨l1,l2,l3⟩:=H.doneWord w u2 K.2.2 K.2.1 (f1 _ u2 K.2.2 K.2.1)
 have aU:=λa5=>H.cdrAt w l2 l3 a5
 obtain⟨pa,q',bH,Q⟩:=t2.putsG w av bk (n _ a2) aj bm bn bo bp (a0 _ rfl rfl) hG (λi hi=>by
   have u:=G1.used i (by omega)
   have st:=G1.strong (i:=i) (by omega)
   exact k _ u.1 st.2.2 st.2.1) (λa5=>by
   rw[Y]at a5⊢
   obtain⟨c1,c2,c3,_,_⟩:=aU a5
   exact⟨n _ l2,l3,k _ c1 c2 c3⟩)
 have t3:=Q.tri
 have S3:aX ⟨M,j,O,T,λv=>v=o\/V v,q',pa::P⟩ g F0:=⟨w.ok,w.even,w.sound,w.old,w.rng,a0 ⟨M,j,O,T,λv=>v=o\/V v,q',pa::P⟩ rfl rfl,w.V⟩
 obtain⟨J,U,a3,L,X,F⟩:=t3.pends S3 Q.pend hd ap
 have b4: ∀x,s.mem.used x->(R.putsG T (Fw O fw d) (Fw O b o)).mem.used x:=λx z=>Q.heads.used (a.used z)
 have b1:Fw O J o=Fw O b o:=lS W.dn L.le
 refine⟨q',pa::P,J,U,a3,⟨S3,L.tri,X,F,λv E=>(D v E).mono L.le⟩,A.trans L.le,(a.l.trans Q.heads).trans L.heads.l,((ox hd).trans Q.cf).trans a8,λy hy=>?_,Q.qz,.inr ⟨I.1 hG,pa,rfl,λq=>Q.new.1 (a.used q),λq=>Q.new.2 (a.used q),λx z=>?_⟩⟩
 ·exact H.sz_same (Z':=⟨M,j,O,T,λv=>v=o\/V v,q',pa::P⟩) rfl rfl (λ_ h=>List.mem_cons_of_mem _ h) L.tri (A.trans L.le) hy
 ·-- what stands there
  have b8:(R.putsG T (Fw O fw d) (Fw O b o)).mem.used x/\O (x / 64).toNat=false/\((R.putsG T (Fw O fw d) (Fw O b o)).mem.strong x->Done ⟨M,j,O,T,λv=>v=o\/V v,q',pa::P⟩ b (R.putsG T (Fw O fw d) (Fw O b o)) x):=by
   rcases z with⟨z,C⟩ | z
   ·refine⟨b4 x z,C,λhs=>Q.done x (a.used z) (k x z C ?_)⟩
    have hk:=(a.l.trans Q.heads).kAt z
    unfold Mem.strong at*;rw[<-hk.1];exact hs
   ·have N:=t3.pair pa (by simp)
    have h0:=N.used.1.1
    have he:=N.even
    have C:O (x / 64).toNat=false:=by
     have:=N.out
     rcases z with rfl | rfl
     ·exact this
     ·rw[show(pa+1) / 64=pa / 64 by omega];exact this
    have b5:(R.putsG T (Fw O fw d) (Fw O b o)).mem.used x:=by
     rcases z with rfl | rfl
     ·exact N.used.1
     ·exact N.used.2
    refine⟨b5,C,λhs v E=>?_⟩
    have hq:q' x≠none:=by
     rcases z with rfl | rfl
     ·exact N.q.1
     ·exact N.q.2
    rcases E with E | ⟨E,_⟩
    ·have Wr:=t3.qok x v E
     refine⟨λo'=>absurd o' Wr.young,?_⟩
     rw[jv Wr.young]
     rcases t3.val x v (.inl E)with c | ⟨_,_,c⟩
     ·exact c
     ·rw[c,jv Wr.young]
    ·exact absurd E hq
  obtain⟨x1,x2,x3⟩:=b8
  have b3:=t3.stay L.tri L.le L.heads.l x1 x2 (λhs=>⟨x3 hs,L.done x x1 x2 (x3 hs)⟩)
  rw[b3,Q.get x x1,b1]
  unfold nT
  rw[Y]
  refine ite_congr rfl (λ_=>rfl) (λn1=>ite_congr rfl (λ_=>rfl) (λn2=>ite_congr rfl (λ_=>rfl) (λn3=>ite_congr rfl (λ_=>rfl) (λn4=>?_))))
  rcases z with⟨z,C⟩ | z
  ·exact B x z C
  ·rcases z with z | z
   ·exact absurd z n1
   ·exact absurd z n2
theorem mK: ∀(l:List Int) {i:Nat},l[i]?=some 1->(l.set i 2).countP (λv=>decide (v=1))+1=l.countP (λv=>decide (v=1))
 | [],i,h=>by simp at h
 | a::l,0,h=>by
  simp only[List.getElem?_cons_zero,Option.some.injEq]at h
  subst h
  rw[List.set_cons_zero,List.countP_cons,List.countP_cons];simp
 | a::l,i+1,h=>by
  rw[List.getElem?_cons_succ]at h
  have:=mK l h
  rw[List.set_cons_succ,List.countP_cons,List.countP_cons];omega
theorem vN{l:List Int}{i j:Nat}{v:Int}(h:(l.set i 2)[j]?=some v):l[j]?=some v\/v=2:=by
 rw[List.getElem?_set]at h
 by_cases e:i=j
 ·rw[qB e]at h
  split at h
  ·exact .inr (Option.some.inj h).symm
  ·cases h
 ·rw[za e]at h;exact .inl h
def oM(M:Mem)(szM:Int->Nat)(e:Int×Int):Prop:=(aD e.1/\Good M szM e.1)/\aD e.2/\Good M szM e.2
section
variable {M:Mem} {szM:Int->Nat} {O:Nat->Bool} {T g F0:Int} {V:Int->Prop} {q:Int->Option Int} {P:List Int} {fw:Int->Option Int} {al:List Int} {s:Sp} {sz:Int->Nat} {ks:List (Int×Value)}
theorem Rdy.lost{l:List (Int×Int)}{b a:List Int}{k:Sp}{f:List (Int×Value)}(R:Rdy O T l s ks b k f a):a.length=b.length/\ ∀(i:Nat) (v:Int),a[i]?=some v->b[i]?=some v\/v=2:=by
 induction R with
 | refl=>exact⟨rfl,λi v h=> .inl h⟩
 | @step x k w f c i e R r o u t p m d=>
  refine⟨by rw[List.length_set];exact d.1,λj v n=>?_⟩
  rcases vN n with h | h
  ·exact d.2 j v h
  ·exact .inr h
theorem On.rdy(h:On M szM O T g F0 V q P fw al s sz ks){l:List (Int×Int)}(hl: ∀e∈l,oM M szM e)(d: ∀Z:TZ,Z.m=M->Z.O=O->2*((Z.yk 0:Int)+Z.yk 1+Z.yk 2+Z.yk 3)+8+((l.length / 32:Nat):Int)<=F0)
  {lost c:List Int} (hc:P.length+lost.countP (λv=>decide (v=1))<=l.length) (D: ∀(i:Nat) (e:Int×Int),l[i]?=some e->lost[i]?=some 1->bE e.1) {o:Sp} {F:List (Int×Value)} (R:Rdy O T l s ks lost o F c):
  ∃J q' I j t r,On M szM O T g F0 J q' I j t o r F/\Le fw j/\gY s.mem o.mem/\o.cf=s.cf/\I.length+c.countP (λv=>decide (v=1))<=l.length/\(∀v,V v->J v)/\(∀y,sz y≠0->r y=sz y):=by
 induction R with
 | refl=>exact⟨V,q,P,fw,al,sz,h,Le.refl _,gY.refl _,rfl,hc,λv E=>E,λ_ _=>rfl⟩
 | @step s1 o k1 F f i e R K k hr hf hd A ih=>
  obtain⟨V1,q1,N,a1,S,ab,h1,G,z,w,c1,v1,z1⟩:=ih
  have B:e∈l:=List.mem_of_getElem? K
  obtain⟨⟨U,X⟩,Y,e4⟩:=hl e B
  have a4:=mK f k
  obtain⟨q2,Q,x,u,H,W⟩:=h1.ready U X (D i e K ((R.lost.2 i 1 k).resolve_right (by decide))) Y e4 hr (λZ a b=>by
   have:=d Z a b
   have h3:(N.length+1) / 32<=l.length / 32:=Nat.div_le_div_right (by omega)
   omega) hd A
  refine⟨_,q2,Q,x,u,H,W.on,G.trans W.le,z.trans W.heads,W.cf.trans w,?_,λv E=> .inr (v1 v E),λy L=>?_⟩
  ·rcases W.how with⟨_,_,C,_⟩ | ⟨_,p,C,_⟩
   ·rw[C];omega
   ·rw[C,List.length_cons];omega
  ·have n:=z1 y L
   rw[W.szo y (by rw[n];exact L),n]
def Az(O:Nat->Bool)(fw:Int->Option Int)(l:List (Int×Int))(lost:List Int):List (Int×Int):=((l.zip lost).filter λe=>decide (e.2<2) && Bd O fw e.1.2).map λe=>(Fw O fw e.1.1,Fw O fw e.1.2)
theorem oy(h:On M szM O T g F0 V q P fw al s sz ks): ∀(d:List ((Int×Int)×Int)) (a:List (Int×Int)),(∀e∈d,oM M szM e.1/\(e.2<2->Dn O fw e.1.2->Dn O fw e.1.1))->
  d.foldl (iK O T) (s,a)=(s,a++(d.filter λe=>decide (e.2<2) && Bd O fw e.1.2).map λe=>(Fw O fw e.1.1,Fw O fw e.1.2))
 | [],a,_=>by simp
 | e::d,a,hz=>by
  obtain⟨⟨⟨p,r⟩,m,n⟩,k⟩:=hz e (by simp)
  have b:=h.tri.reachedB h.S m n
  have b:reachedB O s.mem e.1.2=Bd O fw e.1.2:=b
  have o:(decide (e.2<2) && Bd O fw e.1.2)=true ↔ e.2<2/\reachedB O s.mem e.1.2=true:=by rw[b,Bool.and_eq_true,decide_eq_true_eq]
  rw[List.foldl_cons]
  by_cases c:e.2<2/\reachedB O s.mem e.1.2=true
  ·have f:Dn O fw e.1.2:=nU.1 (by rw[<-b];exact c.2)
   have j:=k c.1 f
   have t:s.visit O T e.1.1=(s,Fw O fw e.1.1):=h.tri.visit_dn h.S p r j
   have u:s.visit O T e.1.2=(s,Fw O fw e.1.2):=h.tri.visit_dn h.S m n f
   have i:iK O T (s,a) e=(s,a++[(Fw O fw e.1.1,Fw O fw e.1.2)]):=by
    unfold iK
    rw[qB c]
    simp only[t,u]
   rw[i,oy h d _ (λx l=>hz x (by simp[l])),List.filter_cons,qB (o.2 c)]
   simp
  ·have i:iK O T (s,a) e=(s,a):=by unfold iK;rw[za c]
   rw[i,oy h d _ (λx l=>hz x (by simp[l])),List.filter_cons,za (λq=>c (o.1 q))]
theorem wZ(h:On M szM O T g F0 V q P fw al s sz ks){l:List (Int×Int)}{a:List Int}(k: ∀e∈l,oM M szM e)(d: ∀(i:Nat) (e:Int×Int) (v:Int),l[i]?=some e->a[i]?=some v->v<2->Dn O fw e.2->Dn O fw e.1):zM O T s l a=(s,Az O fw l a):=by
 unfold zM Az
 rw[oy h (l.zip a) [] (λe f=>?_),List.nil_append]
 obtain⟨i,j,rfl⟩:=List.getElem_of_mem f
 rw[List.length_zip]at j
 rw[List.getElem_zip]
 exact⟨k _ (List.getElem_mem _),λb c=>d i _ _ (List.getElem?_eq_getElem (by omega)) (List.getElem?_eq_getElem (by omega)) b c⟩
theorem w6(h:On M szM O T g F0 V q P fw al s sz ks){l:List (Int×Int)}{a:List Int}(m: ∀e∈l,oM M szM e)(j: ∀(i:Nat) (e:Int×Int) (v:Int),l[i]?=some e->a[i]?=some v->v<2->Dn O fw e.2->Dn O fw e.1): ∀x∈Az O fw l a,∃e∈l,x=(Fw O fw e.1,Fw O fw e.2)/\Dn O fw e.1/\Dn O fw e.2:=by
 intro x f
 unfold Az at f
 obtain⟨e,c,rfl⟩:=List.mem_map.1 f
 rw[List.mem_filter,Bool.and_eq_true,decide_eq_true_eq]at c
 obtain⟨c,d,b⟩:=c
 have b:=nU.1 b
 obtain⟨i,k,rfl⟩:=List.getElem_of_mem c
 rw[List.length_zip]at k
 rw[List.getElem_zip]at d b⊢
 exact⟨_,List.getElem_mem _,rfl,j i _ _ (List.getElem?_eq_getElem (by omega)) (List.getElem?_eq_getElem (by omega)) d b,b⟩
theorem vO(O:Nat->Bool)(fw:Int->Option Int)(l:List (Int×Int))(a:List Int):(Az O fw l a).length<=l.length:=by
 unfold Az
 rw[List.length_map]
 refine Nat.le_trans (List.length_filter_le _ _) ?_
 rw[List.length_zip];omega
theorem uL{m:Mem}{l:List (Int×Int)}{i:Nat}{e:Int×Int}(b:l[i]?=some e)(h:(kz O m l)[i]?=some 1):aO O e.1/\m.fwd e.1=none:=by
 unfold kz at h
 rw[List.getElem?_map,b]at h
 have h:(if reachedB O m e.1=true then(0:Int)else 1)=1:=Option.some.inj h
 by_cases a:reachedB O m e.1=true
 ·rw[qB a]at h;omega
 ·unfold reachedB at a
  rw[Bool.or_eq_true,decide_eq_true_eq]at a
  refine⟨Decidable.byContradiction λq=>a (.inl q),?_⟩
  cases c:m.fwd e.1 with
  | none=>rfl
  | some v=>exact absurd (.inr (by rw[c];rfl)) a
theorem On.settled(t:On M szM O T g F0 V q P fw al s sz ks){l:List (Int×Int)}(E: ∀e∈l,oM M szM e){y:Int->Prop}{G:Int->Option Int}{x:List Int}{c:Int->Option Int}{j:List Int}{f:Sp}{r:Int->Nat}{w:List (Int×Value)}{a:List Int}(h:On M szM O T g F0 y G x c j f r w)(F:Le fw c)
  (R:Rdy O T l s ks (kz O s.mem l) f w a) (hn: ∀i,i<l.length-> ¬Fit O f.mem l a i): ∀(i:Nat) (e:Int×Int) (v:Int),l[i]?=some e->a[i]?=some v->v<2->Dn O c e.2->Dn O c e.1:=by
 intro i e v d u I D
 obtain⟨_,H⟩:=R.lost
 have k:e∈l:=List.mem_of_getElem? d
 obtain⟨⟨z,A⟩,B,C⟩:=E e k
 have m:i<l.length:=by
  rcases Nat.lt_or_ge i l.length with q | q
  ·exact q
  ·rw[List.getElem?_eq_none q]at d;cases d
 have b:=(H i v u).resolve_right (by omega)
 unfold kz at b
 rw[List.getElem?_map,d]at b
 have b:(if reachedB O s.mem e.1=true then(0:Int)else 1)=v:=Option.some.inj b
 by_cases n:reachedB O s.mem e.1=true
 ·have o:reachedB O s.mem e.1=Bd O fw e.1:=t.tri.reachedB t.S z A
  rw[o]at n
  exact(nU.1 n).mono F
 ·rw[za n]at b
  have p:reachedB O f.mem e.2=Bd O c e.2:=h.tri.reachedB h.S B C
  exact absurd ⟨e,d,by rw[u,b],by rw[p];exact nU.2 D⟩ (hn i m)
end
variable{d o:Sp}{i:Int}{j:Int->Nat}{k:List (Int×Value)}{r:Tr}
theorem sO{T c:Int}{a:List Int}(I:Inv d j)(n:0<=c)(p:iJ d i T c=0)(B:jF d.mem i T r)(A: ∀w∈a,aD w/\Good d.mem j w)
  (u:iB r.old T (((d.fresh (eW i)).visL r.old T a).1.lookCards r.old T r.cards) r.seen o k) (m:lQ r.old T o k):
  ∃e h q,On d.mem j r.old T i d.mem.free (· ∈a) (λ_=>none) [] e h o q k/\((d.fresh (eW i)).visL r.old T a).2=a.map (Fw r.old e)/\o.cf=d.cf:=by
 obtain⟨S,F⟩:=I.static (V:=(· ∈a)) n p B (λv f=>A v f)
 obtain⟨z,y,E,G,_,D,s⟩:=Tri.visL S a (acc:=[]) F (λw C=>C)
 obtain⟨e,h,q,H,x,l,g,_⟩:=Tri.final S G I.marked B rfl rfl (λ_=>rfl) u m
 have b: ∀v,v∈a->Dn r.old e v:=λv f=>(s v f).mono x
 refine⟨e,h,q,⟨S,H,l,g,b⟩,?_,?_⟩
 ·refine Eq.trans D ?_
  rw[List.nil_append]
  exact List.map_congr_left λv f=>(lS (s v f) x).symm
 ·have t:=ox u
  rw[Sp.lookCards_cf,Sp.visL_cf]at t
  exact t
theorem w7{g T b:Int}{n:Nat}(I:Inv d j)(hm:((n / 32:Nat):Int)<=b)(e:iJ d g T b=0)(B:jF d.mem g T r): ∀Z:TZ,Z.m=d.mem->Z.O=r.old->2*((Z.yk 0:Int)+Z.yk 1+Z.yk 2+Z.yk 3)+8+((n / 32:Nat):Int)<=d.mem.free:=λZ c f=>by
 have a:=nt (by omega) e
 have h:=vJ (Z:=Z) (g:=g) (by rw[c];exact I.ok.mem) a.1.1 (λk hk=>by rw[c,f];exact B.old k hk)
 have i:=a.2
 rw[c]at h
 omega
theorem Rdy.nil{O:Nat->Bool}{b:List (Int×Value)}{lost a:List Int}(R:Rdy O i [] d k lost o b a):o=d/\b=k/\a=lost:=by
 induction R with
 | refl=>exact⟨rfl,rfl,rfl⟩
 | step h e j l g f c m=>simp at e
theorem rJ{T f:Int}{a:List Int}{s:Sp}{H:List (Int×Value)}{b:List (Int×Int)}{lost:List Int}(I:Inv d j)(A:((b.length / 32:Nat):Int)<=f)(m:iJ d i T f=0)(B:jF d.mem i T r)(Q: ∀w∈a,aD w/\Good d.mem j w)(p: ∀e∈b,oM d.mem j e)
  (N:iB r.old T (((d.fresh (eW i)).visL r.old T a).1.lookCards r.old T r.cards) r.seen o k) (z:lQ r.old T o k) (R:Rdy r.old T b o k (kz r.old o.mem b) s H lost) (hn: ∀S,S<b.length-> ¬Fit r.old s.mem b lost S):
  ∃V q P g t E,On d.mem j r.old T i d.mem.free V q P g t s E H/\((d.fresh (eW i)).visL r.old T a).2=a.map (Fw r.old g)/\(∀w∈a,V w)/\(∀(S:Nat) (e:Int×Int) (v:Int),b[S]?=some e->lost[S]?=some v->v<2->Dn r.old g e.2->Dn r.old g e.1)/\s.cf=d.cf/\(b=[]->P=[]/\(∀x,q x=none)/\ ∀v,V v->v∈a):=by
 obtain⟨y,u,F,l,K,G⟩:=sO I (by omega) m B Q N z
 by_cases c:b=[]
 ·subst c
  obtain⟨rfl,rfl,rfl⟩:=R.nil
  exact⟨_,_,_,y,u,F,l,K,λw D=>D,λS e v p=>by simp at p,G,λ_=>⟨rfl,λ_=>rfl,λv C=>C⟩⟩
 obtain⟨V,q,P,g,t,E,n,J,O,L,_,M,_⟩:=l.rdy p (w7 I A m B) (lost:=kz r.old o.mem b) (by
  have:(kz r.old o.mem b).countP (λv=>decide (v=1))<=(kz r.old o.mem b).length:=List.countP_le_length
  unfold kz at this⊢
  rw[List.length_map]at this
  simpa using this) (λS e l n=>wO (uL l n).1) R
 refine⟨V,q,P,g,t,E,n,?_,λw D=>M w D,l.settled p n J R hn,L.trans G,λh=>absurd h c⟩
 rw[K]
 exact List.map_congr_left λv C=>(lS (l.roots v C) J).symm
def EnAt(H:zV)(B:zW)(l:List (Int×Int)):Prop:= ∀i (h:i<l.length),∃a,B=some a/\aM H (a.add (i*2)) 0 [vu l[i].1,vu l[i].2]
theorem EnAt.keep{S:List Nat}{H d:zV}{B:zW}{l:List (Int×Int)}(h:EnAt H B l)(f:Fr S H d)(e: ∀j∈kc B,j ∉ S):EnAt d B l:=λi g=>by
 obtain⟨a,rfl,k⟩:=h i g
 refine⟨a,rfl,f.rowAt ?_ k⟩
 have:(a.add (i*2)).block=a.block:=by unfold Addr.add;split<;>rfl
 rw[this];exact e _ (by simp)
theorem EnAt.ext{H a:zV}{B:zW}{l:List (Int×Int)}(h:EnAt H B l)(e:Ext H a):EnAt a B l:=h.keep (S:=[]) e.fr (λ_ _=>by simp)
def Au(l:List (Int×Int)):List Value:=l.flatMap λe=> [vu e.1,vu e.2]
theorem sP(l:List (Int×Int))(e:Int×Int):Au (l++[e])=Au l++[vu e.1,vu e.2]:=by unfold Au;rw[List.flatMap_append];rfl
theorem Own.entries{H:zV}{T:TypeId}{B:zW}{n c:Nat}{l:List (Int×Int)}(h:Own H T 2 B n c (Au l)):EnAt H B l:=λi g=>by
 obtain⟨a,d,_,j⟩:=Own.elem (f:=λe:Int×Int=> [Value.int .u64 e.1,vu e.2]) h (λ_=>rfl) (by decide) g
 exact⟨a,d,j⟩
def vP(v:Value):Bool:=match v with | .int _ n=>decide (n=1) | _=>false
def pZ(A:zV)(c:Nat):Nat:=match A[c]? with | some (Obj.cells cs _ _)=>cs.toList.countP vP | _=>0
theorem vQ(l:List Int):(yN l).countP vP=l.countP (λv=>decide (v=1)):=by
 unfold yN
 rw[List.countP_map];rfl
theorem Own.ones{A:zV}{T:TypeId}{c n:Nat}{l:List Int}(h:Own A T 1 (some ⟨c,0,none⟩) n n (yN l)):pZ A c=l.countP (λv=>decide (v=1)):=by
 obtain⟨_,d,a,g,_,f,e⟩:=h
 unfold pZ
 have a:A[c]?=some (.cells d T (0,0)):=a
 rw[a]
 show d.toList.countP vP=_
 rw[<-vQ]
 congr 1
 refine List.ext_getElem? λj=>?_
 rw[Array.getElem?_toList]
 rcases Nat.lt_or_ge j (n*1)with q | q
 ·exact e j q
 ·rw[Array.getElem?_eq_none (by omega),List.getElem?_eq_none (by omega)]
theorem w8(l:List Int)(i:Nat)(v:Int):(yN l).set i (vi v)=yN (l.set i v):=by unfold yN;rw[List.map_set]
theorem w9{l:List Int}{i:Nat}{v:Int}(h:l[i]?=some v):(yN l)[i]?=some (vi v):=by unfold yN;rw[List.getElem?_map,h];rfl
theorem vR(n:Nat):List.replicate n (Value.int .i64 0)=yN (List.replicate n 0):=by unfold yN;rw[List.map_replicate]
def kh(L:List Int)(k:Nat):List Int:=L.take k++List.replicate (L.length-k) 0
theorem sQ(L:List Int){k:Nat}(h:k<=L.length):(kh L k).length=L.length:=by unfold kh;rw[List.length_append,List.length_take,List.length_replicate];omega
theorem rK(L:List Int){k:Nat}(h:k<L.length):kh L (k+1)=(kh L k).set k L[k]:=by
 refine List.ext_getElem? λj=>?_
 unfold kh
 rw[List.getElem?_set]
 by_cases e:k=j
 ·subst e
  rw[qB rfl,qB (by rw[List.length_append,List.length_take,List.length_replicate];omega),List.getElem?_append_left (by rw[List.length_take];omega),List.getElem?_take,qB (by omega),List.getElem?_eq_getElem h]
 ·rw[za e]
  rcases Nat.lt_or_ge j k with q | q
  ·rw[List.getElem?_append_left (by rw[List.length_take];omega),List.getElem?_append_left (by rw[List.length_take];omega),List.getElem?_take,List.getElem?_take,qB (by omega),qB q]
  ·rw[List.getElem?_append_right (by rw[List.length_take];omega),List.getElem?_append_right (by rw[List.length_take];omega),List.length_take,List.length_take,List.getElem?_replicate,List.getElem?_replicate]
   have:(j-min (k+1) L.length<L.length-(k+1)) ↔ (j-min k L.length<L.length-k):=by omega
   simp only[this]
theorem tX(L:List Int){k:Nat}(h:k<L.length):(kh L k)[k]?=some 0:=by
 unfold kh
 rw[List.getElem?_append_right (by rw[List.length_take];omega),List.length_take,List.getElem?_replicate,qB (by omega)]
theorem sR(L:List Int):kh L L.length=L:=by unfold kh;rw[List.take_length,Nat.sub_self];simp
theorem vS{l:List Int}{k:Nat}{v:Int}(h:l[k]?=some v):l.set k v=l:=by
 refine List.ext_getElem? λj=>?_
 rw[List.getElem?_set]
 by_cases e:k=j
 ·subst e
  rw[qB rfl,h]
  split
  ·rfl
  ·rename_i q;rw[List.getElem?_eq_none (by omega)]at h;cases h
 ·rw[za e]
structure GdL (H:zV) (b:Blk) (x:Hp) (q:TB) (t:Tr) (c c2 c3 c4:Nat) (lB:zW) (lC:Nat) (l:List (Int×Int)) (lost:List Int) (A:zV):Prop where
 tg:Tg A b x q t
 g0:A[c]?=some (.cells #[vp (some ⟨q.t,0,none⟩)] 37 (0,0))
 g2:A[c2]?=some (.cells #[vs lB l.length lC] 31 (0,0))
 g4:A[c4]?=some (.cells #[vs (some ⟨c3,0,none⟩) l.length l.length] 75 (0,0))
 g3:Own A 3 1 (some ⟨c3,0,none⟩) l.length l.length (yN lost)
 row:EnAt A lB l
 fr:Fr (q.s::yG b) H A
 new:H.size<=c/\H.size<=c2/\H.size<=c3/\H.size<=c4/\c≠c3/\c2≠c3/\c4≠c3
 lb: ∀j∈kc lB,j<H.size/\j ∉ b.all/\j ∉ q.all
 all: ∀i,i∈b.all\/i∈q.all->i<H.size
 len:lost.length=l.length
section
variable {H A A':zV} {b:Blk} {x:Hp} {q:TB} {t:Tr} {c c2 c3 c4:Nat} {lB:zW} {lC:Nat} {l:List (Int×Int)} {lost:List Int}
theorem GdL.ext(h:GdL H b x q t c c2 c3 c4 lB lC l lost A)(e:Ext A A'):GdL H b x q t c c2 c3 c4 lB lC l lost A':=
 ⟨h.tg.grow e,e.get h.g0,e.get h.g2,e.get h.g4,h.g3.ext e,h.row.ext e,h.fr.trans e.fr,h.new,h.lb,h.all,h.len⟩
theorem GdL.small(h:GdL H b x q t c c2 c3 c4 lB lC l lost A): ∀i∈q.s::yG b,i<H.size:=λi d=>by
 rcases List.mem_cons.1 d with a | a
 ·exact h.all i (.inr (by rw[a];simp[TB.all]))
 ·exact h.all i (.inl (jM a))
theorem GdL.go{i:Hp}{g:Tr}(h:GdL H b x q t c c2 c3 c4 lB lC l lost A)(T:Tg A' b i q g)(f:Fr (q.s::yG b) A A'):GdL H b i q g c c2 c3 c4 lB lC l lost A':=by
 obtain⟨o,p,r,u,v,w,y⟩:=h.new
 have k:=h.small
 have no: ∀j,H.size<=j->j ∉ q.s::yG b:=λj a d=>by have:=k j d;omega
 refine⟨T,f.get (no _ o) h.g0,f.get (no _ p) h.g2,f.get (no _ u) h.g4,h.g3.keep f (λj a=>by simp at a;rw[a];exact no _ r),h.row.keep f (λj a d=>?_),h.fr.trans f,h.new,h.lb,h.all,h.len⟩
 obtain⟨_,m,n⟩:=h.lb j a
 rcases List.mem_cons.1 d with e | e
 ·exact n (by rw[e];simp[TB.all])
 ·exact m (jM e)
theorem GdL.mark(h:GdL H b x q t c c2 c3 c4 lB lC l lost A){i:Nat}(a:i<l.length)(v:Int):aH A ((Addr.mk c3 0 none).add (i*1)) 0 1/\ ∀A',A'=aP A ((Addr.mk c3 0 none).add (i*1)) [vi v] 0->GdL H b x q t c c2 c3 c4 lB lC l (lost.set i v) A'/\Fr [c3] A A':=by
 obtain⟨p,r,s,u,w,y,z⟩:=h.new
 obtain⟨k,m⟩:=h.g3.put a (vi v)
 rw[Nat.mul_one]
 refine⟨k,λA' e=>?_⟩
 obtain⟨o,f⟩:=m A' e
 have f:Fr [c3] A A':=f
 rw[w8]at o
 refine⟨⟨h.tg.stay f (λj d g=>by simp at d;have:=h.all j (.inl g);omega) (λj d g=>by simp at d;have:=h.all j (.inr g);omega),f.get (by simp;omega) h.g0,f.get (by simp;omega) h.g2,f.get (by simp;omega) h.g4,o,h.row.keep f (λj d a=>?_),h.fr.trans' f (λi a _=>a) (λi a n=>by simp at a;omega),h.new,h.lb,h.all,by rw[List.length_set];exact h.len⟩,f⟩
 have:=(h.lb j d).1
 simp at a;omega
theorem GdL.atMark(h:GdL H b x q t c c2 c3 c4 lB lC l lost A){i:Nat}{v:Int}(f:lost[i]?=some v):hat A ((Addr.mk c3 0 none).add (i*1))=some (vi v):=by
 obtain⟨a,d,e⟩:=h.g3.at (w9 f)
 cases d
 rw[Nat.mul_one];exact e
theorem qa(h:t.over=false)(m:Mem)(w:Int):(decide (¬(t.over=false/\aO t.old w)) || (m.fwd w).isSome)=reachedB t.old m w:=by
 unfold reachedB
 by_cases o:aO t.old w
 ·rw[zQ (show ¬ ¬(t.over=false/\aO t.old w)from λq=>q ⟨h,o⟩),zQ (show ¬ ¬aO t.old w from λq=>q o)]
 ·rw[zX (show ¬(t.over=false/\aO t.old w)from λq=>o q.2),zX (show ¬aO t.old w from o)]
theorem xQ(S:GdL H b x q t c c2 c3 c4 lB lC l lost A){i:Nat}{e:Int×Int}{h:Int}(g:l[i]?=some e)(j:lost[i]?=some h)(r:aD e.2):
  gO.C (i:Int) (some (Addr.mk c4 0 none)) (some (Addr.mk c 0 none)) (some (Addr.mk c2 0 none)) A (λv A'=>v=.bool (decide (h=1) && reachedB t.old x.sp.mem e.2)/\Ext A A'):=by
 refine HC.via λR m=>gO.link ?_
 unfold gO.pt
 have o:i<l.length:=by
  rcases Nat.lt_or_ge i l.length with q | q
  ·exact q
  ·rw[List.getElem?_eq_none q]at g;cases g
 have n:(0:Int)<=(i:Int)/\(i:Int)< (l.length:Int):=by omega
 have k:Int.toNat (i:Int)=i:=by omega
 refine⟨_,rfl,_,_,_,by rw[aI S.g4];rfl,_,rfl,n,h,by rw[k];exact S.atMark j,?_⟩
 by_cases f:h=1
 ·rw[qB f]
  obtain⟨a,p,d⟩:=S.row i o
  have d:=d.2.1
  rw[List.getElem?_eq_getElem o]at g
  cases g
  refine⟨_,rfl,_,by rw[aI S.g0];rfl,_,rfl,_,_,_,by rw[aI S.g2];rfl,a,p,n,l[i].2,by
   rw[k]
   rw[Nat.zero_add]at d;exact d,HC.mono (kG S.tg.toTc r) ?_⟩
  rintro _ A' ⟨rfl,e⟩
  exact⟨_,rfl,m _ _ ⟨by rw[zX f,Bool.true_and,qa S.tg.on],e⟩⟩
 ·rw[za f]
  exact m _ _ ⟨by rw[zQ f,Bool.false_and],Ext.refl _⟩
end
set_option maxRecDepth 100000 in
set_option maxHeartbeats 2000000 in
theorem qs{H:zV}{b:Blk}{x:Hp}{q:TB}{t:Tr}{lB:zW}{lC:Nat}{l:List (Int×Int)}(T:Tg H b x q t)(cX:iI t.seen)(d0:0<=t.tgt)(bs:EnAt H lB l)(hw: ∀e∈l,aD e.1/\aD e.2)(cT: ∀j∈kc lB,j<H.size/\j ∉ b.all/\j ∉ q.all)(hl:l.length<=1000000):
  jo.C (some ⟨q.t,0,none⟩) lB l.length lC H (λv H'=> ∃(p:Sp) (V:List (Int×Value)) (d:List Int) (B:zW) (di:Nat),Rdy t.old t.tgt l x.sp t.seen (kz t.old x.sp.mem l) p V d/\(∀i,i<l.length-> ¬Fit t.old p.mem l d i)/\
   v=.slice B (zM t.old t.tgt p l d).2.length di/\Own H' 36 2 B (zM t.old t.tgt p l d).2.length di (Au (zM t.old t.tgt p l d).2)/\(∀j∈kc B,H.size<=j)/\Tg H' b {x with sp:=(zM t.old t.tgt p l d).1} q {t with seen:=V}/\iI V/\Fr (q.s::yG b) H H'):=by
 refine HC.via λR hR=>jo.link ?_
 unfold jo.pt zY
 intro c H1 hc ap c2 H2 cI au
 have eg:Ext H H1:=Ext.push' ap
 have e2:Ext H1 H2:=Ext.push' au
 have z1:H1.size=H.size+1:=by rw[ap];simp
 have z2:H2.size=H1.size+1:=by rw[au];simp
 have k0:=e2.get (aF hc ap)
 have k2:=aF cI au
 refine⟨_,by rw[aI k0];rfl,HC.mono (mq (T.grow (eg.trans e2)).toTc) ?_⟩
 rintro _ HH ⟨rfl,cC⟩
 obtain rfl:H2=HH:=cC.symm
 refine⟨_,rfl,?_⟩
 rw[za (by rw[T.on];decide)]
 refine⟨lB,l.length,lC,by rw[aI k2];rfl,by omega,by omega,by omega,by omega,λc3 H5 cJ a5 c4 H6 cK bg=>?_⟩
 have e5:Ext H2 H5:=Ext.push' a5
 have z5:H5.size=H2.size+1:=by rw[a5];simp
 have z6:H6.size=H5.size+1:=by rw[bg];simp
 have en:Int.toNat (l.length:Int)=l.length:=by omega
 rw[en]at a5⊢
 obtain⟨q6,s6⟩:=lT (A3:=aP H6 (Addr.mk c4 0 none) [vs (some (Addr.mk c3 0 none)) l.length l.length] 0) cK bg [vs (some (Addr.mk c3 0 none)) l.length l.length] rfl
 refine⟨q6,λH7 cA=>?_⟩
 have bh:H7=aP H6 (Addr.mk c4 0 none) [vs (some (Addr.mk c3 0 none)) l.length l.length] 0:=cA
 obtain⟨k4,e7⟩:=s6 rfl
 rw[<-bh]at k4 e7
 have k3:=vB cJ a5
 rw[vR]at k3
 have E7:=((eg.trans e2).trans e5).trans e7
 have ao:=e5.trans e7
 have cF: ∀i,i∈b.all\/i∈q.all->i<H.size:=λi F=>T.lt F
 have a6:(kz t.old x.sp.mem l).length=l.length:=by unfold kz;rw[List.length_map]
 have cD: ∀(k:Nat) (h:k<l.length),(kz t.old x.sp.mem l)[k]'(by rw[a6];exact h)=if reachedB t.old x.sp.mem l[k].1=true then 0 else 1:=λk h=>by unfold kz;rw[List.getElem_map]
 have S0:GdL H b x q t c c2 c3 c4 lB lC l (kh (kz t.old x.sp.mem l) 0) H7:=⟨T.grow E7,ao.get k0,ao.get k2,k4,by
   unfold kh;rw[List.take_zero,List.nil_append,Nat.sub_zero,a6];exact k3.ext e7,bs.ext E7,E7.fr,by omega,cT,cF,by rw[sQ _ (by omega)];exact a6⟩
 have cS: ∀{k:Nat} (h:k<l.length),l[k]?=some l[k]:=λh=>List.getElem?_eq_getElem h
 have ax: ∀{k:Nat} (h:k<l.length),aD l[k].1/\aD l[k].2:=λh=>hw _ (List.getElem_mem h)
 refine⟨lB,l.length,lC,by rw[aI (ao.get k2)];rfl,λi A=> ∃k:Nat,i=k/\k<=l.length/\GdL H b x q t c c2 c3 c4 lB lC l (kh (kz t.old x.sp.mem l) k) A,λi _=>(l.length-i).toNat,⟨0,rfl,by omega,S0⟩,?_⟩
 rintro _ H8 ⟨k,rfl,hk,S8⟩
 by_cases u:(k:Int)< (l.length:Int)
 ·rw[qB u]
  have m:k<l.length:=by omega
  have hd:((l.length:Int)-((k:Int)+1)).toNat< ((l.length:Int)-(k:Int)).toNat:=by omega
  rw[xl (n:=(k:Int)+1) (by omega)]
  obtain⟨a,ha,hr⟩:=S8.row k m
  refine⟨a,ha,⟨by omega,u⟩,l[k].1,l[k].2,by rw[show Int.toNat (k:Int)=k by omega];exact hr,λdh H9 cL cB=>?_⟩
  obtain⟨q9,s9⟩:=lT (A3:=aP H9 (Addr.mk dh 0 none) [vu l[k].1,vu l[k].2] 0) cL cB [vu l[k].1,vu l[k].2] rfl
  refine⟨q9,λbQ b9=>?_⟩
  obtain⟨k5,b6⟩:=s9 rfl
  rw[<-b9]at k5 b6
  have d3:bQ[dh]?=some (.cells #[vu l[k].1,vu l[k].2] 36 (0,0)):=k5
  have ag:=S8.ext b6
  refine⟨_,by rw[aI ag.g0];rfl,l[k].1,by rw[aI d3];rfl,HC.mono (kG ag.tg.toTc (ax m).1) ?_⟩
  rintro _ dw ⟨rfl,cr⟩
  refine⟨_,rfl,?_⟩
  rw[qa T.on]
  have ah:=ag.ext cr
  have U:=rK (kz t.old x.sp.mem l) (k:=k) (by omega)
  rw[cD k m]at U
  by_cases br:reachedB t.old x.sp.mem l[k].1=true
  ·rw[qB br]at U⊢
   rw[vS (tX _ (by omega))]at U
   exact⟨⟨k+1,by omega,by omega,by rw[U];exact ah⟩,hd⟩
  ·rw[za br]at U⊢
   refine⟨_,_,_,by rw[aI ah.g4];rfl,_,rfl,⟨by omega,u⟩,?_⟩
   rw[show Int.toNat (k:Int)=k by omega]
   obtain⟨p1,p2⟩:=ah.mark m 1
   refine⟨p1,λbR ba=>⟨⟨k+1,by omega,by omega,?_⟩,hd⟩⟩
   rw[U];exact(p2 bR ba).1
 rw[za u]
 obtain rfl:k=l.length:=by omega
 rw[show kh (kz t.old x.sp.mem l) l.length=kz t.old x.sp.mem l by rw[<-a6];exact sR _]at S8
 refine⟨λA=> ∃(p:Sp) (V:List (Int×Value)) (d:List Int),Rdy t.old t.tgt l x.sp t.seen (kz t.old x.sp.mem l) p V d/\iI V/\GdL H b {x with sp:=p} q {t with seen:=V} c c2 c3 c4 lB lC l d A,λA=>pZ A c3,⟨_,_,_,.refl,cX,S8⟩,?_⟩
 rintro bU ⟨p,V,d,bi,af,ai⟩
 have d6:=ai.g3.ones
 refine⟨lB,l.length,lC,by rw[aI ai.g2];rfl,λi A=> ∃k:Nat,i=k/\k<=l.length/\(∀j,j<k-> ¬Fit t.old p.mem l d j)/\GdL H b {x with sp:=p} q {t with seen:=V} c c2 c3 c4 lB lC l d A,λi _=>(l.length-i).toNat,⟨0,rfl,by omega,λj y=>by omega,ai⟩,?_⟩
 rintro _ X ⟨k,rfl,hk,aw,f⟩
 by_cases u:(k:Int)< (l.length:Int)
 ·rw[qB u]
  have m:k<l.length:=by omega
  have hd:((l.length:Int)-((k:Int)+1)).toNat< ((l.length:Int)-(k:Int)).toNat:=by omega
  rw[xl (n:=(k:Int)+1) (by omega)]
  obtain⟨a,ha,hr⟩:=f.row k m
  obtain⟨lv,Q⟩: ∃lv,d[k]?=some lv:=⟨_,List.getElem?_eq_getElem (by have:=f.len;omega)⟩
  have z:=ax m
  have av:=cS m
  generalize l[k]=e at*
  refine⟨a,ha,⟨by omega,u⟩,e.1,e.2,by rw[show Int.toNat (k:Int)=k by omega];exact hr,λee bX cM bb=>?_⟩
  obtain⟨d9,db⟩:=lT (A3:=aP bX (Addr.mk ee 0 none) [vu e.1,vu e.2] 0) cM bb [vu e.1,vu e.2] rfl
  refine⟨d9,λbZ bc=>?_⟩
  obtain⟨k6,b7⟩:=db rfl
  rw[<-bc]at k6 b7
  have d4:bZ[ee]?=some (.cells #[vu e.1,vu e.2] 36 (0,0)):=k6
  have b3:=f.ext b7
  refine HC.mono (xQ b3 av Q z.2) ?_
  rintro _ dx ⟨rfl,b8⟩
  refine⟨_,rfl,?_⟩
  have aj:=b3.ext b8
  by_cases E:(decide (lv=1) && reachedB t.old p.mem e.2)=true
  case neg=>
   rw[za E]
   refine⟨⟨k+1,by omega,by omega,λj y=>?_,aj⟩,hd⟩
   rcases Nat.lt_or_ge j k with r | r
   ·exact aw j r
   ·obtain rfl:j=k:=by omega
    rintro⟨e',f1,f2,f3⟩
    rw[av]at f1;rw[Q]at f2
    cases f1;cases f2
    exact E (by rw[f3];rfl)
  rw[qB E]
  rw[Bool.and_eq_true,decide_eq_true_eq]at E
  obtain⟨rfl,S⟩:=E
  refine⟨_,_,_,by rw[aI aj.g4];rfl,_,rfl,⟨by omega,u⟩,?_⟩
  rw[show Int.toNat (k:Int)=k by omega]
  obtain⟨p1,p2⟩:=aj.mark m 2
  refine⟨p1,λaW bd=>?_⟩
  obtain⟨Y,ct⟩:=p2 aW bd
  have cZ:H.size<=X.size:=f.fr.size
  have l3:c3<X.size:=f.g3.lt c3 (by simp)
  have bl:ee≠c3:=by omega
  have a4:=ct.get (by simp;exact bl) (b8.get d4)
  have a7:=Y.small
  have cp:ee ∉ q.s::yG b:=λh=>by have:=a7 ee h;omega
  refine⟨_,by rw[aI Y.g0];rfl,e.1,by rw[aI a4];rfl,HC.mono (jV Y.tg z.1) ?_⟩
  rintro _ c5 ⟨rfl,ci,cu⟩
  have a9:Fr (q.s::yG b) aW c5:=cu.mono (λi F _=>List.mem_cons_of_mem _ F)
  have Z:=Y.go ci a9
  have ay:=a9.get cp a4
  refine⟨_,rfl,_,by rw[aI Z.g0];rfl,_,by rw[aI Z.g0];rfl,e.2,fD ay 1,HC.mono (jV Z.tg z.2) ?_⟩
  rintro _ dy ⟨rfl,cj,cv⟩
  have ak:=Z.go cj (cv.mono (λi F _=>List.mem_cons_of_mem _ F))
  refine⟨_,rfl,kf ak.g0,HC.mono (xM ak.tg (Sp.visit_word Z.tg.ok z.2) (Sp.visit_word Y.tg.ok z.1)) ?_⟩
  rintro _ dz ⟨ck,cw⟩
  have al:=ak.go ck (cw.mono (λi F _=>List.mem_cons_of_mem _ F))
  refine⟨_,by rw[aI al.g0];rfl,HC.mono (pO al.tg af d0) ?_⟩
  rintro _ c6 ⟨s',d5,cR,cO,cm,bu,cx⟩
  have b4:=al.go cm cx
  refine⟨⟨s',d5,d.set k 2,.step bi av Q S aw cR cO,bu,b4⟩,?_⟩
  show pZ c6 c3<pZ bU c3
  rw[b4.g3.ones,d6]
  have:=mK d Q
  omega
 rw[za u]
 obtain rfl:k=l.length:=by omega
 refine⟨lB,l.length,lC,by rw[aI f.g2];rfl,λoB oN oC i A=> ∃k:Nat,i=k/\k<=l.length/\oN=((((l.zip d).take k).foldl (iK t.old t.tgt) (p,[])).2).length/\Own A 36 2 oB oN oC (Au (((l.zip d).take k).foldl (iK t.old t.tgt) (p,[])).2)/\(∀j∈kc oB,X.size<=j)/\oN<=k/\X.size<=A.size/\
   GdL H b {x with sp:=(((l.zip d).take k).foldl (iK t.old t.tgt) (p,[])).1} q {t with seen:=V} c c2 c3 c4 lB lC l d A,λ_ _ _ i _=>(l.length-i).toNat,⟨0,rfl,by omega,by rw[List.take_zero];rfl,by rw[List.take_zero];exact gZ,λj y=>by simp at y,by omega,Nat.le_refl _,by rw[List.take_zero];exact f⟩,?_⟩
 rintro oB oN oC _ b0 ⟨k,rfl,hk,a3,ho,I,dn,zA,a0⟩
 have dK:(l.zip d).length=l.length:=by rw[List.length_zip];have:=f.len;omega
 by_cases L:(k:Int)< (l.length:Int)
 case neg=>
  rw[za L]
  obtain rfl:k=l.length:=by omega
  have cW:Own b0 36 2 oB oN oC (Au (zM t.old t.tgt p l d).2):=by
   unfold zM
   rw[List.take_of_length_le (by omega)]at ho;exact ho
  have bm:oN=(zM t.old t.tgt p l d).2.length:=by
   unfold zM
   rw[List.take_of_length_le (by omega)]at a3;exact a3
  have S':GdL H b {x with sp:=(zM t.old t.tgt p l d).1} q {t with seen:=V} c c2 c3 c4 lB lC l d b0:=by
   unfold zM
   rw[List.take_of_length_le (by omega)]at a0;exact a0
  have dd:=f.fr.size
  exact hR _ _ ⟨p,V,d,oB,oC,bi,aw,by rw[bm],by rw[<-bm];exact cW,λj y=>by have:=I j y;omega,S'.tg,af,S'.fr⟩
 rw[qB L]
 have m:k<l.length:=by omega
 have hd:((l.length:Int)-((k:Int)+1)).toNat< ((l.length:Int)-(k:Int)).toNat:=by omega
 rw[xl (n:=(k:Int)+1) (by omega)]
 obtain⟨a,ha,hr⟩:=a0.row k m
 have cU:k<d.length:=by have:=f.len;omega
 have d1:(l.zip d).take (k+1)=(l.zip d).take k++[(l[k],d[k])]:=by rw[List.take_succ_eq_append_getElem (by omega),List.getElem_zip]
 have w:((l.zip d).take (k+1)).foldl (iK t.old t.tgt) (p,[])=iK t.old t.tgt (((l.zip d).take k).foldl (iK t.old t.tgt) (p,[])) (l[k],d[k]):=by rw[d1,List.foldl_append];rfl
 have Q:d[k]?=some d[k]:=List.getElem?_eq_getElem cU
 have z:=ax m
 generalize ((l.zip d).take k).foldl (iK t.old t.tgt) (p,[])=st at*
 generalize l[k]=e at*
 generalize d[k]=lv at*
 obtain⟨W,O⟩:=st
 refine⟨a,ha,⟨by omega,L⟩,e.1,e.2,by rw[show Int.toNat (k:Int)=k by omega];exact hr,λef c7 cN be=>?_⟩
 obtain⟨da,dc⟩:=lT (A3:=aP c7 (Addr.mk ef 0 none) [vu e.1,vu e.2] 0) cN be [vu e.1,vu e.2] rfl
 refine⟨da,λc8 bf=>?_⟩
 obtain⟨k7,P⟩:=dc rfl
 rw[<-bf]at k7 P
 have bw:c8[ef]?=some (.cells #[vu e.1,vu e.2] 36 (0,0)):=k7
 have M:=a0.ext P
 have ac:=ho.ext P
 have ek:Int.toNat (k:Int)=k:=by omega
 refine⟨_,_,_,by rw[aI M.g4];rfl,_,rfl,⟨by omega,L⟩,lv,by rw[ek];exact M.atMark Q,?_⟩
 by_cases h2:lv<2
 case neg=>
  rw[za h2]
  have o:iK t.old t.tgt (W,O) (e,lv)=(W,O):=by unfold iK;rw[za (λq=>h2 q.1)]
  exact⟨⟨k+1,by omega,by omega,by rw[w,o];exact a3,by rw[w,o];exact ac,I,by omega,by have:=P.size;omega,by rw[w,o];exact M⟩,hd⟩
 rw[qB h2]
 refine⟨_,by rw[aI M.g0];rfl,e.2,fD bw 1,HC.mono (kG M.tg.toTc z.2) ?_⟩
 rintro _ c9 ⟨rfl,a1⟩
 refine⟨_,rfl,?_⟩
 rw[qa T.on]
 have N:=M.ext a1
 have ae:=ac.ext a1
 by_cases S:reachedB t.old W.mem e.2=true
 case neg=>
  rw[za S]
  have o:iK t.old t.tgt (W,O) (e,lv)=(W,O):=by unfold iK;rw[za (λq=>S q.2)]
  exact⟨⟨k+1,by omega,by omega,by rw[w,o];exact a3,by rw[w,o];exact ae,I,by omega,by have:=P.size;have:=a1.size;omega,by rw[w,o];exact N⟩,hd⟩
 rw[qB S]
 have o:iK t.old t.tgt (W,O) (e,lv)=(((W.visit t.old t.tgt e.1).1.visit t.old t.tgt e.2).1,O++[((W.visit t.old t.tgt e.1).2,((W.visit t.old t.tgt e.1).1.visit t.old t.tgt e.2).2)]):=by unfold iK;rw[qB ⟨h2,S⟩]
 have J:=a1.get bw
 refine⟨_,by rw[aI N.g0];rfl,e.1,by rw[aI J];rfl,_,by rw[aI N.g0];rfl,e.2,fD J 1,HC.mono (jV N.tg z.1) ?_⟩
 rintro _ b1 ⟨rfl,cn,cy⟩
 have K:Fr (q.s::yG b) c9 b1:=cy.mono (λi F _=>List.mem_cons_of_mem _ F)
 have am:=N.go cn K
 have a7:=N.small
 have dd:=f.fr.size
 have dS:=a0.fr.size
 have cq:ef ∉ q.s::yG b:=λh=>by have:=a7 ef h;omega
 have az:=K.get cq J
 refine⟨_,rfl,kf am.g0,⟨fD az 1,trivial⟩,HC.mono (jV am.tg z.2) ?_⟩
 rintro _ b2 ⟨rfl,co,cz⟩
 have a2:Fr (q.s::yG b) b1 b2:=cz.mono (λi F _=>List.mem_cons_of_mem _ F)
 have cg:=am.go co a2
 refine⟨_,rfl,λe1 cc cE aa=>?_⟩
 have an:Ext b2 cc:=Ext.push' aa
 have g:=cg.ext an
 have bk: ∀j∈kc oB,j ∉ q.s::yG b:=λj y h=>by have:=a7 j h;have:=I j y;omega
 have bo:=((ae.keep K bk).keep a2 bk).ext an
 have dY:=g.fr.size
 have dW:=a2.size
 have dV:=K.size
 have dU:=a1.size
 have dT:=P.size
 have dv:=an.size
 refine cH (ys:=[vu (W.visit t.old t.tgt e.1).2,vu ((W.visit t.old t.tgt e.1).1.visit t.old t.tgt e.2).2]) bo (kf (aF cE aa)) rfl rfl rfl (by omega) ?_
 intro B' c' cd bp D bn
 have G: ∀j∈kc oB,j≠c/\j≠c2/\j≠c3/\j≠c4/\j ∉ b.all/\j ∉ q.all/\j ∉ kc lB:=λj y=>by
  have dI:=I j y
  have l0:=aS f.g0
  have l2:=aS f.g2
  have l4:=aS f.g4
  have l3:c3<X.size:=f.g3.lt c3 (by simp)
  exact⟨by omega,by omega,by omega,by omega,λh=>by have:=f.all j (.inl h);omega,λh=>by have:=f.all j (.inr h);omega,λh=>by have:=(f.lb j h).1;omega⟩
 have ch:GdL H b {x with sp:=((W.visit t.old t.tgt e.1).1.visit t.old t.tgt e.2).1} q {t with seen:=V} c c2 c3 c4 lB lC l d cd:=
  ⟨g.tg.stay D (λj y=>(G j y).2.2.2.2.1) (λj y=>(G j y).2.2.2.2.2.1),D.get (λh=>(G _ h).1 rfl) g.g0,D.get (λh=>(G _ h).2.1 rfl) g.g2,D.get (λh=>(G _ h).2.2.2.1 rfl) g.g4,g.g3.keep D (λj y h=>(G j h).2.2.1 (by simpa using y)),g.row.keep D (λj y h=>(G j h).2.2.2.2.2.2 y),g.fr.trans' D (λi F _=>F) (λi F u=>by have:=I i F;omega),g.new,g.lb,g.all,g.len⟩
 refine⟨⟨k+1,by omega,by omega,by rw[w,o,List.length_append,a3];rfl,?_,λj y=>?_,by omega,by have:=D.size;omega,by rw[w,o];exact ch⟩,hd⟩
 ·rw[w,o,sP];exact bp
 ·rcases bn j y with h | h
  ·exact I j h
  ·omega
variable{d:Blk}{i:Hp}{H:zV}{j:List Int}{k:Tr}{o:Int}{r:TB}
theorem HpAt.putSy2(h:HpAt H d i)(v:Value):aH H ((Addr.mk d.h 0 none).add 1) 0 1/\HpAt (aP H ((Addr.mk d.h 0 none).add 1) [v] 0) d {i with sy:=v}/\Fr [d.h] H (aP H ((Addr.mk d.h 0 none).add 1) [v] 0):=by
 obtain⟨a,b⟩:=mn h.h 1 v (by simp)
 obtain⟨g,f⟩:=b _ rfl
 refine⟨a,⟨h.cd.keep f ?_ ?_ ?_ ?_,h.ne,g⟩,f⟩<;>have:=h.ne<;>simp<;>omega
theorem Tg.putSy{a:zV}{v:Value}(T:Tg H d i r k)(c:HpAt a d {i with sy:=v})(f:Fr [d.h] H a):Tg a d {i with sy:=v} r k:=
 ⟨⟨c,T.ok,T.tr.keep f (λe b h=>by
  simp at b
  exact T.apart e h (by rw[b];simp[Blk.all])),T.apart⟩,T.even,T.cf,T.on⟩
def js(O:Nat->Bool)(m:Mem)(l:List Int):List Int:=(l.filter λw=>decide (¬aO O w) || (m.fwd w).isSome).map λw=>if aO O w then(m.fwd w).getD 0 else w
theorem mt{O:Nat->Bool}{m:Mem}:js O m (j++[o])=js O m j++if(decide (¬aO O o) || (m.fwd o).isSome)=true then[if aO O o then(m.fwd o).getD 0 else o]else[]:=by
 unfold js
 rw[List.filter_append,List.map_append]
 congr 1
 rw[List.filter_cons]
 by_cases h:(decide (¬aO O o) || (m.fwd o).isSome)=true
 ·rw[qB h,qB h];rfl
 ·rw[za h,za h];rfl
theorem rL{t:Tr}{E:zW}{lC:Nat}(T:Tg H d i r t)(hs:eF H E (xT j))(hw: ∀w∈j,aD w)(O: ∀am∈kc E,am ∉ d.all)(hl:j.length<=1000000):
  jI.C (some ⟨r.t,0,none⟩) E j.length lC H (λv I=> ∃B c,v=.slice B (js t.old i.sp.mem j).length c/\Own I 28 1 B (js t.old i.sp.mem j).length c (xT (js t.old i.sp.mem j))/\(∀am∈kc B,H.size<=am)/\Tg I d i r t/\Fr (yG d) H I):=by
 refine HC.via λR hR=>jI.link ?_
 unfold jI.pt zY
 refine HC.mono (mq T.toTc) ?_
 rintro _ U ⟨rfl,rfl⟩
 refine⟨_,rfl,?_⟩
 rw[za (by rw[T.on];decide)]
 refine⟨λB n c al A=> ∃k:Nat,al=k/\k<=j.length/\n=(js t.old i.sp.mem (j.take k)).length/\Own A 28 1 B n c (xT (js t.old i.sp.mem (j.take k)))/\(∀am∈kc B,U.size<=am)/\Tg A d i r t/\Fr (yG d) U A,λ_ _ _ al _=>(j.length-al).toNat,
  ⟨0,rfl,by omega,rfl,gZ,by simp,T,Fr.refl _ _⟩,?_⟩
 rintro B n c al A ⟨k,rfl,hk,rfl,G,f,J,p⟩
 by_cases e:(k:Int)< (j.length:Int)
 case neg=>
  rw[za e]
  obtain rfl:k=j.length:=by omega
  rw[List.take_length]at G⊢
  exact hR _ _ ⟨B,c,rfl,G,f,J,p⟩
 rw[qB e]
 have g:k<j.length:=by omega
 have Z:((j.length:Int)-((k:Int)+1)).toNat< ((j.length:Int)-(k:Int)).toNat:=by omega
 rw[xl (n:=(k:Int)+1) (by omega)]
 have S:eF A E (xT j):=by
  cases E with
  | none=>exact hs
  | some a=>exact p.rowAt (λh=>O a.block (by simp) (jM h)) hs
 obtain⟨a,ha,s⟩:=rH S (k:=k) (v:=vu j[k]) (by unfold xT;rw[List.getElem?_map,List.getElem?_eq_getElem g];rfl)
 have D:=hw _ (List.getElem_mem g)
 have m:j.take (k+1)=j.take k++[j[k]]:=List.take_succ_eq_append_getElem g
 have a1:(js t.old i.sp.mem (j.take k)).length<=k:=by
  unfold js
  rw[List.length_map]
  refine Nat.le_trans (List.length_filter_le _ _) ?_
  rw[List.length_take];omega
 generalize j[k]=w at*
 refine⟨a,ha,⟨by omega,e⟩,_,s,?_⟩
 refine HC.mono (kG J.toTc D) ?_
 rintro _ H4 ⟨rfl,o⟩
 refine⟨_,rfl,?_⟩
 have Q:decide (¬(t.over=false/\aO t.old w))=decide (¬aO t.old w):=by
  by_cases h:aO t.old w
  ·rw[zQ (show ¬ ¬(t.over=false/\aO t.old w)from λr=>r ⟨T.on,h⟩),zQ (show ¬ ¬aO t.old w from λr=>r h)]
  ·rw[zX (show ¬(t.over=false/\aO t.old w)from λr=>h r.2),zX (show ¬aO t.old w from h)]
 rw[Q]
 have W:=J.grow o
 have z4:=o.size
 have zA:=p.size
 by_cases l:(decide (¬aO t.old w) || (i.sp.mem.fwd w).isSome)=true
 case neg=>
  rw[za l]
  exact⟨⟨k+1,by omega,by omega,by rw[m,mt,za l,List.append_nil],by rw[m,mt,za l,List.append_nil];exact G.ext o,f,W,p.trans o.fr⟩,Z⟩
 rw[qB l]
 have z:i.sp.visit t.old t.tgt w=(i.sp,if aO t.old w then(i.sp.mem.fwd w).getD 0 else w):=by
  by_cases h:aO t.old w
  ·rw[qB h]
   cases hf:i.sp.mem.fwd w with
   | none=>rw[hf,zQ (show ¬ ¬aO t.old w from λr=>r h)]at l;exact absurd l (by decide)
   | some v=>rw[Sp.visit_fwd h hf];rfl
  ·rw[za h];exact Sp.visit_no h
 refine HC.mono (jV W D) ?_
 rintro _ H5 ⟨rfl,X,K⟩
 rw[z]at X⊢
 refine⟨_,rfl,λb6 V L q=>?_⟩
 have F:Ext H5 V:=Ext.push' q
 have T6:Tg V d i r t:=X.grow F
 have y: ∀am∈yG d,am∈d.all:=λam b=>jM b
 have M: ∀am∈kc B,am ∉ yG d:=λam b h=>by have:=T.lt (.inl (y am h));have:=f am b;omega
 have z5:=K.size
 have z6:=F.size
 refine cH (ys:=xT [if aO t.old w then(i.sp.mem.fwd w).getD 0 else w]) (((G.ext o).keep K (λam b=>M am b)).ext F) (eG (aF L q) _ 0 0 (λam b=>by
  simp only[xT,List.map_cons,List.map_nil,List.length_cons,List.length_nil]at b
  obtain rfl:am=0:=by omega
  rfl)) rfl (gK _) rfl (by omega) ?_
 intro B' c' H7 u Y P
 have T7:Tg H7 d i r t:=T6.stay Y (λam b h=>by have:=T.lt (.inl h);have:=f am b;omega) (λam b h=>by have:=T.lt (.inr h);have:=f am b;omega)
 have x:js t.old i.sp.mem (j.take (k+1))=js t.old i.sp.mem (j.take k)++[if aO t.old w then(i.sp.mem.fwd w).getD 0 else w]:=by rw[m,mt,qB l]
 have N:(js t.old i.sp.mem (j.take (k+1))).length=(js t.old i.sp.mem (j.take k)).length+1:=by rw[x,List.length_append];rfl
 refine⟨⟨k+1,by omega,by omega,N.symm,?_,λam b=>?_,T7,?_⟩,Z⟩
 ·rw[x]
  unfold xT at u⊢
  rw[List.map_append]
  exact u
 ·rcases P am b with h | h
  ·exact f am h
  ·omega
 ·exact(((p.trans o.fr).trans K).trans F.fr).trans' Y (λam b _=>b) (λam b e=>by have:=f am b;omega)
def rf(O:Nat->Bool)(fw:Int->Option Int)(w:Int):Bool:=decide (¬aO O w) || (fw (w / 8)).isSome
def oO(O:Nat->Bool)(fw:Int->Option Int)(l:List Int):List Int:=(l.filter (rf O fw)).map (Fw O fw)
theorem sK.pruned{Z:TZ}{A u g B:Sp}{D:Int->Nat}{c:Int->Option Int}(C:sK Z A o k c j D u g B)(z:k.old=Z.O){l:List Int}(s: ∀w∈l,aD w/\Good Z.m Z.sz w):
  js k.old g.mem l=oO k.old c l:=by
 have t:=C.t
 have S:=t.S
 rw[z]
 have key: ∀w,aD w->Good Z.m Z.sz w->aO Z.O w->g.mem.fwd w=(c (w / 8)).map λb=>b*8+w % 8:=λw i d a=>by
  rw[<-t.tri.fwd_is S i d a]
  obtain⟨x,y,E,F⟩:=S.oldWord d a
  have n:=t.tri.heads.used (S.sound.used _ x).1
  have e:=C.brk.old _ n y
  unfold Mem.fwd
  rw[e]
  have p:g.mem.used (w / 8) ↔ u.mem.used (w / 8):=C.brk.same.used
  exact kH ⟨λq=>⟨n,q.2⟩,λq=>⟨p.2 n,q.2⟩⟩ _ _
 induction l with
 | nil=>rfl
 | cons w l f=>
  have f:=f (λv h=>s v (by simp[h]))
  obtain⟨i,d⟩:=s w (by simp)
  have r:(decide (¬aO Z.O w) || (g.mem.fwd w).isSome)=rf Z.O c w:=by
   unfold rf
   by_cases a:aO Z.O w
   ·rw[key w i d a,Option.isSome_map]
   ·rw[zX (show ¬aO Z.O w from a)];rfl
  unfold js oO at f⊢
  by_cases hk:rf Z.O c w=true
  ·rw[List.filter_cons_of_pos (by rw[r];exact hk),List.filter_cons_of_pos hk,List.map_cons,List.map_cons,f]
   congr 1
   by_cases a:aO Z.O w
   ·rw[qB a,key w i d a]
    unfold rf at hk
    rw[zQ (show ¬ ¬aO Z.O w from λq=>q a)]at hk
    obtain⟨v,h⟩:=Option.isSome_iff_exists.1 (by simpa using hk)
    rw[h,kr a h];rfl
   ·rw[za a,jv a]
  ·rw[List.filter_cons_of_neg (by rw[r];exact hk),List.filter_cons_of_neg hk,f]
structure uu (K:zV->List Int->Prop) (S:List Nat) (H H':zV) (b:Blk) (x:Hp) (sz:Int->Nat) (g T:Int) (roots:List Int) (el:List (Int×Int)) (syl:List Int) (V:Int->Prop) (q:Int->Option Int) (P:List Int) (fw:Int->Option Int) (al:List Int) (sz':Int->Nat) (tr:Tr) (s3 s4 s5:Sp) (out:List (Int×Int)):Prop where
 col:sK ⟨x.sp.mem,sz,tr.old,T,V,q,P⟩ x.sp g tr fw al sz' s3 s4 s5
 own:K H' (roots.map (Fw tr.old fw))
 kept: ∀w∈roots,V w
 fr:Fr (b.all++S) H H'
 cf:s5.cf<=x.sp.cf+1024
 none:el=[]->P=[]/\(∀y,q y=none)/\ ∀v,V v->v∈roots
 ents:(∀e∈out,∃e0∈el,e=(Fw tr.old fw e0.1,Fw tr.old fw e0.2)/\Dn tr.old fw e0.1/\Dn tr.old fw e0.2)/\out.length<=el.length
 at': ∃B c oB oC,HpAt H' b {x with sp:=s5,sy:=.slice B (oO tr.old fw syl).length c,en:=vs oB out.length oC,ep:=IntKind.wrap .u64 (x.ep+1)}/\Own H' 28 1 B (oO tr.old fw syl).length c (xT (oO tr.old fw syl))/\(∀j∈kc B,H.size<=j)/\Own H' 36 2 oB out.length oC (Au out)/\(∀j∈kc oB,H.size<=j)/\ ∀j∈kc B,j ∉ kc oB
theorem HpAt.putEn2(h:HpAt H d i)(v:Value):aH H ((Addr.mk d.h 0 none).add 2) 0 1/\HpAt (aP H ((Addr.mk d.h 0 none).add 2) [v] 0) d {i with en:=v}/\Fr [d.h] H (aP H ((Addr.mk d.h 0 none).add 2) [v] 0):=by
 obtain⟨a,b⟩:=mn h.h 2 v (by simp)
 obtain⟨g,f⟩:=b _ rfl
 refine⟨a,⟨h.cd.keep f ?_ ?_ ?_ ?_,h.ne,g⟩,f⟩<;>have:=h.ne<;>simp<;>omega
theorem Tg.putEn{a:zV}{v:Value}(T:Tg H d i r k)(c:HpAt a d {i with en:=v})(f:Fr [d.h] H a):Tg a d {i with en:=v} r k:=
 ⟨⟨c,T.ok,T.tr.keep f (λe b h=>by
  simp at b
  exact T.apart e h (by rw[b];simp[Blk.all])),T.apart⟩,T.even,T.cf,T.on⟩
theorem rM{K:zV->List Int->Prop}{S:List Nat}{ra:Addr}(Ce:Cel S ra K){x:Hp}{sz:Int->Nat}{T:Int}{k:Nat}{pB:zW}{pN pC:Nat}(hp:HpAt H d x)(I:Inv x.sp sz)(cu:x.sp.cf<4611686018427387904){eB:zW}{eC:Nat}{m:List (Int×Int)}(bk:x.en=vs eB m.length eC)(aw:Own H 36 2 eB m.length eC (Au m))(L: ∀dG∈kc eB,dG ∉ d.all/\dG ∉ S)(U: ∀e∈m,oM x.sp.mem sz e)(cA:m.length<=1000000){sB:zW}{sC:Nat}{f:List Int}(cL:x.sy=vs sB f.length sC)(bP:Own H 28 1 sB f.length sC (xT f))(u: ∀dG∈kc sB,dG ∉ d.all/\dG ∉ S)(bU: ∀w∈f,aD w/\Good x.sp.mem sz w)(cK:f.length<=1000000)(hg:zO o)(hT:zO T)
  (hr:K H j) (a7: ∀dG∈S,dG ∉ d.all) (bH:eF H pB (zy k ra j.length)) (dr:pN=k+j.length) (bA: ∀dG∈kc pB,dG ∉ d.all/\dG ∉ S/\dG<H.size) (W: ∀w∈j,aD w/\Good x.sp.mem sz w) (hl:pN<=1000000000):
  iQ.C (some ⟨d.h,0,none⟩) o T pB pN pC H (λv H'=>(iJ x.sp o T ((m.length / 32+1:Nat):Int)≠0->v=vi (iJ x.sp o T ((m.length / 32+1:Nat):Int))/\Ext H H')/\
   (iJ x.sp o T ((m.length / 32+1:Nat):Int)=0->v=vi 0/\ ∃V q P fw al a8 tr s3 p s5 z,uu K S H H' d x sz o T j m f V q P fw al a8 tr s3 p s5 z)):=by
 refine HC.via λR hR=>iQ.link ?_
 unfold iQ.pt zY
 rw[onPtr_some]
 have ok:=I.ok
 have ax:lu.C (some ⟨d.h,0,none⟩) H (λv H'=>v=vi ((m.length / 32+1:Nat):Int)/\H'=H):=by
  refine HC.via λR hR=>lu.link ?_
  unfold lu.pt zY
  refine⟨_,rfl,eB,m.length,eC,?_,hR _ _ ⟨?_,rfl⟩⟩
  ·rw[fD hp.h 2];exact congrArg some bk
  ·rw[jw (by omega),xl (n:=(m.length:Int) / 32) (by omega),xl (n:=(m.length:Int) / 32+1) (by omega)]
   congr 1
 generalize dq:((m.length / 32+1:Nat):Int)=J at*
 have ae:0<=J/\J<=1000001/\((m.length / 32:Nat):Int)<=J:=by omega
 refine HC.mono ax ?_
 rintro _ H1 ⟨rfl,rfl⟩
 refine⟨_,rfl,?_⟩
 refine HC.mono (tS hp ok I.even cu hg hT (by constructor<;>omega)) ?_
 rintro v2 H2 ⟨cD,c5⟩
 by_cases D:iJ x.sp o T J=0
 case neg=>
  obtain⟨rfl,e2⟩:=cD D
  refine⟨_,_,rfl,?_⟩
  rw[za D]
  exact hR _ _ ⟨λ_=>⟨rfl,e2⟩,λh=>absurd h D⟩
 obtain⟨q,t,rfl,T2,B,hq,f2⟩:=c5 D
 refine⟨_,_,rfl,?_⟩
 rw[qB rfl]
 obtain rfl:=B.tgt
 have d3:=nt ae.1 D
 have cW:=hp.lt
 have bM:=Ce.lt hr
 have c: ∀dG∈yG d,dG∈d.all:=λdG b=>jM b
 have z2:=f2.size
 have bN: ∀dG∈S,dG ∉ q.all:=λdG b h=>by have:=bM dG b;have:=hq dG h;omega
 have hw: ∀w∈j,aD w:=λw h=>(W w h).1
 have cI:=Ce.keep hr f2 (λdG b h=>a7 dG b (c dG h))
 have ag:eF H2 pB (zy k ra j.length):=by
  cases pB with
  | none=>exact bH
  | some a=>
   have E:=bA a.block (by simp)
   exact f2.rowAt (λh=>E.1 (c _ h)) bH
 have ey:({x with sp:=x.sp.fresh (eW o)}:Hp).sp=x.sp.fresh (eW o):=rfl
 generalize Z:({x with sp:=x.sp.fresh (eW o)}:Hp)=y at*
 refine⟨λi A=>(0<=i/\i<=pN)/\Tg A d {y with sp:=(y.sp.visL t.old t.tgt (j.take (i-k).toNat)).1} q t/\K A ((y.sp.visL t.old t.tgt (j.take (i-k).toNat)).2++j.drop (i-k).toNat)/\Fr (yG d++S) H2 A,λi _=>(pN-i).toNat,
  ⟨⟨by omega,by omega⟩,?_,?_,Fr.refl _ _⟩,?_⟩
 ·rw[show((0:Int)-(k:Int)).toNat=0 by omega];exact T2
 ·rw[show((0:Int)-(k:Int)).toNat=0 by omega];exact cI
 rintro i A ⟨hi,TA,hA,fA⟩
 by_cases a4:i< (pN:Int)
 case pos=>
  rw[qB a4]
  have hd:((pN:Int)-(i+1)).toNat< ((pN:Int)-i).toNat:=by omega
  rw[xl (n:=i+1) (by omega)]
  have ah:eF A pB (zy k ra j.length):=by
   cases pB with
   | none=>exact ag
   | some a=>
    have E:=bA a.block (by simp)
    exact fA.rowAt (λh=>by rcases List.mem_append.1 h with h | h;exact E.1 (c _ h);exact E.2.1 h) ag
  by_cases dn:i<k
  ·obtain⟨a,ha,Q⟩:=rH ah (wV (k:=k) (i:=i.toNat) (by omega))
   refine⟨a,ha,⟨hi.1,a4⟩,_,Q,?_⟩
   rw[onPtr_none]
   rw[show(i-(k:Int)).toNat=0 by omega]at TA hA
   exact⟨⟨⟨by omega,by omega⟩,by rw[show(i+1-(k:Int)).toNat=0 by omega];exact TA,by rw[show(i+1-(k:Int)).toNat=0 by omega];exact hA,fA⟩,hd⟩
  ·obtain⟨dG,b⟩: ∃dG:Nat,i=k+dG:=⟨(i-k).toNat,by omega⟩
   have a3:dG<j.length:=by omega
   subst b
   rw[show((k:Int)+(dG:Int)-(k:Int)).toNat=dG by omega]at TA hA
   obtain⟨a,ha,Q⟩:=rH ah (wW (k:=k) (a:=ra) a3)
   refine⟨a,ha,⟨hi.1,a4⟩,_,by rw[show((k:Int)+(dG:Int)).toNat=k+dG by omega];exact Q,?_⟩
   rw[onPtr_some]
   have aZ:=Sp.visL_len t.old t.tgt y.sp (j.take dG)
   rw[List.length_take,Nat.min_eq_left (by omega)]at aZ
   have bn:dG< ((y.sp.visL t.old t.tgt (j.take dG)).2++j.drop dG).length:=by rw[List.length_append,List.length_drop];omega
   have cB:((y.sp.visL t.old t.tgt (j.take dG)).2++j.drop dG)[dG]=j[dG]:=by
    rw[List.getElem_append_right (by omega)]
    simp only[aZ,Nat.sub_self,List.getElem_drop,Nat.add_zero]
   have ab:=Ce.at' hA bn
   rw[cB]at ab
   refine⟨_,ab,?_⟩
   have bo:=List.getElem_mem a3
   refine HC.mono (jV TA (hw _ bo)) ?_
   rintro _ A2 ⟨rfl,cn,bd⟩
   have cp:=Ce.keep hA bd (λdG b h=>a7 dG b (c dG h))
   obtain⟨cw,hs⟩:=Ce.put ((y.sp.visL t.old t.tgt (j.take dG)).1.visit t.old t.tgt j[dG]).2 cp bn
   refine⟨_,rfl,cw,λA3 cq=>?_⟩
   obtain⟨br,f3⟩:=hs A3 cq
   have cM:j.take (dG+1)=j.take dG++[j[dG]]:=List.take_succ_eq_append_getElem a3
   have bX:y.sp.visL t.old t.tgt (j.take (dG+1))=(((y.sp.visL t.old t.tgt (j.take dG)).1.visit t.old t.tgt j[dG]).1,(y.sp.visL t.old t.tgt (j.take dG)).2++[((y.sp.visL t.old t.tgt (j.take dG)).1.visit t.old t.tgt j[dG]).2]):=by rw[cM,Sp.visL_snoc]
   have F:((y.sp.visL t.old t.tgt (j.take dG)).2++j.drop dG).set dG ((y.sp.visL t.old t.tgt (j.take dG)).1.visit t.old t.tgt j[dG]).2=(y.sp.visL t.old t.tgt (j.take (dG+1))).2++j.drop (dG+1):=by
    rw[bX,List.set_append,za (by omega),aZ,Nat.sub_self,List.drop_eq_getElem_cons a3,List.set_cons_zero,List.append_assoc]
    rfl
   rw[F]at br
   refine⟨⟨⟨by omega,by omega⟩,?_,?_,?_⟩,hd⟩
   ·rw[show((k:Int)+(dG:Int)+1-(k:Int)).toNat=dG+1 by omega,bX]
    exact cn.stay f3 (λi hi h=>a7 i hi h) (λi hi h=>bN i hi h)
   ·rw[show((k:Int)+(dG:Int)+1-(k:Int)).toNat=dG+1 by omega];exact br
   ·exact(fA.trans (bd.mono (λi hi _=>List.mem_append_left _ hi))).trans (f3.mono (λi hi _=>List.mem_append_right _ hi))
 rw[za a4]
 have ac:(i-(k:Int)).toNat=j.length:=by omega
 rw[ac,List.take_length]at TA
 rw[ac,List.take_length,List.drop_length,List.append_nil]at hA
 refine HC.mono (tP TA (B.cardsOK ok.mem)) ?_
 rintro _ H6 ⟨T6,f6⟩
 refine HC.mono (pO T6 (B.seenOK ok.mem) (by omega)) ?_
 rintro _ H7 ⟨s3,cR,cy,cx,T7,bQ,f7⟩
 have bZ:y.en=vs eB m.length eC:=by rw[<-Z];exact bk
 have c7:y.sy=vs sB f.length sC:=by rw[<-Z];exact cL
 have d1:y.ep=x.ep:=by rw[<-Z]
 have bj: ∀dG∈kc eB,dG ∉ d.all++q.all:=λdG b h=>by
  rcases List.mem_append.1 h with h | h
  ·exact(L dG b).1 h
  ·have:=aw.lt dG b;have:=hq dG h;omega
 have cz:Own A 36 2 eB m.length eC (Au m):=(aw.keep f2 (λdG b h=>(L dG b).1 (c dG h))).keep fA (λdG b h=>by
  rcases List.mem_append.1 h with h | h
  ·exact(L dG b).1 (c dG h)
  ·exact(L dG b).2 h)
 have bi:Own H7 36 2 eB m.length eC (Au m):=(cz.keep f6 (λdG b h=>(L dG b).1 (c dG h))).keep f7 (λdG b h=>bj dG b (by
  rcases List.mem_cons.1 h with h | h
  ·rw[h];simp[TB.all]
  ·exact List.mem_append_left _ (c dG h)))
 refine⟨eB,m.length,eC,by rw[fD T7.hp.h 2];exact congrArg some bZ,?_⟩
 have bl:=bi.lt
 refine HC.mono (qs T7 bQ (show 0<=t.tgt by omega) bi.entries (λe h=>⟨(U e h).1.1,(U e h).2.1⟩) (λdG b=>⟨bl dG b,(L dG b).1,λh=>by have:=aw.lt dG b;have:=hq dG h;omega⟩) cA) ?_
 rintro _ H8 ⟨p,k4,aj,gB,gC,cs,cC,rfl,Y,g,T8,d4,f8⟩
 have c6:y.sp=x.sp.fresh (eW o):=by rw[<-Z]
 have bh:iB t.old t.tgt (((x.sp.fresh (eW o)).visL t.old t.tgt j).1.lookCards t.old t.tgt t.cards) t.seen s3 cR:=by rw[<-c6];exact cy
 obtain⟨V,qq,P,fw,al,a8,ON,cO,cJ,F,cX,bp⟩:=rJ I ae.2.2 D B W U bh cx cs cC
 have bs:=wZ ON U F
 have bu:=w6 ON U F
 have az:=vO t.old fw m aj
 rw[bs]at T8 Y
 rw[bs]
 generalize Az t.old fw m aj=z at*
 replace Y:Own H8 36 2 gB z.length gC (Au z):=Y
 obtain⟨bg,bz,f9⟩:=T8.hp.putEn2 (vs gB z.length gC)
 refine⟨_,_,_,rfl,bg,λH9 cr=>?_⟩
 rw[<-cr]at bz f9
 have T9:=T8.putEn bz f9
 refine HC.mono (qr T9 (B.frmOK ok.mem) (B.cardsOK ok.mem)) ?_
 rintro _ a1 ⟨l,bm,M,N⟩
 refine⟨sB,f.length,sC,by rw[fD M.hp.h 1,<-c7];rfl,?_⟩
 have ai: ∀dG∈kc sB,dG ∉ d.all++q.all:=λdG b h=>by
  rcases List.mem_append.1 h with h | h
  ·exact(u dG b).1 h
  ·have:=bP.lt dG b;have:=hq dG h;omega
 have aV: ∀dG∈q.s::yG d,dG∈d.all++q.all:=λdG b=>by
  rcases List.mem_cons.1 b with h | h
  ·rw[h];simp[TB.all]
  ·exact List.mem_append_left _ (c dG h)
 have bR:Own A 28 1 sB f.length sC (xT f):=(bP.keep f2 (λdG b h=>(u dG b).1 (c dG h))).keep fA (λdG b h=>by
  rcases List.mem_append.1 h with h | h
  ·exact(u dG b).1 (c dG h)
  ·exact(u dG b).2 h)
 have aW:Own a1 28 1 sB f.length sC (xT f):=(((((bR.keep f6 (λdG b h=>(u dG b).1 (c dG h))).keep f7 (λdG b h=>ai dG b (aV dG h))).keep f8 (λdG b h=>ai dG b (aV dG h))).keep f9 (λdG b h=>(u dG b).1 (by simp at h;rw[h];simp[Blk.all])))).keep N (λdG b h=>(u dG b).1 (c dG h))
 refine HC.mono (rL M aW.src (λw h=>(bU w h).1) (λdG b=>(u dG b).1) cK) ?_
 rintro _ da ⟨oB,oC,rfl,cE,a5,b9,ba⟩
 obtain⟨av,af,O⟩:=b9.hp.putSy2 (.slice oB (js t.old _ f).length oC)
 refine⟨_,_,_,rfl,av,λb8 bf=>?_⟩
 rw[<-bf]at af O
 have cj:=b9.putSy af O
 refine HD.mono (vF cj) ?_
 rintro am ⟨bw,cN,ao⟩
 have C:sK ⟨x.sp.mem,sz,t.old,t.tgt,V,qq,P⟩ x.sp o t fw al a8 p {p with mem:=(p.mem.weaks t l).foldl (yv t.old) p.mem} (({p with mem:=(p.mem.weaks t l).foldl (yv t.old) p.mem}:Sp).ended t):=Tri.ends ON.S ON.tri I.marked B rfl ON.fin ON.roots bm
 have sX: ∀dG∈yG d,dG∈d.all++q.all:=λdG b=>List.mem_append_left _ (c dG b)
 have G:Fr (d.all++q.all) A am:=by
  have df:Fr (d.all++q.all) A H6:=f6.mono (λdG b _=>sX dG b)
  have a2:Fr (d.all++q.all) H6 H7:=f7.mono (λdG b _=>by
   rcases List.mem_cons.1 b with h | h
   ·rw[h];simp[TB.all]
   ·exact sX dG h)
  have di:Fr (d.all++q.all) H7 b8:=((((f8.mono (λdG b _=>aV dG b)).trans (f9.mono (λdG b _=>by simp at b;rw[b];simp[Blk.all]))).trans (N.mono (λdG b _=>sX dG b))).trans (ba.mono (λdG b _=>sX dG b))).trans (O.mono (λdG b _=>by simp at b;rw[b];simp[Blk.all]))
  have dj:Fr (d.all++q.all) b8 am:=ao.mono (λdG b _=>by
   rcases List.mem_cons.1 b with h | h
   ·rw[h];simp[Blk.all]
   ·rcases List.mem_cons.1 h with h | h
    ·rw[h];simp[TB.all]
    ·exact sX dG h)
  exact((df.trans a2).trans di).trans dj
 have a6:=Ce.keep hA G (λdG b h=>by
  rcases List.mem_append.1 h with h | h
  ·exact a7 dG b h
  ·exact bN dG b h)
 have FA:Fr (d.all++S) H1 A:=(f2.mono (λdG b _=>List.mem_append_left _ (c dG b))).trans (fA.mono (λdG b _=>by
  rcases List.mem_append.1 b with h | h
  ·exact List.mem_append_left _ (c dG h)
  ·exact List.mem_append_right _ h))
 have bB:=C.pruned rfl bU
 have zb:=M.lt (i:=d.h) (.inl (by simp[Blk.all]))
 have dw:H1.size<=a1.size:=by
  have:=f2.size;have:=fA.size;have:=f6.size;have:=f7.size;have:=f8.size;have:=f9.size;have:=N.size
  omega
 have z7:H1.size<=H7.size:=by
  have:=f2.size;have:=fA.size;have:=f6.size;have:=f7.size
  omega
 have r: ∀dG,dG∈d.all\/dG∈q.all->dG<H7.size:=λdG b=>T7.lt b
 have X: ∀dG∈d.h::q.t::yG d,dG<a1.size/\dG<H7.size:=λdG b=>by
  rcases List.mem_cons.1 b with h | h
  ·rw[h];exact⟨zb,r _ (.inl (by simp[Blk.all]))⟩
  rcases List.mem_cons.1 h with h | h
  ·rw[h];exact⟨M.lt (.inr (by simp[TB.all])),r _ (.inr (by simp[TB.all]))⟩
  ·exact⟨M.lt (.inl (c dG h)),r _ (.inl (c dG h))⟩
 have aU:=(cE.keep O (λdG b h=>by simp at h;have:=a5 dG b;omega)).keep ao (λdG b h=>by have:=a5 dG b;have:=(X dG h).1;omega)
 have bq:Own am 36 2 gB z.length gC (Au z):=((((Y.keep f9 (λdG b h=>by simp at h;have:=g dG b;have:=r d.h (.inl (by simp[Blk.all]));omega)).keep N (λdG b h=>by have:=g dG b;have:=r dG (.inl (c dG h));omega)).keep ba (λdG b h=>by have:=g dG b;have:=r dG (.inl (c dG h));omega)).keep O (λdG b h=>by simp at h;have:=g dG b;have:=r d.h (.inl (by simp[Blk.all]));omega)).keep ao (λdG b h=>by have:=g dG b;have:=(X dG h).2;omega)
 have cZ:=Sp.ended_cf ({p with mem:=(p.mem.weaks t l).foldl (yv t.old) p.mem}:Sp) t
 have cv:({p with mem:=(p.mem.weaks t l).foldl (yv t.old) p.mem}:Sp).cf=p.cf:=by
  unfold Sp.cf
  show((p.mem.weaks t l).foldl (yv t.old) p.mem).count+((p.mem.weaks t l).foldl (yv t.old) p.mem).free=_
  rw[C.brk.same.count,C.brk.same.free]
 have ay: ∀dG∈kc gB,dG<a1.size:=λdG b=>((Y.keep f9 (λdG b h=>by simp at h;have:=g dG b;have:=r d.h (.inl (by simp[Blk.all]));omega)).keep N (λdG b h=>by have:=g dG b;have:=r dG (.inl (c dG h));omega)).lt dG b
 refine hR _ _ ⟨λh=>absurd D h,λ_=>⟨rfl,V,qq,P,fw,al,a8,t,p,_,_,z,⟨C,?_,cJ,?_,by omega,bp,⟨bu,az⟩,oB,oC,gB,gC,?_,?_,λdG b=>by have:=a5 dG b;omega,bq,λdG b=>by have:=g dG b;omega,λdG b h=>by have:=a5 dG b;have:=ay dG h;omega⟩⟩⟩
 ·rw[<-cO,<-c6];exact a6
 ·exact FA.trans' G (λdG b _=>b) (λdG b hl=>by
   rcases List.mem_append.1 b with h | h
   ·exact List.mem_append_left _ h
   ·have:=hq dG h;omega)
 ·have:=bw
  rw[<-Z]at this
  rw[<-bB]
  exact this
 ·rw[<-bB];exact aU
