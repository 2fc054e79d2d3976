/-
 What is copied, and where to; what has become of each word by now. Proves nothing of any one statement.
-/
import Derived.Test.YtfhbhckhmnleoaaGreatGcB
set_option linter.unusedVariables false
set_option linter.unusedSimpArgs false
namespace Go.Proofs.YtfhbhckhmnleoaaGreat
open Go
variable{d i:Mem}
theorem Grown.usedIff{a g k n:Int}(b:Grown d i a n g k)(hn:0<=n){x:Int}:i.used x ↔ d.used x\/(a<=x/\x<a+n):=by
 obtain⟨u,v,w⟩:=b.addr
 obtain⟨l,y,z,r⟩:=b.new
 by_cases m:(x / 64).toNat=(a / 64).toNat
 ·unfold Mem.used Mem.has
  rw[m,r,b.limit]
  by_cases j:(d.seg (a / 64).toNat).taken=0
  ·have:=b.fresh j
   constructor
   ·rintro⟨e,c,f⟩;exact .inr (by omega)
   ·rintro(⟨e,⟨_,_,c⟩,_⟩ | h)
    ·exact absurd j c
    ·exact⟨by omega,⟨by omega,by omega,l⟩,by omega⟩
  ·obtain⟨A,B,t,_⟩:=b.old j
   rw[t]
   constructor
   ·rintro⟨e,⟨c,f,_⟩,o⟩
    by_cases q:x % 64<a % 64
    ·exact .inl ⟨e,⟨c,f,j⟩,q⟩
    ·exact .inr (by omega)
   ·rintro(⟨e,⟨c,f,_⟩,o⟩ | h)
    ·exact⟨e,⟨c,f,l⟩,by omega⟩
    ·exact⟨by omega,⟨by omega,by omega,l⟩,by omega⟩
 ·have p:=b.others _ m
  unfold Mem.used Mem.has
  rw[p,b.limit]
  constructor
  ·intro h;exact .inl h
  ·rintro(h | h)
   ·exact h
   ·exfalso;omega
theorem eK.used{m b:Mem}(h:eK m b){x:Int}(a:m.used x):b.used x:=⟨a.1,h.has a.2.1,by have:=(h.seg _ a.2.1.2.2).2.2.2;have:=a.2.2;omega⟩
structure fO (m m':Mem):Prop where
 limit:m'.limit=m.limit
 seg: ∀k,(m.seg k).taken≠0->(m'.seg k).gen=(m.seg k).gen/\(m'.seg k).kind=(m.seg k).kind/\(m'.seg k).taken=(m.seg k).taken/\(m.seg k).n<=(m'.seg k).n
 cards: ∀k,(m.seg k).taken≠0-> ∀c,(m'.seg k).cards c<=(m.seg k).cards c
theorem eK.l{m a:Mem}(h:eK m a):fO m a:=⟨h.limit,h.seg,λk hk c=>by rw[h.cards k hk];exact Int.le_refl _⟩
theorem fO.refl(m:Mem):fO m m:=(eK.refl m).l
theorem fO.trans{a b c:Mem}(h:fO a b)(k:fO b c):fO a c:=⟨k.limit.trans h.limit,λi d=>by
 obtain⟨f,j,e,l⟩:=h.seg i d
 obtain⟨m,n,o,p⟩:=k.seg i (by rw[e];exact d)
 exact⟨m.trans f,n.trans j,o.trans e,Int.le_trans l p⟩,λi d c=>Int.le_trans (k.cards i (by rw[(h.seg i d).2.2.1];exact d) c) (h.cards i d c)⟩
theorem fO.has(h:fO d i){k:Int}(hk:d.has k):i.has k:=⟨hk.1,by rw[h.limit];exact hk.2.1,by rw[(h.seg _ hk.2.2).2.2.1];exact hk.2.2⟩
theorem fO.used{m b:Mem}(h:fO m b){x:Int}(a:m.used x):b.used x:=⟨a.1,h.has a.2.1,by have:=(h.seg _ a.2.1.2.2).2.2.2;have:=a.2.2;omega⟩
theorem fO.kAt(h:fO d i){x:Int}(a:d.used x):i.kAt x=d.kAt x/\i.gAt x=d.gAt x:=⟨(h.seg _ a.2.1.2.2).2.1,(h.seg _ a.2.1.2.2).1⟩
theorem nt(b:fO d i){v:Int}(h:isTag v->d.used (v / 8)):i.genOf v=d.genOf v:=by
 unfold Mem.genOf
 by_cases q:fC v/\v % 8≠6
 ·have a:=(h (by have:=q.1.1;have:=q.2;unfold isTag;omega)).2.1
  rw[if_pos q,if_pos q,if_pos a,if_pos (b.has a),zX a,zX (b.has a),(b.seg _ a.2.2).1]
 ·rw[if_neg q,if_neg q]
theorem Sp.alloc_curS{s:Sp}(p:SpOK s){T k n:Int}(h:(s.alloc T k n).2.2=0)(j:Nat)(c:(s.alloc T k n).1.cur T.toNat j≠0):(s.alloc T k n).1.cur T.toNat j=s.cur T.toNat j\/((s.mem.seg ((s.alloc T k n).1.cur T.toNat j-1).toNat).taken=0/\((s.alloc T k n).1.cur T.toNat j-1).toNat<s.mem.limit):=by
 unfold Sp.alloc at*
 by_cases hm:may T k n
 case neg=>rw[if_pos hm]at h;exact absurd h (by show ¬((1:Int)=0);decide)
 rw[if_neg (λi=>i hm)]at h c⊢
 by_cases m:s.cur T.toNat k.toNat≠0/\(s.mem.bump (s.cur T.toNat k.toNat-1) n).2.2=0
 ·rw[if_pos m];exact .inl rfl
 rw[if_neg m]at h c⊢
 by_cases a:(s.mem.take T k).2.2=0
 case neg=>rw[if_neg a]at h;exact absurd h a
 rw[if_pos a]at c⊢
 have b:(s.mem.take T k).2.1=(s.mem.first:Int)/\s.mem.free≠0:=by
  unfold Mem.take at a⊢
  by_cases l:T<0\/4<T\/k<0\/3<k
  ·rw[if_pos l]at a;exact absurd a (by show ¬((1:Int)=0);decide)
  rw[if_neg l]at a⊢
  by_cases d:s.mem.free=0
  ·rw[if_pos d]at a;exact absurd a (by show ¬((2:Int)=0);decide)
  ·rw[if_neg d];exact⟨rfl,d⟩
 obtain⟨f,e⟩:=Mem.first_spec p.mem b.2
 show(if T.toNat=T.toNat/\j=k.toNat then(s.mem.take T k).2.1+1 else s.cur T.toNat j)=_\/((s.mem.seg ((if T.toNat=T.toNat/\j=k.toNat then(s.mem.take T k).2.1+1 else s.cur T.toNat j)-1).toNat).taken=0/\((if T.toNat=T.toNat/\j=k.toNat then(s.mem.take T k).2.1+1 else s.cur T.toNat j)-1).toNat<s.mem.limit)
 by_cases o:j=k.toNat
 ·right
  rw[if_pos ⟨rfl,o⟩,b.1,show((s.mem.first:Int)+1-1).toNat=s.mem.first by omega]
  exact⟨e,f⟩
 ·left;rw[if_neg (λi=>o i.2)]
theorem Sp.alloc_addr{s:Sp}(f:SpOK s){T k n:Int}(h:(s.alloc T k n).2.2=0):((s.alloc T k n).2.1 / 64).toNat=((s.alloc T k n).1.cur T.toNat k.toNat-1).toNat/\(s.alloc T k n).1.cur T.toNat k.toNat≠0:=by
 unfold Sp.alloc at*
 by_cases hm:may T k n
 case neg=>rw[if_pos hm]at h;exact absurd h (by show ¬((1:Int)=0);decide)
 rw[if_neg (λl=>l hm)]at h⊢
 have hn:1<=n/\n<=63:=by have:=hm.2;omega
 by_cases c:s.cur T.toNat k.toNat≠0/\(s.mem.bump (s.cur T.toNat k.toNat-1) n).2.2=0
 ·rw[if_pos c]
  obtain⟨a,i,j,d⟩:=Mem.bump_ok f.mem c.2
  refine⟨?_,c.1⟩
  show((s.mem.bump _ _).2.1 / 64).toNat=(s.cur T.toNat k.toNat-1).toNat
  rw[d]
  have:=(f.mem.seg (s.cur T.toNat k.toNat-1).toNat).n
  show(((s.cur T.toNat k.toNat-1)*64+_) / 64).toNat=_
  omega
 rw[if_neg c]at h⊢
 by_cases e:(s.mem.take T k).2.2=0
 case neg=>rw[if_neg e]at h;exact absurd h e
 rw[if_pos e]at h⊢
 have b:=f.mem.take T k
 simp only at h
 obtain⟨a,i,j,d⟩:=Mem.bump_ok b h
 have m:=(b.seg (s.mem.take T k).2.1.toNat).n
 have o:=a.1
 show(((s.mem.take T k).1.bump _ _).2.1 / 64).toNat=((if T.toNat=T.toNat/\k.toNat=k.toNat then(s.mem.take T k).2.1+1 else _)-1).toNat/\(if T.toNat=T.toNat/\k.toNat=k.toNat then(s.mem.take T k).2.1+1 else _)≠0
 rw[if_pos ⟨rfl,rfl⟩,d]
 show(((s.mem.take T k).2.1*64+_) / 64).toNat=_/\_
 exact⟨by omega,by omega⟩
structure aW (Z:TZ) (g F0:Int):Prop where
 ok:aX Z.m
 even:Z.m.Even
 sound:gG Z.m Z.sz
 old: ∀k:Nat,k<1024->(Z.O k=true ↔ Z.m.has k/\(Z.m.seg k).gen<=g)
 rng:0<=g/\g<4/\g<=Z.T/\Z.T<=g+1
 room:2*((Z.yk 0:Int)+Z.yk 1+Z.yk 2+Z.yk 3)+8+((Z.P.length / 32:Nat):Int)<=F0
 V: ∀v,Z.V v->aC v/\Good Z.m Z.sz v
def Was0(Z:TZ)(fw:Int->Option Int)(x v:Int):Prop:=(Z.m.used x/\Z.O (x / 64).toNat=false/\v=Z.m.get x)\/ ∃(a b:Int) (i:Nat),fw a=some b/\i<Z.sz a/\x=b+i/\v=Z.m.get (a+i)
def Was(Z:TZ)(fw:Int->Option Int)(x v:Int):Prop:=Z.q x=some v\/(Z.q x=none/\Was0 Z fw x v)
structure Img (Z:TZ) (s:Sp) (a b:Int):Prop where
 fit:b % 64+Z.sz a<=64/\0<=b
 here: ∀i:Nat,i<Z.sz a->s.mem.used (b+i)
 new: ∀i:Nat,i<Z.sz a-> ¬Z.m.used (b+i)
 gen:s.mem.gAt b=Z.T
 kind:s.mem.kAt b=Z.m.kAt a
 out:Z.O (b / 64).toNat=false
 even:Z.m.kAt a<=1->b % 2=0
structure NewP (Z:TZ) (s:Sp) (sz:Int->Nat) (p:Int):Prop where
 used:s.mem.used p/\s.mem.used (p+1)
 new: ¬Z.m.used p/\ ¬Z.m.used (p+1)
 gen:s.mem.gAt p=Z.T
 kind:s.mem.kAt p=0
 out:Z.O (p / 64).toNat=false
 even:p % 2=0
 sz:sz p=2
 q:Z.q p≠none/\Z.q (p+1)≠none
structure Wrt (Z:TZ) (s:Sp) (sz:Int->Nat) (x w:Int):Prop where
 used:s.mem.used x
 out:Z.O (x / 64).toNat=false
 strong:s.mem.strong x
 word:aC w
 young: ¬aG Z.O w
 good:Good s.mem sz w
 head:sz x≠0->s.mem.kAt x<=1
 mark:(s.mem.genOf w).2=true->(s.mem.genOf w).1<s.mem.gAt x->(s.mem.seg (x / 64).toNat).cards (x % 64 / 16).toNat<=(s.mem.genOf w).1
 tagged:isTag w\/w=20
theorem NewP.keep{Z:TZ}{s s':Sp}{sz a:Int->Nat}{p:Int}(h:NewP Z s sz p)(b:fO s.mem s'.mem)(c: ∀y,s.mem.used y->a y=sz y):NewP Z s' a p:=
 ⟨⟨b.used h.used.1,b.used h.used.2⟩,h.new,(b.kAt h.used.1).2.trans h.gen,(b.kAt h.used.1).1.trans h.kind,h.out,h.even,(c _ h.used.1).trans h.sz,h.q⟩
theorem Wrt.keep{Z:TZ}{s s':Sp}{sz b:Int->Nat}{x w:Int}(h:Wrt Z s sz x w)(a:fO s.mem s'.mem)(m: ∀y,sz y≠0->s.mem.used y)(e: ∀y,s.mem.used y->b y=sz y):Wrt Z s' b x w:=by
 obtain⟨f,n⟩:=a.kAt h.used
 have c:isTag w->s.mem.used (w / 8):=λq=>m _ (h.good.2 q).1
 have l:=nt a c
 refine⟨a.used h.used,h.out,?_,h.word,h.young,⟨h.good.1,λq=>?_⟩,λq=>?_,λi d=>?_,h.tagged⟩
 ·have:=h.strong;unfold Mem.strong at*;rw[f];exact this
 ·obtain⟨j,k⟩:=h.good.2 q
  rw[e _ (c q),(a.kAt (c q)).1];exact⟨j,k⟩
 ·rw[e _ h.used]at q;rw[f];exact h.head q
 ·rw[l]at i d⊢
  rw[n]at d
  exact Int.le_trans (a.cards _ h.used.2.1.2.2 _) (h.mark i d)
structure Tri (Z:TZ) (F0:Int) (fw:Int->Option Int) (al:List Int) (s:Sp) (sz:Int->Nat):Prop where
 ok:SpOK s
 even:s.mem.Even
 heads:fO Z.m s.mem
 oldN: ∀k,k<1024->Z.O k=true->(s.mem.seg k).n=(Z.m.seg k).n
 curO: ∀k,k<4->s.cur Z.T.toNat k≠0->Z.O (s.cur Z.T.toNat k-1).toNat=false
 cap: ∃c,Cap Z F0 al s c
 olds:Olds Z al
 al: ∀a,a∈al ↔ ∃b,fw a=some b
 img: ∀a b,fw a=some b->sz b=Z.sz a/\Img Z s a b
 inj: ∀a a' b,fw a=some b->fw a'=some b->a=a'
 apart: ∀a b,sz a≠0->sz b≠0->a<b->a+sz a<=b
 sz0: ∀a,Z.m.used a->sz a=Z.sz a
 szn: ∀b,sz b≠0->Z.m.used b\/(∃a,fw a=some b)\/b∈Z.P
 word: ∀a b,fw a=some b->s.mem.get a=b*8+6
 keep: ∀x,Z.m.used x->Z.O (x / 64).toNat=true->fw x=none->s.mem.get x=Z.m.get x
 cover: ∀x,s.mem.used x->Z.m.used x\/(∃(a b:Int) (i:Nat),fw a=some b/\i<Z.sz a/\x=b+i)\/ ∃p∈Z.P,x=p\/x=p+1
 val: ∀x v,Was Z fw x v->s.mem.get x=v\/(s.mem.strong x/\Dn Z.O fw v/\s.mem.get x=Fw Z.O fw v)
 reach: ∀a b,fw a=some b->Reach Z a
 pair: ∀p∈Z.P,NewP Z s sz p
 pnd:Z.P.Nodup
 qok: ∀x w,Z.q x=some w->Wrt Z s sz x w
 qwas: ∀x v,Z.q x≠none->Was0 Z fw x v->Dn Z.O fw v
 pim: ∀a b,fw a=some b->b ∉ Z.P
section
variable {Z:TZ} {g F0:Int} {fw:Int->Option Int} {al:List Int} {s:Sp} {sz:Int->Nat}
theorem Tri.kAt(t:Tri Z F0 fw al s sz){x:Int}(h:Z.m.used x):s.mem.kAt x=Z.m.kAt x/\s.mem.gAt x=Z.m.gAt x:=⟨(t.heads.seg _ h.2.1.2.2).2.1,(t.heads.seg _ h.2.1.2.2).1⟩
theorem aW.lt(S:aW Z g F0){x:Int}(h:Z.m.used x):(x / 64).toNat<1024/\0<=x/\x<65536:=by
 have a:=h.2.1.2.1
 have b:=S.ok.lim
 exact⟨by omega,h.1,by have:=h.1;omega⟩
theorem aW.oldWord(S:aW Z g F0){w:Int}(c:Good Z.m Z.sz w)(a:aG Z.O w):Z.sz (w / 8)≠0/\Z.O (w / 8 / 64).toNat=true/\isTag w/\w % 8=tagK (Z.m.kAt (w / 8)):=by
 have b:isTag w:=by have:=a.1.1;have:=a.2.1;unfold isTag;omega
 exact⟨(c.2 b).1,a.2.2,b,(c.2 b).2⟩
theorem Tri.same_size(S:aW Z g F0)(t:Tri Z F0 fw al s sz){w:Int}(n:aC w)(k:Good Z.m Z.sz w)(l:aG Z.O w)(hn:fw (w / 8)=none):s.mem.sizeOf w=Z.sz (w / 8)/\s.mem.fwd w=none/\s.mem.kindOf w=Z.m.kAt (w / 8):=by
 obtain⟨c,e,h,i⟩:=S.oldWord k l
 obtain⟨d,u⟩:=S.sound.used _ c
 have b:=S.lt d
 have hk:=t.kAt d
 have a:=t.keep _ d e hn
 have j:=t.oldN _ b.1 e
 refine⟨lK n h (by rw[hk.1];exact i) b.2.2 (t.heads.used d) (t.ok.mem.seg _).kind (by rw[hk.1];exact S.sound.two _ c) (λf=>?_),?_,hk.1⟩
 ·rw[hk.1]at f⊢
  obtain⟨o,p,r⟩:=S.sound.obj _ c f
  rw[a]
  exact⟨o,p,r,by rw[j];exact u⟩
 ·unfold Mem.fwd
  rw[if_neg]
  rintro⟨_,_,q⟩
  rw[a]at q
  exact S.sound.noFwd c q
theorem aW.size63(S:aW Z g F0){a:Int}(h:Z.sz a≠0):(Z.m.kAt a<=1/\Z.sz a=2\/2<=Z.m.kAt a/\1<=Z.sz a/\Z.sz a<=63)/\0<=Z.m.kAt a/\Z.m.kAt a<=3:=by
 have hk:=(S.ok.seg (a / 64).toNat).kind
 refine⟨?_,hk⟩
 by_cases b:Z.m.kAt a<=1
 ·exact .inl ⟨b,(S.sound.two a h b).1⟩
 ·obtain⟨c,e,d⟩:=S.sound.obj a h (by omega)
  have:=c.2
  unfold hn at d
  exact .inr ⟨by omega,by omega,by omega⟩
structure mH (Z:TZ) (F0:Int) (fw:Int->Option Int) (s:Sp) (w:Int) (s':Sp) (v:Int) (fw':Int->Option Int) (al':List Int) (sz':Int->Nat):Prop where
 tri:Tri Z F0 fw' al' s' sz'
 le:Le fw fw'
 dn:Dn Z.O fw' w
 val:v=Fw Z.O fw' w
 rest: ∀x,s.mem.used x->Z.O (x / 64).toNat=false->s'.mem.get x=s.mem.get x
 heads:eK s.mem s'.mem
theorem Tri.copy(S:aW Z g F0)(t:Tri Z F0 fw al s sz){a:Int}(W:Z.sz a≠0)(hO:Z.O (a / 64).toNat=true)(hn:fw a=none)(hr:Reach Z a){b:Int}
  (ha:(s.alloc Z.T (Z.m.kAt a) (Z.sz a)).2.2=0) (hb:(s.alloc Z.T (Z.m.kAt a) (Z.sz a)).2.1=b) (hm:d=((s.alloc Z.T (Z.m.kAt a) (Z.sz a)).1.mem.sets b (s.mem.row a (Z.sz a))).set a (b*8+6)):
  Tri Z F0 (λx=>if x=a then some b else fw x) (a::al) {(s.alloc Z.T (Z.m.kAt a) (Z.sz a)).1 with mem:=d} (λx=>if x=b then Z.sz a else sz x)/\Le fw (λx=>if x=a then some b else fw x)/\
   (∀x,s.mem.used x->x≠a->d.get x=s.mem.get x)/\eK s.mem d:=by
 obtain⟨b8,K⟩:=Sp.alloc_ok t.ok ha
 obtain⟨X,hK⟩:=S.size63 W
 obtain⟨u1,u2⟩:=S.sound.used a W
 have bn:=S.lt u1
 have bq:=t.heads.used u1
 rw[hb]at K
 obtain⟨c,ak⟩:=t.cap
 have sm:aY (s.alloc Z.T (Z.m.kAt a) (Z.sz a)).1.mem d:=by rw[hm];exact(aY.sets _ _ _).trans (aY.set _ _ _)
 obtain⟨c',ab⟩:=ak.step t.ok hK ha sm
 have b2:=Sp.alloc_curS t.ok ha
 have aa:=Sp.alloc_addr t.ok ha
 rw[hb]at aa
 have b1:(Z.m.kAt a).toNat<4:=by omega
 have bm:0<=Z.T:=by have:=S.rng;omega
 generalize bp:(s.alloc Z.T (Z.m.kAt a) (Z.sz a)).1=s' at*
 have bd:=t.ok.mem.lim
 obtain⟨a0,a1,a2⟩:=K.addr
 have m:eK s.mem d:=(K.heads (by omega)).trans sm.heads
 have a9: ∀k:Nat,k<1024->(s.mem.seg k).taken=0->Z.O k=false:=λk hk h0=>by
  by_cases ho:Z.O k=true
  ·have:=((S.old k hk).1 ho).1.2.2
   rw[show((k:Nat):Int).toNat=k by omega]at this
   have u:=(t.heads.seg k this).2.2.1
   rw[h0]at u;exact absurd u.symm this
  ·simpa using ho
 have R: ∀k,k<4->s'.cur Z.T.toNat k≠0->Z.O (s'.cur Z.T.toNat k-1).toNat=false:=λk hk h0=>by
  rcases b2 k h0 with e | ⟨e1,e2⟩
  ·rw[e]at h0⊢;exact t.curO k hk h0
  ·exact a9 _ (by omega) e1
 have a7:Z.O (b / 64).toNat=false:=by
  rw[aa.1];exact R _ b1 aa.2
 have b4: ∀i:Nat,i<Z.sz a->s'.mem.used (b+i):=λi Q=>(K.usedIff (by omega)).2 (.inr (by omega))
 have ac:(s.mem.row a (Z.sz a)).length=Z.sz a:=Mem.row_len _ _ _
 have U: ∀x,0<=x->d.get x=if x=a then b*8+6 else if b<=x/\x<b+Z.sz a then s.mem.get (a+(x-b))else s'.mem.get x:=λx j=>by
  rw[hm,Mem.set_get x j u1.1]
  refine ite_congr rfl (λ_=>rfl) (λ_=>?_)
  rw[Mem.sets_get _ x j a0 (by rw[ac];exact b4),ac]
  refine ite_congr rfl (λh=>?_) (λ_=>rfl)
  have Q:(x-b).toNat<Z.sz a:=by omega
  rw[List.getD_eq_getElem?_getD,List.getElem?_eq_getElem (by rw[ac];exact Q),Option.getD_some,Mem.row_get _ _ Q]
  congr 2;omega
 have G: ∀x,s.mem.used x->x≠a->d.get x=s.mem.get x:=λx j f=>by
  rw[U x j.1,if_neg f,if_neg (K.not_in j),K.get j]
 have F: ∀x,d.used x ↔ s.mem.used x\/(b<=x/\x<b+Z.sz a):=λx=>(sm.used).trans (K.usedIff (by omega))
 have P: ∀i:Nat,i<Z.sz a-> ¬Z.m.used (b+i):=λi Q h=>K.not_in (t.heads.used h) (by omega)
 have E: ∀i:Nat,i<Z.sz a-> ¬s.mem.used (b+i):=λi Q h=>K.not_in h (by omega)
 have C:0<Z.sz a:=by omega
 have M:Le fw (λx=>if x=a then some b else fw x):=λx y h=>by
  by_cases j:x=a
  ·rw[j,hn]at h;cases h
  ·show(if x=a then some b else fw x)=some y
   rw[if_neg j];exact h
 have V: ∀x,s.mem.used x->d.kAt x=s.mem.kAt x/\d.gAt x=s.mem.gAt x:=λx j=>⟨(m.seg _ j.2.1.2.2).2.1,(m.seg _ j.2.1.2.2).1⟩
 have an:d.kAt b=Z.m.kAt a/\d.gAt b=Z.T:=⟨((sm.seg _).2.1).trans K.new.2.2.1,((sm.seg _).1).trans K.new.2.1⟩
 have ay: ∀x,s.mem.used x->s.mem.strong x->d.strong x:=λx j h=>by
  have:=(V x j).1
  unfold Mem.strong at*;rw[this];exact h
 have bb:sz b=0:=by
  by_cases h:sz b=0
  ·exact h
  ·rcases t.szn b h with q | ⟨o,q⟩ | q
   ·exact absurd (t.heads.used q) (by simpa using E 0 C)
   ·have Q:=(t.img o b q).2
    have u:=(t.img o b q).1
    exact absurd (by simpa using Q.here 0 (by omega)) (by simpa using E 0 C)
   ·exact absurd (t.pair b q).used.1 (by simpa using E 0 C)
 have A: ∀x,sz x≠0-> ∀i:Nat,i<sz x->s.mem.used (x+i):=λx j i Q=>by
  rcases t.szn x j with q | ⟨o,q⟩ | q
  ·have e:=t.sz0 x q
   rw[e]at j Q
   exact t.heads.used (S.sound.usedAt j Q (λk=>(S.ok.seg k).n.2)).1
  ·obtain⟨u,b3⟩:=t.img o x q
   exact b3.here i (by omega)
  ·have N:=t.pair x q
   rw[N.sz]at Q
   rcases(show i=0\/i=1 by omega)with rfl | rfl
   ·simpa using N.used.1
   ·exact N.used.2
 have a8: ∀y,s.mem.used y->(λx=>if x=b then Z.sz a else sz x) y=sz y:=λy I=>by
  have:y≠b:=λe=>absurd I (by rw[e];simpa using E 0 C)
  exact if_neg this
 have a4: ∀y,sz y≠0->s.mem.used y:=λy I=>by simpa using A y I 0 (by omega)
 have Y: ∀o D,fw o=some D->Img Z {s' with mem:=d} o D:=λo D h=>by
  obtain⟨h1,u⟩:=t.img o D h
  have ax:=(t.olds.mem o ((t.al o).2 ⟨D,h⟩)).1
  have az:s.mem.used D:=by simpa using u.here 0 (by omega)
  exact⟨u.fit,λi Q=>(F _).2 (.inl (u.here i Q)),u.new,(V D az).2.trans u.gen,(V D az).1.trans u.kind,u.out,u.even⟩
 refine⟨⟨?_,?_,t.heads.trans m.l,λk hk ho=>?_,R,⟨c',ab⟩,⟨?_,?_⟩,λx=>?_,λx y h=>?_,λx x' y h h'=>?_,λx y j I b7=>?_,λx j=>?_,λy I=>?_,λx y h=>?_,λx j ho h=>?_,λx j=>?_,λx v h=>?_,λx y h=>?_,λp hp=>(t.pair p hp).keep m.l a8,t.pnd,λx w h=>(t.qok x w h).keep m.l a4 a8,λx v hq h=>?_,λx y h hp=>by
   have h:(if x=a then some b else fw x)=some y:=h
   by_cases e:x=a
   ·rw[if_pos e]at h
    have I:b=y:=Option.some.inj h
    rw[<-I]at hp
    have:=(t.pair b hp).used.1
    exact E 0 (by omega) (by simpa using this)
   ·rw[if_neg e]at h;exact t.pim x y h hp⟩,M,G,m⟩
 ·have b5: ∀v∈s.mem.row a (Z.sz a),aC v:=λv hv=>by
   unfold Mem.row at hv
   obtain⟨i,_,rfl⟩:=List.mem_map.1 hv
   exact(t.ok.mem.seg _).words _
  have aL:=b8.sets b b5
  have:=aL.withMem (aL.mem.set a (w:=b*8+6) ⟨by omega,by omega⟩) (λk h=>Mem.set_has.2 h) (λk=>⟨((aY.set _ _ _).seg k).1,((aY.set _ _ _).seg k).2.1⟩)
  rw[hm];exact this
 ·exact sm.even (K.even t.even (λhk=>by rcases X with q | q<;>omega)).1
 ·show(d.seg k).n=_
  rw[(sm.seg k).2.2.1]
  have ao:k≠(b / 64).toNat:=λe=>by rw[e]at ho;rw[a7]at ho;cases ho
  rw[K.others k ao];exact t.oldN k hk ho
 ·rw[List.nodup_cons];exact⟨(λh=>by obtain⟨D,aj⟩:=(t.al a).1 h;rw[hn]at aj;cases aj),t.olds.nodup⟩
 ·intro x j
  rcases List.mem_cons.1 j with rfl | j
  ·exact⟨W,hO⟩
  ·exact t.olds.mem x j
 ·rw[List.mem_cons]
  show x=a\/x∈al ↔ ∃y,(if x=a then some b else fw x)=some y
  by_cases f:x=a
  ·rw[if_pos f];exact⟨λ_=>⟨b,rfl⟩,λ_=> .inl f⟩
  ·rw[if_neg f,<-t.al x];exact⟨λh=>h.resolve_left f,.inr⟩
 ·have h:(if x=a then some b else fw x)=some y:=h
  show(if y=b then Z.sz a else sz y)=_/\_
  by_cases f:x=a
  ·rw[if_pos f]at h;cases h;subst f
   refine⟨if_pos rfl,⟨by omega,a0⟩,λi Q=>(F _).2 (.inr (by omega)),P,an.2,an.1,a7,λhk=>(K.even t.even (λhk=>by rcases X with q | q<;>omega)).2 hk⟩
  ·rw[if_neg f]at h
   have a5:y≠b:=λe=>by
    have u:=(t.img x y h).2
    have ax:=(t.olds.mem x ((t.al x).2 ⟨y,h⟩)).1
    rw[e]at u
    exact absurd (by simpa using u.here 0 (by omega)) (by simpa using E 0 C)
   rw[if_neg a5]
   exact⟨(t.img x y h).1,Y x y h⟩
 ·have h:(if x=a then some b else fw x)=some y:=h
  have h':(if x'=a then some b else fw x')=some y:=h'
  have ap: ∀z,fw z=some b->False:=λz hz=>by
   have u:=(t.img z b hz).2
   have ax:=(t.olds.mem z ((t.al z).2 ⟨b,hz⟩)).1
   exact absurd (by simpa using u.here 0 (by omega)) (by simpa using E 0 C)
  by_cases h1:x=a
  ·by_cases u:x'=a
   ·rw[h1,u]
   ·rw[if_pos h1]at h;rw[if_neg u]at h';cases h;exact(ap _ h').elim
  ·by_cases u:x'=a
   ·rw[if_neg h1]at h;rw[if_pos u]at h';cases h';exact(ap _ h).elim
   ·rw[if_neg h1]at h;rw[if_neg u]at h';exact t.inj x x' y h h'
 ·have j:(if x=b then Z.sz a else sz x)≠0:=j
  have I:(if y=b then Z.sz a else sz y)≠0:=I
  show x+((if x=b then Z.sz a else sz x:Nat):Int)<=y
  by_cases h1:x=b
  ·have u:y≠b:=by omega
   rw[if_neg u]at I
   rw[if_pos h1]
   have:=A y I 0 (by omega)
   have:=K.not_in (x:=y) (by simpa using this)
   omega
  ·rw[if_neg h1]at j⊢
   by_cases u:y=b
   ·rcases Int.lt_or_le b (x+sz x)with be | bc
    ·have:=A x j (b-x).toNat (by omega)
     rw[show x+((b-x).toNat:Int)=b by omega]at this
     exact absurd this (by simpa using E 0 C)
    ·omega
   ·rw[if_neg u]at I
    exact t.apart x y j I b7
 ·show(if x=b then Z.sz a else sz x)=_
  have:x≠b:=λe=>absurd j (by rw[e];simpa using P 0 C)
  rw[if_neg this];exact t.sz0 x j
 ·have I:(if y=b then Z.sz a else sz y)≠0:=I
  by_cases a5:y=b
  ·right;left;refine⟨a,?_⟩;show(if a=a then some b else _)=_;rw[if_pos rfl,a5]
  ·rw[if_neg a5]at I
   rcases t.szn y I with q | ⟨o,q⟩ | q
   ·exact .inl q
   ·exact .inr (.inl ⟨o,M _ _ q⟩)
   ·exact .inr (.inr q)
 ·have h:(if x=a then some b else fw x)=some y:=h
  show d.get x=_
  by_cases f:x=a
  ·rw[if_pos f]at h;cases h
   rw[f,U a u1.1,if_pos rfl]
  ·rw[if_neg f]at h
   have b6:=(t.olds.mem x ((t.al x).2 ⟨y,h⟩)).1
   rw[G x (t.heads.used (S.sound.used x b6).1) f];exact t.word x y h
 ·have h:(if x=a then some b else fw x)=none:=h
  show d.get x=_
  by_cases f:x=a
  ·rw[if_pos f]at h;cases h
  ·rw[if_neg f]at h
   rw[G x (t.heads.used j) f];exact t.keep x j ho h
 ·rcases(F x).1 j with q | q
  ·rcases t.cover x q with r | ⟨o,D,i,r1,r2,r3⟩ | r
   ·exact .inl r
   ·exact .inr (.inl ⟨o,D,i,M _ _ r1,r2,r3⟩)
   ·exact .inr (.inr r)
  ·exact .inr (.inl ⟨a,b,(x-b).toNat,if_pos rfl,by omega,by omega⟩)
 ·have B:Was Z fw x v->d.get x=v\/d.strong x/\Dn Z.O (λx=>if x=a then some b else fw x) v/\d.get x=Fw Z.O (λx=>if x=a then some b else fw x) v:=λhw=>by
   have ae:s.mem.used x/\x≠a:=by
    rcases hw with q | ⟨_,⟨H,J,_⟩ | ⟨o,D,i,H,J,q3,_⟩⟩
    ·have hq:=t.qok x v q
     exact⟨hq.used,λe=>by have:=hq.out;rw[e,hO]at this;cases this⟩
    ·exact⟨t.heads.used H,λe=>by rw[e,hO]at J;cases J⟩
    ·have u:=(t.img o D H).2
     refine⟨by rw[q3];exact u.here i J,λe=>?_⟩
     have:=u.new i J
     rw[<-q3,e]at this;exact this u1
   rw[G x ae.1 ae.2]
   rcases t.val x v hw with q | ⟨H,J,q3⟩
   ·exact .inl q
   ·exact .inr ⟨ay x ae.1 H,J.mono M,by rw[fZ J M];exact q3⟩
  show d.get x=v\/_
  rcases h with h | ⟨aw,h | ⟨o,D,i,H,J,q3,q4⟩⟩
  ·exact B (.inl h)
  ·exact B (.inr ⟨aw,.inl h⟩)
  ·have H:(if o=a then some b else fw o)=some D:=H
   by_cases L:o=a
   ·rw[if_pos L]at H;cases H
    subst L
    left
    have f:x≠o:=λe=>by
     have:=P i J
     rw[<-q3,e]at this;exact this u1
    rw[U x (by omega),if_neg f,if_pos (by omega),q4]
    have ai:=S.sound.usedAt W J (λk=>(S.ok.seg k).n.2)
    rw[show o+(x-b)=o+i by omega]
    refine t.keep _ ai.1 (by rw[ai.2.1];exact hO) ?_
    cases hf:fw (o+i)with
    | none=>rfl
    | some y=>
     have h1:=(t.olds.mem _ ((t.al _).2 ⟨y,hf⟩)).1
     rcases Nat.eq_zero_or_pos i with h0 | h0
     ·rw[h0]at hf;simp at hf;rw[hn]at hf;cases hf
     ·exact absurd (S.sound.within W h0 J) h1
   ·rw[if_neg L]at H
    exact B (.inr ⟨aw,.inr ⟨o,D,i,H,J,q3,q4⟩⟩)
 ·have h:(if x=a then some b else fw x)=some y:=h
  by_cases f:x=a
  ·rw[f];exact hr
  ·rw[if_neg f]at h;exact t.reach x y h
 ·cases av:Z.q x with
  | none=>exact absurd av hq
  | some w=>
   have hu:=(t.qok x w av).used
   rcases h with h | ⟨o,D,i,H,J,q3,q4⟩
   ·exact(t.qwas x v hq (.inl h)).mono M
   ·have H:(if o=a then some b else fw o)=some D:=H
    by_cases L:o=a
    ·rw[if_pos L]at H;cases H
     rw[L]at J
     rw[q3]at hu
     exact absurd hu (E i J)
    ·rw[if_neg L]at H
     exact(t.qwas x v hq (.inr ⟨o,D,i,H,J,q3,q4⟩)).mono M
theorem Tri.visit(S:aW Z g F0)(t:Tri Z F0 fw al s sz){w:Int}(U:aC w)(C:Good Z.m Z.sz w)(Q:aG Z.O w->Reach Z (w / 8)):
  ∃v u A,mH Z F0 fw s w (s.visit Z.O Z.T w).1 (s.visit Z.O Z.T w).2 v u A:=by
 by_cases a:aG Z.O w
 case neg=>
  rw[Sp.visit_no a]
  exact⟨fw,al,sz,t,Le.refl _,λh=>absurd h a,(ft a).symm,λ_ _ _=>rfl,eK.refl _⟩
 obtain⟨y,B,Y,h4⟩:=S.oldWord C a
 obtain⟨G,u2⟩:=S.sound.used _ y
 have P:=S.lt G
 cases i:fw (w / 8)with
 | some b=>
  obtain⟨_,W⟩:=t.img _ _ i
  have k:s.mem.used b:=by simpa using W.here 0 (by omega)
  have D:=t.ok.mem.lim
  have M:=k.2.1.2.1
  have N:=k.1
  have R:s.mem.fwd w=some (b*8+w % 8):=by
   unfold Mem.fwd
   rw[t.word _ _ i,if_pos ⟨t.heads.used G,⟨by omega,by omega⟩,by omega⟩]
   congr 2;omega
  rw[Sp.visit_fwd a R]
  exact⟨fw,al,sz,t,Le.refl _,λ_=>⟨b,i⟩,(fy a i).symm,λ_ _ _=>rfl,eK.refl _⟩
 | none=>
  obtain⟨r,X,F⟩:=t.same_size S U C a i
  obtain⟨f,hK⟩:=S.size63 y
  obtain⟨c,l⟩:=t.cap
  have d:=l.room t.ok S.sound S.ok t.olds S.room
  have E:=S.rng
  have o:may Z.T (Z.m.kAt (w / 8)) (Z.sz (w / 8)):=⟨by omega,by rcases f with q | q<;>omega⟩
  have j:=Sp.alloc_can t.ok o d
  have L:s.mem.sizeOf w≠0:=by rw[r];omega
  have n:=Sp.visit_go a X L (T:=Z.T) (by rw[r,F];exact j)
  rw[r,F]at n
  rw[n]
  have z:(Sp.moved s.mem w (s.alloc Z.T (Z.m.kAt (w / 8)) (Z.sz (w / 8)))).mem=((s.alloc Z.T (Z.m.kAt (w / 8)) (Z.sz (w / 8))).1.mem.sets (s.alloc Z.T (Z.m.kAt (w / 8)) (Z.sz (w / 8))).2.1 (s.mem.row (w / 8) (Z.sz (w / 8)))).set (w / 8) ((s.alloc Z.T (Z.m.kAt (w / 8)) (Z.sz (w / 8))).2.1*8+6):=by
   unfold Sp.moved
   rw[r,show((Z.sz (w / 8):Int)).toNat=Z.sz (w / 8)by omega]
  obtain⟨H,I,J,K⟩:=t.copy S y B i (Q a) j rfl z
  refine⟨_,_,_,H,I,λ_=>⟨_,if_pos rfl⟩,(fy a (if_pos rfl)).symm,λx V p=>J x V (λe=>?_),K⟩
  rw[e,B]at p;cases p
end
def Done(Z:TZ)(fw:Int->Option Int)(s:Sp)(x:Int):Prop:= ∀v,Was Z fw x v->Dn Z.O fw v/\s.mem.get x=Fw Z.O fw v
section
variable {Z:TZ} {g F0:Int} {fw:Int->Option Int} {al:List Int} {s:Sp} {sz:Int->Nat}
theorem Was.mono{c:Int->Option Int}{x v:Int}(h:Was Z fw x v)(l:Le fw c):Was Z c x v:=by
 rcases h with h | ⟨d,h | ⟨a,b,i,e,f⟩⟩
 ·exact .inl h
 ·exact .inr ⟨d,.inl h⟩
 ·exact .inr ⟨d,.inr ⟨a,b,i,l _ _ e,f⟩⟩
theorem Tri.was0_one(t:Tri Z F0 fw al s sz){x v o:Int}(h:Was0 Z fw x v)(p:Was0 Z fw x o):v=o:=by
 rcases h with⟨d,l,j⟩ | ⟨a,b,i,d,l,j,r⟩<;>rcases p with⟨e,n,k⟩ | ⟨f,c,m,e,n,k,z⟩
 ·rw[j,k]
 ·exact absurd (k▸d) ((t.img f c e).2.new m n)
 ·exact absurd (j▸e) ((t.img a b d).2.new i l)
 ·have A:=(t.img a b d).1
  have B:=(t.img f c e).1
  have w:b=c:=by
   rcases Int.lt_trichotomy b c with q | q | q
   ·have:=t.apart b c (by omega) (by omega) q;omega
   ·exact q
   ·have:=t.apart c b (by omega) (by omega) q;omega
  subst w
  have u:=t.inj a f b d e
  subst u
  have y:i=m:=by omega
  subst y
  rw[r,z]
theorem Tri.was_one(t:Tri Z F0 fw al s sz){x v d:Int}(h:Was Z fw x v)(a:Was Z fw x d):v=d:=by
 rcases h with h | ⟨c,h⟩<;>rcases a with a | ⟨b,a⟩
 ·rw[h]at a;exact Option.some.inj a
 ·rw[h]at b;cases b
 ·rw[a]at c;cases c
 ·exact t.was0_one h a
theorem Tri.was(t:Tri Z F0 fw al s sz){x:Int}(k:s.mem.used x)(j:Z.O (x / 64).toNat=false): ∃v,Was Z fw x v:=by
 cases c:Z.q x with
 | some w=>exact⟨w,.inl c⟩
 | none=>
  rcases t.cover x k with h | ⟨a,b,i,d,e,f⟩ | ⟨p,d,e⟩
  ·exact⟨_,.inr ⟨c,.inl ⟨h,j,rfl⟩⟩⟩
  ·exact⟨_,.inr ⟨c,.inr ⟨a,b,i,d,e,f,rfl⟩⟩⟩
  ·have N:=(t.pair p d).q
   rcases e with rfl | rfl
   ·exact absurd c N.1
   ·exact absurd c N.2
theorem Tri.used0(t:Tri Z F0 fw al s sz){x v:Int}(h:Was0 Z fw x v):s.mem.used x/\Z.O (x / 64).toNat=false:=by
 rcases h with⟨c,d,_⟩ | ⟨a,b,i,c,d,f,_⟩
 ·exact⟨t.heads.used c,d⟩
 ·have e:=(t.img a b c).2
  refine⟨f▸e.here i d,?_⟩
  have:=e.fit
  rw[f,show(b+i) / 64=b / 64 by omega];exact e.out
theorem Tri.usedOf(t:Tri Z F0 fw al s sz){x v:Int}(h:Was Z fw x v):s.mem.used x/\Z.O (x / 64).toNat=false:=by
 rcases h with h | ⟨_,h⟩
 ·exact⟨(t.qok x v h).used,(t.qok x v h).out⟩
 ·exact t.used0 h
theorem Tri.was0_good(S:aW Z g F0)(t:Tri Z F0 fw al s sz){x v:Int}(h:Was0 Z fw x v)(w:s.mem.strong x):aC v/\Good Z.m Z.sz v/\(aG Z.O v->Reach Z (v / 8)):=by
 rcases h with⟨c,p,rfl⟩ | ⟨a,b,i,c,p,z,rfl⟩
 ·have hk:=(t.kAt c).1
  have o:Z.m.strong x:=by unfold Mem.strong at*;rw[<-hk];exact w
  exact⟨(S.ok.seg _).words _,S.sound.good x c o.1,λu=> .older c p o u⟩
 ·have y:=(t.img a b c).2
  have l:=(t.olds.mem a ((t.al a).2 ⟨b,c⟩)).1
  have e:=S.sound.usedAt l p (λk=>(S.ok.seg k).n.2)
  have B:=y.fit
  have j:s.mem.kAt x=Z.m.kAt (a+i):=by
   unfold Mem.kAt
   rw[z,show(b+i) / 64=b / 64 by omega,e.2.1];exact y.kind
  have r:Z.m.kAt (a+i)=Z.m.kAt a:=by unfold Mem.kAt;rw[e.2.1]
  have o:Z.m.strong (a+i):=by
   unfold Mem.strong at*
   rw[<-j]
   refine⟨w.1,?_⟩
   by_cases d:s.mem.kAt x=1
   ·right
    have A:=w.2.resolve_left (λq=>q d)
    have f:Z.m.kAt a<=1:=by rw[<-r,<-j,d];decide
    have:=y.even f
    have:=(S.sound.two a l f).2
    omega
   ·exact .inl d
  exact⟨(S.ok.seg _).words _,S.sound.good _ e.1 o.1,λu=> .step (t.reach a b c) p o u⟩
theorem Tri.was_good(S:aW Z g F0)(t:Tri Z F0 fw al s sz){x v:Int}(h:Was Z fw x v)(d:s.mem.strong x):aC v/\(aG Z.O v->Good Z.m Z.sz v/\Reach Z (v / 8)):=by
 rcases h with h | ⟨_,h⟩
 ·have W:=t.qok x v h
  exact⟨W.word,λo=>absurd o W.young⟩
 ·obtain⟨a,b,c⟩:=t.was0_good S h d
  exact⟨a,λo=>⟨b,c o⟩⟩
theorem Tri.sz_used(S:aW Z g F0)(t:Tri Z F0 fw al s sz){y:Int}(h:sz y≠0):s.mem.used y:=by
 rcases t.szn y h with q | ⟨a,q⟩ | q
 ·exact t.heads.used q
 ·obtain⟨c,b⟩:=t.img a y q
  simpa using b.here 0 (by omega)
 ·exact(t.pair y q).used.1
theorem Tri.set(S:aW Z g F0)(t:Tri Z F0 fw al s sz){x v:Int}(h:Was Z fw x v)(T:s.mem.strong x)(L:Dn Z.O fw v)(U:aC (Fw Z.O fw v)):Tri Z F0 fw al {s with mem:=s.mem.set x (Fw Z.O fw v)} sz/\Done Z fw {s with mem:=s.mem.set x (Fw Z.O fw v)} x:=by
 obtain⟨M,Q⟩:=t.usedOf h
 have f:=aY.set s.mem x (Fw Z.O fw v)
 have d: ∀y,0<=y->(s.mem.set x (Fw Z.O fw v)).get y=if y=x then Fw Z.O fw v else s.mem.get y:=λy m=>Mem.set_get y m M.1
 have hk: ∀y,(s.mem.set x (Fw Z.O fw v)).kAt y=s.mem.kAt y/\(s.mem.set x (Fw Z.O fw v)).gAt y=s.mem.gAt y:=λy=>⟨(f.seg _).2.1,(f.seg _).1⟩
 have r: ∀y,(s.mem.set x (Fw Z.O fw v)).strong y ↔ s.mem.strong y:=λy=>by unfold Mem.strong;rw[(hk y).1]
 obtain⟨c,j⟩:=t.cap
 have C: ∀y,Z.O (y / 64).toNat=true->y≠x:=λy m e=>by rw[e,Q]at m;cases m
 refine⟨⟨t.ok.withMem (t.ok.mem.set x U) (λk q=>Mem.set_has.2 q) (λk=>⟨(f.seg k).1,(f.seg k).2.1⟩),f.even t.even,t.heads.trans f.heads.l,λk F G=>?_,t.curO,⟨c,?_⟩,t.olds,t.al,λa b o=>?_,t.inj,t.apart,t.sz0,t.szn,λa b o=>?_,λy m D J=>?_,λy m=>t.cover y (f.used.1 m),λy u A=>?_,t.reach,λp R=>(t.pair p R).keep f.heads.l (λ_ _=>rfl),t.pnd,λy w h=>(t.qok y w h).keep f.heads.l (λy m=>t.sz_used S m) (λ_ _=>rfl),t.qwas,t.pim⟩,λu H=>?_⟩
 ·show((s.mem.set x _).seg k).n=_
  rw[(f.seg k).2.2.1];exact t.oldN k F G
 ·refine⟨?_,j.none,λk E=>?_⟩
  ·show(s.mem.set x _).free+_=_
   rw[f.free];exact j.free
  ·rw[Sp.fill_same f];exact j.le k E
 ·obtain⟨N,z⟩:=t.img a b o
  exact⟨N,z.fit,λi P=>f.used.2 (z.here i P),z.new,(hk b).2.trans z.gen,(hk b).1.trans z.kind,z.out,z.even⟩
 ·have K:=t.olds.mem a ((t.al a).2 ⟨b,o⟩)
  show(s.mem.set x _).get a=_
  rw[d a (S.sound.used a K.1).1.1,if_neg (C a K.2)];exact t.word a b o
 ·show(s.mem.set x _).get y=_
  rw[d y m.1,if_neg (C y D)];exact t.keep y m D J
 ·show(s.mem.set x _).get y=u\/_
  have I:=(t.usedOf A).1.1
  rw[d y I]
  by_cases B:y=x
  ·rw[if_pos B]
   subst B
   have:=t.was_one h A
   subst this
   exact .inr ⟨(r y).2 T,L,rfl⟩
  ·rw[if_neg B]
   rcases t.val y u A with q | ⟨V,W,X⟩
   ·exact .inl q
   ·exact .inr ⟨(r y).2 V,W,X⟩
 ·have:=t.was_one h H
  subst this
  refine⟨L,?_⟩
  show(s.mem.set x _).get x=_
  rw[d x M.1,if_pos rfl]
structure iP (Z:TZ) (F0:Int) (fw:Int->Option Int) (s s':Sp) (fw':Int->Option Int) (al':List Int) (sz':Int->Nat):Prop where
 tri:Tri Z F0 fw' al' s' sz'
 le:Le fw fw'
 heads:eK s.mem s'.mem
 done: ∀x,s.mem.used x->Z.O (x / 64).toNat=false->Done Z fw s x->Done Z fw' s' x
theorem iP.refl(t:Tri Z F0 fw al s sz):iP Z F0 fw s s fw al sz:=⟨t,Le.refl _,eK.refl _,λ_ _ _ h=>h⟩
theorem iP.trans{l m:Sp}{b c:Int->Option Int}{e a:List Int}{f d:Int->Nat}(h:iP Z F0 fw s l b e f)(k:iP Z F0 b l m c a d):iP Z F0 fw s m c a d:=
 ⟨k.tri,h.le.trans k.le,h.heads.trans k.heads,λx j i n=>k.done x (h.heads.used j) i (h.done x j i n)⟩
theorem Done.keep(t:Tri Z F0 fw al s sz){s':Sp}{a:Int->Option Int}{c:List Int}{d:Int->Nat}(n:Tri Z F0 a c s' d)(l:Le fw a){x:Int}(k:s.mem.used x)(j:Z.O (x / 64).toNat=false)(i:s'.mem.get x=s.mem.get x)(h:Done Z fw s x):Done Z a s' x:=λv m=>by
 obtain⟨o,b⟩:=t.was k j
 have:=n.was_one (b.mono l) m
 subst this
 obtain⟨e,f⟩:=h o b
 exact⟨e.mono l,by rw[i,f,fZ e l]⟩
theorem Tri.fw_word(S:aW Z g F0)(t:Tri Z F0 fw al s sz){v:Int}(e:aC v):aC (Fw Z.O fw v):=by
 by_cases d:aG Z.O v
 ·cases c:fw (v / 8)with
  | none=>unfold Fw;rw[if_pos d,c];exact e
  | some b=>
   rw[fy d c]
   have h:=(t.img _ _ c).2
   have f:=(t.olds.mem _ ((t.al _).2 ⟨b,c⟩)).1
   have a:s.mem.used b:=by simpa using h.here 0 (by omega)
   have k:=t.ok.mem.lim
   have i:=a.2.1.2.1
   have j:=a.1
   exact⟨by omega,by omega⟩
 ·rw[ft d];exact e
theorem Tri.lookAt(S:aW Z g F0)(t:Tri Z F0 fw al s sz){x:Int}(n:s.mem.used x)(X:Z.O (x / 64).toNat=false)(P:s.mem.strong x): ∃a d h,iP Z F0 fw s (s.lookAt Z.O Z.T x) a d h/\Done Z a (s.lookAt Z.O Z.T x) x:=by
 obtain⟨v,A⟩:=t.was n X
 obtain⟨U,J⟩:=t.was_good S A P
 have E:s.mem.read x=s.mem.get x:=by unfold Mem.read;rw[if_pos n]
 have w: ∃(i:Sp) (m:Int) (a:Int->Option Int) (d:List Int) (h:Int->Nat),s.visit Z.O Z.T (s.mem.read x)=(i,m)/\Tri Z F0 a d i h/\Le fw a/\Dn Z.O a v/\m=Fw Z.O a v/\(∀y,s.mem.used y->Z.O (y / 64).toNat=false->i.mem.get y=s.mem.get y)/\eK s.mem i.mem:=by
  rw[E]
  have first:s.mem.get x=v->aG Z.O v-> ∃(i:Sp) (m:Int) (a:Int->Option Int) (d:List Int) (h:Int->Nat),s.visit Z.O Z.T (s.mem.get x)=(i,m)/\Tri Z F0 a d i h/\Le fw a/\Dn Z.O a v/\m=Fw Z.O a v/\(∀y,s.mem.used y->Z.O (y / 64).toNat=false->i.mem.get y=s.mem.get y)/\eK s.mem i.mem:=λe o=>by
   rw[e]
   obtain⟨vg,vr⟩:=J o
   obtain⟨a,d,h,V⟩:=t.visit S U vg (λ_=>vr)
   exact⟨_,_,a,d,h,rfl,V.tri,V.le,V.dn,V.val,V.rest,V.heads⟩
  by_cases c:aG Z.O v
  case neg=>
   have e:s.mem.get x=v:=by
    rcases t.val x v A with e | ⟨_,_,z⟩
    ·exact e
    ·rw[z,ft c]
   rw[e]
   exact⟨s,v,fw,al,sz,Sp.visit_no c,t,Le.refl _,λo=>absurd o c,(ft c).symm,λ_ _ _=>rfl,eK.refl _⟩
  rcases t.val x v A with e | ⟨_,L,z⟩
  ·exact first e c
  ·by_cases j:aG Z.O v
   ·obtain⟨b,N⟩:=L j
    have Y:=(t.img _ _ N).2
    have D: ¬aG Z.O (s.mem.get x):=λq=>by
     rw[z,fy j N]at q
     have M:=q.2.2
     rw[show(b*8+v % 8) / 8=b by omega,Y.out]at M
     cases M
    exact⟨s,s.mem.get x,fw,al,sz,Sp.visit_no D,t,Le.refl _,L,z,λ_ _ _=>rfl,eK.refl _⟩
   ·exact absurd c j
 obtain⟨i,m,a,d,h,p,Q,k,B,H,l,f⟩:=w
 have G:=f.used n
 have F:i.mem.strong x:=by
  have:=(f.seg _ n.2.1.2.2).2.1
  unfold Mem.strong Mem.kAt at*;rw[this];exact P
 obtain⟨R,K⟩:=Q.set S (A.mono k) F B (Q.fw_word S U)
 have C:s.lookAt Z.O Z.T x={i with mem:=i.mem.set x (Fw Z.O a v)}:=by
  unfold Sp.lookAt
  rw[p]
  show({i with mem:=i.mem.wr x m}:Sp)=_
  unfold Mem.wr
  rw[if_pos G,H]
 rw[C]
 refine⟨a,d,h,⟨R,k,f.trans (aY.set _ _ _).heads,λy I r W=>?_⟩,K⟩
 by_cases u:y=x
 ·rw[u];exact K
 ·refine Done.keep t R k I r ?_ W
  show(i.mem.set x _).get y=_
  rw[Mem.set_get y I.1 n.1,if_neg u];exact l y I r
theorem Tri.look(S:aW Z g F0)(t:Tri Z F0 fw al s sz){k lo:Int}(hk:0<=k)(u:0<=lo)(v:Z.O k.toNat=false): ∀n:Nat,lo+n<=64->(∀i:Int,lo<=i->i<lo+n->s.mem.used (k*64+i))->
  ∃b j x,iP Z F0 fw s (s.look Z.O Z.T k (s.mem.seg k.toNat).kind lo n) b j x/\ ∀i:Int,lo<=i->i<lo+n->s.mem.strong (k*64+i)->Done Z b (s.look Z.O Z.T k (s.mem.seg k.toNat).kind lo n) (k*64+i)
 | 0,_,_=>⟨fw,al,sz,iP.refl t,λi a e=>by omega⟩
 | n+1,hn,hu=>by
  obtain⟨p,l,y,L,B⟩:=Tri.look S t hk u v n (by omega) (λi a e=>hu i a (by omega))
  have d:=hu (lo+n) (by omega) (by omega)
  have D:Z.O ((k*64+(lo+n)) / 64).toNat=false:=by rw[show(k*64+(lo+(n:Int))) / 64=k by omega];exact v
  have E: ∀i:Int,lo<=i->i<lo+(n+1:Nat)->Z.O ((k*64+i) / 64).toNat=false:=λi a e=>by rw[show(k*64+i) / 64=k by omega];exact v
  unfold Sp.look
  by_cases h:looks (s.mem.seg k.toNat).kind (lo+n)
  ·rw[if_pos h]
   have w:=(lL (m:=s.mem) (by omega) hk).1 h
   have c:(s.look Z.O Z.T k (s.mem.seg k.toNat).kind lo n).mem.strong (k*64+(lo+n)):=by
    have:=(L.heads.seg _ d.2.1.2.2).2.1
    unfold Mem.strong Mem.kAt at*;rw[this];exact w
   obtain⟨q,o,z,A,C⟩:=L.tri.lookAt S (L.heads.used d) D c
   refine⟨q,o,z,L.trans A,λi a e f=>?_⟩
   by_cases r:i=lo+n
   ·rw[r];exact C
   ·exact A.done _ (L.heads.used (hu i a (by omega))) (E i a (by omega)) (B i a (by omega) f)
  ·rw[if_neg h]
   refine⟨p,l,y,L,λi a e f=>?_⟩
   by_cases r:i=lo+n
   ·exact absurd ((lL (m:=s.mem) (by omega) hk).2 (r▸f)) h
   ·exact B i a (by omega) f
def sR(Z:TZ)(c:Int×Int):Prop:=Z.m.has c.1/\Z.O c.1.toNat=false/\0<=c.2/\c.2<4
def pu(Z:TZ)(fw:Int->Option Int)(s:Sp)(c:Int×Int):Prop:= ∀i:Int,c.2*16<=i->i< (c.2+1)*16->Z.m.used (c.1*64+i)->s.mem.strong (c.1*64+i)->Done Z fw s (c.1*64+i)
theorem Tri.lookCards(S:aW Z g F0): ∀(l:List (Int×Int)) {fw:Int->Option Int} {al:List Int} {s:Sp} {sz:Int->Nat} (t:Tri Z F0 fw al s sz),(∀c∈l,sR Z c)-> ∃f p z,iP Z F0 fw s (s.lookCards Z.O Z.T l) f p z/\ ∀c∈l,pu Z f (s.lookCards Z.O Z.T l) c
 | [],fw,al,s,sz,t,_=>⟨fw,al,sz,iP.refl t,λc M=>by cases M⟩
 | c::l,fw,al,s,sz,t,h=>by
  obtain⟨r,B,P,Q⟩:=h c (by simp)
  have j:=t.heads.has r
  have v:s.mem.segOr c.1=s.mem.seg c.1.toNat:=by unfold Mem.segOr;rw[if_pos j]
  have E:=(t.ok.mem.seg c.1.toNat).n
  obtain⟨H,F,N,d,C⟩:=t.look S (k:=c.1) (lo:=c.2*16) r.1 (by omega) B (min (s.mem.seg c.1.toNat).n ((c.2+1)*16)-c.2*16).toNat (by omega) (λi D I=>by
   have m:(c.1*64+i) / 64=c.1:=by omega
   have u:(c.1*64+i) % 64=i:=by omega
   have:=r.1
   exact⟨by omega,by rw[m];exact j,by rw[m,u];omega⟩)
  have e:s.lookCard Z.O Z.T c=s.look Z.O Z.T c.1 (s.mem.seg c.1.toNat).kind (c.2*16) (min (s.mem.seg c.1.toNat).n ((c.2+1)*16)-c.2*16).toNat:=by unfold Sp.lookCard;rw[v]
  rw[<-e]at d C
  obtain⟨w,q,A,o,G⟩:=Tri.lookCards S l d.tri (λb a=>h b (by simp[a]))
  have u:s.lookCards Z.O Z.T (c::l)=(s.lookCard Z.O Z.T c).lookCards Z.O Z.T l:=rfl
  rw[u]
  refine⟨w,q,A,d.trans o,λb a=>?_⟩
  rcases List.mem_cons.1 a with rfl | a
  ·intro i D I J K
   have y:=t.heads.used J
   have R:i< (s.mem.seg b.1.toNat).n:=by
    have:=y.2.2
    have m:(b.1*64+i) / 64=b.1:=by omega
    rw[m]at this;omega
   have x:s.mem.strong (b.1*64+i):=by
    have L:=((d.heads.trans o.heads).seg _ y.2.1.2.2).2.1
    unfold Mem.strong Mem.kAt at*;rw[<-L];exact K
   refine o.done _ (d.heads.used y) (by rw[show(b.1*64+i) / 64=b.1 by omega];exact B) (C i D (by omega) x)
  ·exact G b a
def uz(Z:TZ)(fw:Int->Option Int)(s:Sp)(k0 ks:List (Int×Value)):Prop:= ∀k i:Int,0<=k->seenAt k0 k<=i->i<seenAt ks k->Z.O k.toNat=false->s.mem.used (k*64+i)/\(s.mem.strong (k*64+i)->Done Z fw s (k*64+i))
theorem Tri.drains(S:aW Z g F0)(t:Tri Z F0 fw al s sz){C E:List (Int×Value)}{F:Sp}(r:eR C)(h:dY Z.O Z.T s C F E): ∃m w G,iP Z F0 fw s F m w G/\uz Z m F C E/\eR E:=by
 induction h with
 | refl=>exact⟨fw,al,sz,iP.refl t,λk i _ v b=>by omega,r⟩
 | @step f a k hd hk hg U hn W=>
  obtain⟨Q,M,Y,L,D,j⟩:=W
  obtain⟨_,X,q1⟩:=iX j k
  have p:=(L.tri.ok.mem.seg k.toNat).n
  have d: ∀i:Int,0<=i->i< (f.mem.seg k.toNat).n->f.mem.used (k*64+i):=λi v b=>by
   have J:(k*64+i) / 64=k:=by omega
   have P:(k*64+i) % 64=i:=by omega
   have:=hk.1
   exact⟨by omega,by rw[J];exact hk,by rw[J,P];omega⟩
  obtain⟨z,y,H,l,N⟩:=L.tri.look S (k:=k) (lo:=seenAt a k) hk.1 X U ((f.mem.seg k.toNat).n-seenAt a k).toNat (by omega) (λi v b=>d i (by omega) (by omega))
  refine⟨z,y,H,L.trans l,λe i B v b q=>?_,j.put p⟩
  rw[k9]at b
  have c: ∀x,f.mem.used x->(f.look Z.O Z.T k (f.mem.seg k.toNat).kind (seenAt a k) ((f.mem.seg k.toNat).n-seenAt a k).toNat).mem.strong x->f.mem.strong x:=λx V u=>by
   have R:=(l.heads.seg _ V.2.1.2.2).2.1
   unfold Mem.strong Mem.kAt at*;rw[<-R];exact u
  have old:i<seenAt a e->_/\_:=λA=>by
   obtain⟨I,u2⟩:=D e i B v A q
   obtain⟨_,r0,r1⟩:=iX j e
   obtain⟨_,r2,r3⟩:=iX r e
   exact⟨l.heads.used I,λu=>l.done _ I (by rw[show(e*64+i) / 64=e by omega];exact q) (u2 (c _ I u))⟩
  by_cases o:e=k
  ·subst o
   rw[if_pos rfl]at b
   by_cases A:i<seenAt a e
   ·exact old A
   ·have K:=d i (by omega) b
    exact⟨l.heads.used K,λu=>N i (by omega) (by omega) (c _ K u)⟩
  ·rw[if_neg o]at b
   exact old b
end
variable{d:Sp}{i:Tr}
def jG(m:Mem):Prop:= ∀x,m.used x->m.kAt x≠3->(m.genOf (m.get x)).2=true->(m.genOf (m.get x)).1<m.gAt x->(m.seg (x / 64).toNat).cards (x % 64 / 16).toNat<=(m.genOf (m.get x)).1
theorem lZ{m:Mem}{w:Int}(c:fC w)(b:w % 8≠6)(a:m.has (w / 8 / 64)):m.genOf w=(m.gAt (w / 8),true):=by
 unfold Mem.genOf
 rw[if_pos ⟨c,b⟩,if_pos a,zX a]
section
variable {Z:TZ} {g F0:Int}
theorem Tri.begin'(S:aW Z g F0)(r:SpOK d)(hm:d.mem=Z.m)(z:d.mem.free=F0)(C: ∀i j:Nat,(i:Int)<=g->d.cur i j=0)(o: ∀x,Z.q x=none)(t:Z.P=[]):Tri Z F0 (λ_=>none) [] d Z.sz:=by
 have H:=S.rng
 refine⟨r,by rw[hm];exact S.even,by rw[hm];exact fO.refl _,λk _ _=>by rw[hm],λk hk s=>?_,⟨λ_=>0,?_,λ_ _ _=>rfl,λk hk=>?_⟩,⟨List.nodup_nil,λa h=>by cases h⟩,λa=>⟨λh=>(by cases h),λ⟨b,h⟩=>(by cases h)⟩,λa b h=>(by cases h),λa E b h=>(by cases h),S.sound.apart,λ_ _=>rfl,λb B=> .inl (S.sound.used b B).1,λa b h=>(by cases h),λx _ _ _=>by rw[hm],λx D=> .inl (by rw[<-hm];exact D),λx v h=>?_,λa b h=>(by cases h),λp y=>(by rw[t]at y;cases y),by rw[t];exact List.nodup_nil,λx w h=>(by rw[o]at h;cases h),λx v h=>absurd (o x) h,λa b h=>(by cases h)⟩
 ·have A:g<Z.T:=by
   rcases Int.lt_or_le g Z.T with h | h
   ·exact h
   ·exact absurd (C Z.T.toNat k (by omega)) s
  rcases r.cur Z.T.toNat k with h | ⟨c,f,l,F⟩
  ·exact absurd h s
  rw[hm]at f l
  have G:=S.ok.lim
  have n:(d.cur Z.T.toNat k-1).toNat<1024:=by have:=f.2.1;omega
  by_cases u:Z.O (d.cur Z.T.toNat k-1).toNat=true
  ·have:=((S.old _ n).1 u).2
   omega
  ·simpa using u
 ·simp;exact z
 ·have:=Sp.fill_rng r Z.T k
  have e:Z.uk [] (k:Int)=0:=rfl
  rw[e];simp;omega
 ·rcases h with h | ⟨_,⟨c,f,l⟩ | ⟨a,b,i,c,_⟩⟩
  ·rw[o]at h;cases h
  ·left;rw[l,hm]
  ·cases c
def Fin(Z:TZ)(fw:Int->Option Int)(s:Sp):Prop:= ∀x,s.mem.used x->Z.O (x / 64).toNat=false->s.mem.strong x->Done Z fw s x
theorem gS.cardOf(S:aW Z g F0)(B:gS Z.m g Z.T i): ∀c∈i.cards,sR Z c:=by
 obtain⟨l,a,e⟩:=B.cards
 rw[e]
 intro c d
 obtain⟨k,hk,q,n,rfl,h,j⟩:=Mem.mem_dirty.1 d
 obtain⟨f,o,p,_⟩:=a.has hk
 have a:=S.ok.lim
 refine⟨f,?_,by show(0:Int)<=(q:Int);omega,by show(q:Int)<4;omega⟩
 show Z.O ((k:Int)).toNat=false
 rw[show((k:Nat):Int).toNat=k by omega]
 by_cases b:Z.O k=true
 ·have:=((S.old k (by omega)).1 b).2;omega
 ·simpa using b
theorem gS.dirty(S:aW Z g F0)(B:gS Z.m g Z.T i)(hm:jG Z.m){x:Int}(c:Z.m.used x)(t:Z.O (x / 64).toNat=false)(hk:Z.m.kAt x≠3)(a:aG Z.O (Z.m.get x))(r:Good Z.m Z.sz (Z.m.get x)):(x / 64,x % 64 / 16)∈i.cards:=by
 obtain⟨l,s,e⟩:=B.cards
 obtain⟨o,p,v,w⟩:=S.oldWord r a
 obtain⟨n,_⟩:=S.sound.used _ o
 have h:=S.lt n
 have j:=S.lt c
 have b:=lZ (m:=Z.m) a.1 a.2.1 n.2.1
 have d:Z.m.gAt (Z.m.get x / 8)<=g:=((S.old _ h.1).1 p).2
 have k:g<Z.m.gAt x:=by
  rcases Int.lt_or_le g (Z.m.gAt x)with q | q
  ·exact q
  ·have:=(S.old _ j.1).2 ⟨by rw[show(((x / 64).toNat:Nat):Int)=x / 64 by have:=c.1;omega];exact c.2.1,q⟩
   rw[t]at this;cases this
 have f:=hm x c hk (by rw[b]) (by rw[b];show Z.m.gAt _<_;omega)
 rw[b]at f
 rw[e,Mem.mem_dirty]
 have u:=c.1
 refine⟨(x / 64).toNat,?_,(x % 64 / 16).toNat,by omega,?_,k,Int.le_trans f d⟩
 ·rw[s.perm.mem_iff]
  unfold Mem.takenTo
  rw[List.mem_filter,List.mem_range]
  have y:=(S.ok.seg (x / 64).toNat).taken
  have z:=c.2.1.2.2
  refine⟨by have:=c.2.1.2.1;omega,?_⟩
  simp only[Bool.and_eq_true,decide_eq_true_eq,Bool.or_eq_true]
  exact⟨by omega,.inl rfl⟩
 ·rw[show(((x / 64).toNat:Nat):Int)=x / 64 by omega,show(((x % 64 / 16).toNat:Nat):Int)=x % 64 / 16 by omega]
structure Pend (Z:TZ) (fw:Int->Option Int) (s:Sp) (ks:List (Int×Value)):Prop where
 ok:eR ks
 here: ∀k i:Int,0<=k->0<=i->i<seenAt ks k->Z.O k.toNat=false->s.mem.used (k*64+i)
 pend: ∀x,s.mem.used x->Z.O (x / 64).toNat=false->s.mem.strong x->Done Z fw s x\/(s.mem.gAt x=Z.T/\seenAt ks (x / 64)<=x % 64)
theorem Pend.unseen{b:Int->Option Int}{a:List (Int×Value)}(p:Pend Z b d a){x:Int}(e:0<=x)(c:Z.O (x / 64).toNat=false)(hn: ¬d.mem.used x):seenAt a (x / 64)<=x % 64:=by
 rcases Int.lt_or_le (x % 64) (seenAt a (x / 64))with h | h
 ·have:=p.here (x / 64) (x % 64) (by omega) (by omega) h c
  rw[show x / 64*64+x % 64=x by omega]at this
  exact absurd this hn
 ·exact h
theorem Tri.pends{C:Int->Option Int}{P:List Int}{W:Int->Nat}{B n:List (Int×Value)}{j:Sp}(S:aW Z g F0)(t:Tri Z F0 C P d W)(p:Pend Z C d B)(U:dY Z.O Z.T d B j n)(F:ii Z.O Z.T j n):
  ∃c r w,iP Z F0 C d j c r w/\Fin Z c j/\Pend Z c j n:=by
 obtain⟨c,r,w,L,D,I⟩:=t.drains S p.ok U
 have M:=L.tri
 have u: ∀k i:Int,0<=k->0<=i->i<seenAt n k->Z.O k.toNat=false->j.mem.used (k*64+i):=λk i J s y f=>by
  rcases Int.lt_or_le i (seenAt B k)with q | q
  ·exact L.heads.used (p.here k i J s q f)
  ·exact(D k i J q y f).1
 have o: ∀x,j.mem.used x->Z.O (x / 64).toNat=false->j.mem.strong x->j.mem.gAt x=Z.T->seenAt B (x / 64)<=x % 64->Done Z c j x:=λx m f v E H=>by
  have V:=m.1
  have A:j.mem.has (((x / 64).toNat:Nat):Int):=by rw[show(((x / 64).toNat:Nat):Int)=x / 64 by omega];exact m.2.1
  have R:=F (x / 64).toNat A E f
  rw[show(((x / 64).toNat:Nat):Int)=x / 64 by omega]at R
  have:=D (x / 64) (x % 64) (by omega) H (by have:=m.2.2;omega) f
  rw[show x / 64*64+x % 64=x by omega]at this
  exact this.2 v
 have z:Fin Z c j:=λx m f v=>by
  by_cases e:d.mem.used x
  ·have hk:=L.heads.l.kAt e
   have G:d.mem.strong x:=by unfold Mem.strong at*;rw[<-hk.1];exact v
   rcases p.pend x e f G with h | ⟨s,y⟩
   ·exact L.done x e f h
   ·exact o x m f v (hk.2.trans s) y
  ·have E:j.mem.gAt x=Z.T:=by
    rcases M.cover x m with q | ⟨a,b,i,s,y,Q⟩ | ⟨q,s,y⟩
    ·exact absurd (t.heads.used q) e
    ·have K:=(M.img a b s).2
     have X:=K.fit
     unfold Mem.gAt
     rw[Q,show(b+(i:Int)) / 64=b / 64 by omega];exact K.gen
    ·have N:=(t.pair q s).used
     rcases y with rfl | rfl
     ·exact absurd N.1 e
     ·exact absurd N.2 e
   exact o x m f v E (p.unseen m.1 f e)
 exact⟨c,r,w,L,z,I,u,λx m f v=> .inl (z x m f v)⟩
theorem Tri.pend0{l:Int->Option Int}{A:List Int}{F:Int->Nat}(S:aW Z g F0)(t:Tri Z F0 l A d F)(hm:jG Z.m)(B:gS Z.m g Z.T i)(M:Z.P=[])(Q: ∀x,Z.q x=none)(N: ∀c∈i.cards,pu Z l d c):Pend Z l d i.seen:=by
 refine⟨B.seenOK S.ok,λk V L w j D=>?_,λx J D I=>?_⟩
 ·unfold seenAt at j
  rw[B.seen k L]at j
  by_cases f:Z.m.has k/\(Z.m.seg k.toNat).gen=Z.T
  ·rw[if_pos f]at j
   have j:V< (Z.m.seg k.toNat).n:=j
   have hn:=(S.ok.seg k.toNat).n
   have G:(k*64+V) / 64=k:=by omega
   have K:(k*64+V) % 64=V:=by omega
   exact t.heads.used ⟨by omega,by rw[G];exact f.1,by rw[G,K];exact j⟩
  ·rw[if_neg f]at j
   have j:V< (0:Int):=j
   omega
 ·rcases t.cover x J with u | ⟨a,b,V,w,j,H⟩ | ⟨p,w,_⟩
  ·left
   have hk:=(t.kAt u).1
   have y:Z.m.strong x:=by unfold Mem.strong at*;rw[<-hk];exact I
   have r:Was Z l x (Z.m.get x):=.inr ⟨Q x,.inl ⟨u,D,rfl⟩⟩
   have s:=S.sound.good x u y.1
   by_cases h:aG Z.O (Z.m.get x)
   ·have o:=B.dirty S hm u D y.1 h s
    have z:=u.1
    have:=N _ o (x % 64) (by show x % 64 / 16*16<=_;omega) (by show _< (x % 64 / 16+1)*16;omega) (by show Z.m.used (x / 64*64+x % 64);rw[show x / 64*64+x % 64=x by omega];exact u) (by show Mem.strong _ (x / 64*64+x % 64);rw[show x / 64*64+x % 64=x by omega];exact I)
    have e:(x / 64,x % 64 / 16).1*64+x % 64=x:=by show x / 64*64+x % 64=x;omega
    rw[e]at this
    exact this
   ·intro v R
    have:=t.was_one r R
    subst this
    refine⟨λq=>absurd q h,?_⟩
    rw[ft h]
    rcases t.val x _ r with q | ⟨_,_,q⟩
    ·exact q
    ·rw[q,ft h]
  ·right
   have E:=(t.img a b w).2
   have U:=E.fit
   have z:=J.1
   refine⟨by unfold Mem.gAt;rw[H,show(b+(V:Int)) / 64=b / 64 by omega];exact E.gen,?_⟩
   unfold seenAt
   rw[B.seen (x / 64) (by omega)]
   by_cases f:Z.m.has (x / 64)/\(Z.m.seg (x / 64).toNat).gen=Z.T
   ·rw[if_pos f]
    show(Z.m.seg (x / 64).toNat).n<=_
    have C: ¬Z.m.used x:=by rw[H];exact E.new V j
    rcases Int.lt_or_le (x % 64) (Z.m.seg (x / 64).toNat).n with q | q
    ·exact absurd ⟨z,f.1,q⟩ C
    ·exact q
   ·rw[if_neg f];show(0:Int)<=_;omega
  ·rw[M]at w;cases w
theorem Tri.final{b:Int->Option Int}{h:List Int}{p:Int->Nat}{a:Sp}{o:List (Int×Value)}(S:aW Z g F0)(t:Tri Z F0 b h d p)(hm:jG Z.m)(B:gS Z.m g Z.T i)(F:i.old=Z.O)(y:Z.P=[])(A: ∀x,Z.q x=none)(z:dY Z.O Z.T (d.lookCards Z.O Z.T i.cards) i.seen a o)(n:ii Z.O Z.T a o):
  ∃e s D,Tri Z F0 e s a D/\Le b e/\Fin Z e a/\Pend Z e a o/\eK d.mem a.mem:=by
 obtain⟨w,u,E,c,v⟩:=t.lookCards S i.cards (B.cardOf S)
 obtain⟨l,j,r,f,k,C⟩:=c.tri.pends S (c.tri.pend0 S hm B y A v) z n
 exact⟨l,j,r,f.tri,c.le.trans f.le,k,C,c.heads.trans f.heads⟩
theorem Fin.reach{l:Int->Option Int}{al:List Int}{G:Int->Nat}(S:aW Z g F0)(t:Tri Z F0 l al d G)(f:Fin Z l d)(E: ∀v,Z.V v->Dn Z.O l v){a:Int}(h:Reach Z a): ∃b,l a=some b:=by
 induction h with
 | root h e=>exact E _ h e
 | @older x D hn z e=>
  have j:d.mem.strong x:=by unfold Mem.strong at*;rw[(t.kAt D).1];exact z
  have w:Was0 Z l x (Z.m.get x):=.inl ⟨D,hn,rfl⟩
  by_cases s:Z.q x=none
  ·exact(f x (t.heads.used D) hn j _ (.inr ⟨s,w⟩)).1 e
  ·exact t.qwas x _ s w e
 | @step a i h B z e F=>
  obtain⟨b,A⟩:=F
  have y:=(t.img a b A).2
  have u:=(t.olds.mem a ((t.al a).2 ⟨b,A⟩)).1
  have p:=S.sound.usedAt u B (λk=>(S.ok.seg k).n.2)
  have H:=y.fit
  have o:(b+(i:Int)) / 64=b / 64:=by omega
  have C:d.mem.kAt (b+i)=Z.m.kAt (a+i):=by unfold Mem.kAt;rw[o,p.2.1];exact y.kind
  have r:Z.m.kAt (a+i)=Z.m.kAt a:=by unfold Mem.kAt;rw[p.2.1]
  have j:d.mem.strong (b+i):=by
   unfold Mem.strong at*
   rw[C]
   refine⟨z.1,?_⟩
   by_cases c:Z.m.kAt (a+i)=1
   ·right
    have:=z.2.resolve_left (λq=>q c)
    have:=y.even (by rw[<-r,c];decide)
    have:=(S.sound.two a u (by rw[<-r,c];decide)).2
    omega
   ·exact .inl c
  have w:Was0 Z l (b+i) (Z.m.get (a+i)):=.inr ⟨a,b,i,A,B,rfl,rfl⟩
  by_cases s:Z.q (b+i)=none
  ·exact(f (b+i) (y.here i B) (by rw[o];exact y.out) j _ (.inr ⟨s,w⟩)).1 e
  ·exact t.qwas _ _ s w e
end
variable{d j:Mem}{i:Tr}
theorem Sp.give_seg(s:Sp)(k:Int)(i:Nat):(s.give k).mem.seg i=(if s.mem.has k/\(i:Int)=k then Seg.none else s.mem.seg i)/\(s.give k).mem.limit=s.mem.limit:=by
 unfold Sp.give
 by_cases h:s.mem.has k
 ·rw[if_pos h]
  show(s.mem.give k).seg i=_/\(s.mem.give k).limit=_
  unfold Mem.give
  rw[if_pos h]
  refine⟨?_,rfl⟩
  rw[Mem.upd_seg]
  have:=h.1
  exact iC ⟨λe=>⟨h,by omega⟩,λe=>by have:=e.2;omega⟩ _ _
 ·rw[if_neg h,if_neg (λq=>h q.1)];exact⟨rfl,rfl⟩
theorem Sp.gives_seg(s:Sp)(old:Nat->Bool): ∀n:Nat,(s.gives old n).mem.limit=s.mem.limit/\ ∀i:Nat,(s.gives old n).mem.seg i=if i<n/\old i=true/\s.mem.has i then Seg.none else s.mem.seg i
 | 0=>⟨rfl,λi=>by rw[if_neg (by omega)];rfl⟩
 | n+1=>by
  obtain⟨d,e⟩:=Sp.gives_seg s old n
  unfold Sp.gives
  by_cases c:old n=true
  ·rw[if_pos c]
   refine⟨(Sp.give_seg _ _ 0).2.trans d,λi=>?_⟩
   rw[(Sp.give_seg _ _ i).1]
   have f:(s.gives old n).mem.has n ↔ s.mem.has n:=by
    unfold Mem.has
    rw[d,show((n:Nat):Int).toNat=n by omega,e n,if_neg (by omega)]
   rw[e i]
   by_cases b:i=n
   ·subst b
    by_cases a:s.mem.has i
    ·rw[if_pos ⟨f.2 a,rfl⟩,if_pos ⟨by omega,c,a⟩]
    ·rw[if_neg (λq=>a (f.1 q.1)),if_neg (λq=>a q.2.2),if_neg (λq=>a q.2.2)]
   ·rw[if_neg (λq=>b (by omega))]
    exact iC ⟨λq=>⟨by omega,q.2⟩,λq=>⟨by omega,q.2⟩⟩ _ _
  ·rw[if_neg c]
   refine⟨d,λi=>?_⟩
   rw[e i]
   refine iC ⟨λq=>⟨by omega,q.2⟩,λq=>⟨?_,q.2⟩⟩ _ _
   by_cases b:i=n
   ·rw[b]at q;exact absurd q.2.1 c
   ·omega
structure Unm (m m':Mem):Prop where
 limit:m'.limit=m.limit
 seg: ∀i,(m'.seg i).gen=(m.seg i).gen/\(m'.seg i).kind=(m.seg i).kind/\(m'.seg i).n=(m.seg i).n/\(m'.seg i).taken=(m.seg i).taken/\(m'.seg i).words=(m.seg i).words
theorem Unm.refl(m:Mem):Unm m m:=⟨rfl,λ_=>⟨rfl,rfl,rfl,rfl,rfl⟩⟩
theorem Unm.trans{a b c:Mem}(h:Unm a b)(k:Unm b c):Unm a c:=⟨k.limit.trans h.limit,λi=>by
 obtain⟨d,e,f,j,l⟩:=h.seg i
 obtain⟨m,n,o,p,q⟩:=k.seg i
 exact⟨m.trans d,n.trans e,o.trans f,p.trans j,q.trans l⟩⟩
theorem Unm.again(m:Mem)(k c:Int):Unm m (m.again k c):=by
 obtain⟨a,_,_,b⟩:=m.again_seg k c
 exact⟨a,b⟩
theorem Unm.has(h:Unm d j){k:Int}:j.has k ↔ d.has k:=by unfold Mem.has;rw[h.limit,(h.seg _).2.2.2.1]
theorem Unm.used{m a:Mem}(h:Unm m a){x:Int}:a.used x ↔ m.used x:=by unfold Mem.used;rw[h.has,(h.seg _).2.2.1]
theorem Unm.get{m a:Mem}(h:Unm m a)(x:Int):a.get x=m.get x:=by unfold Mem.get;rw[(h.seg _).2.2.2.2]
theorem Unm.genOf(h:Unm d j)(w:Int):j.genOf w=d.genOf w:=by
 unfold Mem.genOf
 rw[(h.seg _).1]
 have e:j.has (w / 8 / 64) ↔ d.has (w / 8 / 64):=h.has
 by_cases q:fC w/\w % 8≠6
 ·rw[if_pos q,if_pos q]
  by_cases a:d.has (w / 8 / 64)
  ·rw[if_pos a,if_pos (e.2 a),zX a,zX (e.2 a)]
  ·rw[if_neg a,if_neg (λr=>a (e.1 r)),zQ a,zQ (λr=>a (e.1 r))]
 ·rw[if_neg q,if_neg q]
theorem Unm.younger{m a:Mem}(h:Unm m a)(i:Nat)(w b:Int):a.younger (a.seg i) w b=m.younger (m.seg i) w b:=by
 unfold Mem.younger
 rw[h.genOf,(h.seg i).1,(h.seg i).2.1]
theorem Unm.markOf{m a:Mem}(h:Unm m a)(k c:Int): ∀n,a.markOf k c n=m.markOf k c n
 | 0=>rfl
 | n+1=>by rw[Mem.markOf_succ,Mem.markOf_succ,h.younger,h.get,Unm.markOf h k c n]
theorem Unm.cardLen(h:Unm d j)(k c:Int):j.cardLen k c=d.cardLen k c:=by unfold Mem.cardLen;rw[(h.seg _).2.2.1]
def Mem.mark1(m:Mem)(k c:Int):Int:=m.markOf k c (m.cardLen k c)
theorem Mem.again_cards(e:aX d)(k c:Int)(i j:Nat):((d.again k c).seg i).cards j=if((i:Int),(j:Int))=(k,c)/\d.has k/\c<4 then d.mark1 k c else(d.seg i).cards j:=by
 unfold Mem.again
 by_cases h:d.has k/\0<=c/\c<4
 ·rw[if_pos h]
  have l:=Mem.markOf_rng e k c (d.cardLen k c)
  unfold Mem.mark
  rw[if_neg (λq=>q h.1),if_neg (by omega)]
  show((d.upd _ _).seg i).cards j=_
  rw[Mem.upd_seg]
  have f:=h.1.1
  by_cases a:i=k.toNat
  ·rw[if_pos a]
   show(if j=c.toNat then _ else _)=_
   by_cases b:j=c.toNat
   ·rw[if_pos b,if_pos ⟨by rw[Prod.mk.injEq];omega,h.1,h.2.2⟩];rfl
   ·rw[if_neg b,if_neg (λq=>b (by have:=(Prod.mk.inj q.1).2;omega)),a]
  ·rw[if_neg a,if_neg (λq=>a (by have:=(Prod.mk.inj q.1).1;omega))]
 ·rw[if_neg h,if_neg (λq=>h ⟨q.2.1,by have:=(Prod.mk.inj q.1).2;omega,q.2.2⟩)]
theorem Sp.agains_spec: ∀(l:List (Int×Int)) {s:Sp} (f:SpOK s),Unm s.mem (s.agains l).mem/\ ∀i j:Nat,((s.agains l).mem.seg i).cards j=if((i:Int),(j:Int))∈l/\s.mem.has i/\j<4 then s.mem.mark1 i j else(s.mem.seg i).cards j
 | [],s,f=>⟨Unm.refl _,λi j=>by rw[if_neg (λq=>by cases q.1)];rfl⟩
 | c::l,s,f=>by
  have d:=Unm.again s.mem c.1 c.2
  obtain⟨u,p⟩:=Sp.agains_spec l (f.again c.1 c.2)
  have e:s.agains (c::l)=({s with mem:=s.mem.again c.1 c.2}:Sp).agains l:=rfl
  rw[e]
  refine⟨d.trans u,λi j=>?_⟩
  rw[p i j]
  show(if _/\(s.mem.again c.1 c.2).has i/\j<4 then(s.mem.again c.1 c.2).mark1 i j else((s.mem.again c.1 c.2).seg i).cards j)=_
  have o:(s.mem.again c.1 c.2).mark1 i j=s.mem.mark1 i j:=by unfold Mem.mark1;rw[d.markOf,d.cardLen]
  rw[o,Mem.again_cards f.mem]
  by_cases b:((i:Int),(j:Int))∈l/\s.mem.has i/\j<4
  ·rw[if_pos ⟨b.1,d.has.2 b.2.1,b.2.2⟩,if_pos ⟨List.mem_cons_of_mem _ b.1,b.2⟩]
  ·rw[if_neg (λq=>b ⟨q.1,d.has.1 q.2.1,q.2.2⟩)]
   by_cases a:((i:Int),(j:Int))=(c.1,c.2)/\s.mem.has c.1/\c.2<4
   ·obtain⟨h,k⟩:=Prod.mk.inj a.1
    rw[if_pos a,if_pos ⟨by rw[a.1];exact List.mem_cons_self,by rw[h];exact a.2.1,by have:=a.2.2;omega⟩,<-h,<-k]
   ·rw[if_neg a,if_neg]
    rintro⟨r,n,t⟩
    rcases List.mem_cons.1 r with q | q
    ·have m:((i:Int),(j:Int))=(c.1,c.2):=q
     obtain⟨h,k⟩:=Prod.mk.inj m
     exact a ⟨m,by rw[<-h];exact n,by omega⟩
    ·exact b ⟨q,n,t⟩
theorem Mem.younger_le(m:Mem)(b:Seg)(w a:Int):m.younger b w a<=a:=by unfold Mem.younger;split<;>omega
theorem Mem.markOf_le(m:Mem)(k c:Int): ∀n i:Nat,i<n->(m.genOf (m.get (k*64+c*16+i))).2=true->(m.seg k.toNat).kind≠3->(m.genOf (m.get (k*64+c*16+i))).1< (m.seg k.toNat).gen->m.markOf k c n<=(m.genOf (m.get (k*64+c*16+i))).1
 | n+1,i,hi,h1,h2,h3=>by
  rw[Mem.markOf_succ]
  by_cases e:i=n
  ·subst e
   unfold Mem.younger
   rw[if_pos ⟨h1,h2,h3⟩];omega
  ·exact Int.le_trans (Mem.younger_le _ _ _ _) (Mem.markOf_le m k c n i (by omega) h1 h2 h3)
section
variable {Z:TZ} {g F0:Int} {fw:Int->Option Int} {al:List Int} {s:Sp} {sz:Int->Nat}
structure Broke (Z:TZ) (fw:Int->Option Int) (s s':Sp):Prop where
 same:aY s.mem s'.mem
 cur:s'.cur=s.cur
 ok:SpOK s'
 strong: ∀x,s.mem.used x->Z.O (x / 64).toNat=false-> ¬(s.mem.kAt x=1/\x % 2=0)->s'.mem.get x=s.mem.get x
 weak: ∀x,s.mem.used x->Z.O (x / 64).toNat=false->s.mem.kAt x=1->x % 2=0->s'.mem.get x=44\/ ∀v,Was Z fw x v->Dn Z.O fw v/\s'.mem.get x=Fw Z.O fw v
structure Ended (Z:TZ) (tr:Tr) (s:Sp) (m:Mem):Prop where
 limit:m.limit=s.mem.limit
 seg: ∀k,Z.O k=false->(m.seg k).gen=(s.mem.seg k).gen/\(m.seg k).kind=(s.mem.seg k).kind/\(m.seg k).n=(s.mem.seg k).n/\(m.seg k).taken=(s.mem.seg k).taken/\(m.seg k).words=(s.mem.seg k).words
 gone: ∀k:Nat,k<1024->Z.O k=true->(m.seg k).taken=0
 cards: ∀i j:Nat,Z.O i=false->(m.seg i).cards j=if((i:Int),(j:Int))∈tr.cards/\s.mem.has i/\j<4 then m.mark1 i j else(s.mem.seg i).cards j
theorem Sp.ended_spec{tr:Tr}(t:tr.old=Z.O)(m:SpOK s)(b: ∀k:Nat,k<1024->Z.O k=true->s.mem.has k):Ended Z tr s (s.ended tr).mem/\SpOK (s.ended tr):=by
 have n:=Sp.gives_ok m tr.old 1024
 obtain⟨p,r⟩:=Sp.gives_seg s tr.old 1024
 obtain⟨u,h⟩:=Sp.agains_spec tr.cards n
 have a: ∀k,Z.O k=false->(s.gives tr.old 1024).mem.seg k=s.mem.seg k:=λk hk=>by rw[r k,if_neg (λq=>by rw[t,hk]at q;cases q.2.1)]
 refine⟨⟨u.limit.trans p,λk hk=>?_,λk d f=>?_,λi j v=>?_⟩,?_⟩
 ·have:=u.seg k
  rw[a k hk]at this;exact this
 ·show(((s.gives tr.old 1024).agains tr.cards).mem.seg k).taken=0
  rw[(u.seg k).2.2.2.1,r k,if_pos ⟨d,by rw[t];exact f,b k d f⟩];rfl
 ·show(((s.gives tr.old 1024).agains tr.cards).mem.seg i).cards j=_
  rw[h i j]
  have w:(s.ended tr).mem.mark1 i j=(s.gives tr.old 1024).mem.mark1 i j:=by unfold Mem.mark1 Sp.ended;rw[u.markOf,u.cardLen]
  rw[w,a i v]
  refine iC ?_ _ _
  have e:(s.gives tr.old 1024).mem.has i ↔ s.mem.has i:=by unfold Mem.has;rw[p,show((i:Nat):Int).toNat=i by omega,a i v]
  rw[e]
 ·have o: ∀(l:List (Int×Int)) {s:Sp},SpOK s->SpOK (s.agains l):=λl=>by
   induction l with
   | nil=>intro s m;exact m
   | cons c l x=>intro s m;exact x (m.again c.1 c.2)
  exact o tr.cards n
theorem Ended.used{m:Mem}(S:aW Z g F0)(h:Ended Z i s m)(l:s.mem.limit=Z.m.limit){x:Int}:m.used x ↔ s.mem.used x/\Z.O (x / 64).toNat=false:=by
 have k:=S.ok.lim
 constructor
 ·rintro⟨c,a,d⟩
  have e:(x / 64).toNat<1024:=by have:=a.2.1;rw[h.limit,l]at this;omega
  have b:Z.O (x / 64).toNat=false:=by
   by_cases q:Z.O (x / 64).toNat=true
   ·exact absurd (h.gone _ e q) a.2.2
   ·simpa using q
  obtain⟨_,_,f,j,_⟩:=h.seg _ b
  exact⟨⟨c,⟨a.1,by rw[<-h.limit];exact a.2.1,by rw[<-j];exact a.2.2⟩,by rw[<-f];exact d⟩,b⟩
 ·rintro⟨⟨c,a,d⟩,b⟩
  obtain⟨_,_,f,j,_⟩:=h.seg _ b
  exact⟨c,⟨a.1,by rw[h.limit];exact a.2.1,by rw[j];exact a.2.2⟩,by rw[f];exact d⟩
theorem Ended.get{m:Mem}(h:Ended Z i s m){x:Int}(a:Z.O (x / 64).toNat=false):m.get x=s.mem.get x/\m.kAt x=s.mem.kAt x/\m.gAt x=s.mem.gAt x:=by
 obtain⟨b,c,_,_,d⟩:=h.seg _ a
 exact⟨by unfold Mem.get;rw[d],c,b⟩
def szE(O:Nat->Bool)(sz:Int->Nat)(a:Int):Nat:=if O (a / 64).toNat=true then 0 else sz a
structure eS (Z:TZ) (g F0:Int) (fw:Int->Option Int) (al:List Int) (sz:Int->Nat) (tr:Tr) (s s':Sp) (m:Mem):Prop where
 S:aW Z g F0
 tri:Tri Z F0 fw al s sz
 fin:Fin Z fw s
 roots: ∀v,Z.V v->Dn Z.O fw v
 broke:Broke Z fw s s'
 ended:Ended Z tr s' m
 begun:gS Z.m g Z.T tr
 marked:jG Z.m
theorem eS.used{a:Sp}{m:Mem}(t:eS Z g F0 fw al sz i s a m){x:Int}:m.used x ↔ s.mem.used x/\Z.O (x / 64).toNat=false:=by
 have:=t.ended.used t.S (by rw[t.broke.same.limit,t.tri.heads.limit]) (x:=x)
 rw[this,t.broke.same.used]
theorem eS.kind{d:Sp}{m:Mem}(t:eS Z g F0 fw al sz i s d m){x:Int}(h:m.used x):m.kAt x=s.mem.kAt x/\m.gAt x=s.mem.gAt x:=by
 obtain⟨_,c⟩:=t.used.1 h
 obtain⟨_,a,b⟩:=t.ended.get c
 exact⟨a.trans (t.broke.same.seg _).2.1,b.trans (t.broke.same.seg _).1⟩
theorem eS.get{n:Sp}{m:Mem}(t:eS Z g F0 fw al sz i s n m){x v:Int}(c:Was Z fw x v):m.get x=(if s.mem.kAt x=3 then v else Fw Z.O fw v)/\(s.mem.kAt x≠3->Dn Z.O fw v)\/(m.get x=44/\s.mem.kAt x=1/\x % 2=0):=by
 obtain⟨f,d⟩:=t.tri.usedOf c
 have j:=(t.ended.get d).1
 by_cases a:s.mem.kAt x=1/\x % 2=0
 ·rw[j]
  rcases t.broke.weak x f d a.1 a.2 with q | q
  ·exact .inr ⟨q,a⟩
  ·left
   rw[if_neg (by rw[a.1];decide)]
   exact⟨(q v c).2,λ_=>(q v c).1⟩
 ·left
  rw[j,t.broke.strong x f d a]
  by_cases b:s.mem.kAt x=3
  ·rw[if_pos b]
   refine⟨?_,λq=>absurd b q⟩
   rcases t.tri.val x v c with q | ⟨q,_⟩
   ·exact q
   ·exact absurd b q.1
  ·rw[if_neg b]
   have e:s.mem.strong x:=⟨b,by
    by_cases h:s.mem.kAt x=1
    ·right;have:=λq=>a ⟨h,q⟩;omega
    ·exact .inl h⟩
   obtain⟨k,l⟩:=t.fin x f d e v c
   exact⟨l,λ_=>k⟩
theorem Tri.fw_young(t:Tri Z F0 fw al s sz){v:Int}(e:Dn Z.O fw v): ¬aG Z.O (Fw Z.O fw v):=λq=>by
 by_cases a:aG Z.O v
 ·obtain⟨b,d⟩:=e a
  rw[fy a d]at q
  have f:=(t.img _ _ d).2
  have c:=q.2.2
  rw[show(b*8+v % 8) / 8=b by omega,f.out]at c
  cases c
 ·rw[ft a]at q;exact a q
theorem eS.good{D:Sp}(t:eS Z g F0 fw al sz i s D d){v:Int}(G:aC v)(h:Good Z.m Z.sz v)(A:Dn Z.O fw v):Good d (szE Z.O sz) (Fw Z.O fw v)/\(isTag v->d.used (Fw Z.O fw v / 8)/\szE Z.O sz (Fw Z.O fw v / 8)=Z.sz (v / 8)/\d.kAt (Fw Z.O fw v / 8)=Z.m.kAt (v / 8)/\Z.T<=d.gAt (Fw Z.O fw v / 8))/\Fw Z.O fw v % 8=v % 8:=by
 have S:=t.S
 by_cases l:aG Z.O v
 ·obtain⟨b,w⟩:=A l
  obtain⟨p,y,E,z⟩:=S.oldWord h l
  obtain⟨x,f⟩:=t.tri.img _ _ w
  rw[fy l w]
  have u:(b*8+v % 8) / 8=b:=by omega
  have o:(b*8+v % 8) % 8=v % 8:=by omega
  have r:s.mem.used b:=by simpa using f.here 0 (by omega)
  have a:d.used b:=t.used.2 ⟨r,f.out⟩
  have hk:=t.kind a
  have m:szE Z.O sz b=Z.sz (v / 8):=by unfold szE;rw[if_neg (by rw[f.out];decide),x]
  refine⟨⟨by rw[o];exact h.1,λ_=>?_⟩,λ_=>?_,o⟩
  ·rw[u,o,m,hk.1,f.kind];exact⟨p,z⟩
  ·rw[u];exact⟨a,m,by rw[hk.1,f.kind],by rw[hk.2,f.gen];exact Int.le_refl _⟩
 ·rw[ft l]
  have key:isTag v->d.used (v / 8)/\szE Z.O sz (v / 8)=Z.sz (v / 8)/\d.kAt (v / 8)=Z.m.kAt (v / 8)/\Z.T<=d.gAt (v / 8):=λe=>by
   obtain⟨p,y⟩:=h.2 e
   obtain⟨n,_⟩:=S.sound.used _ p
   have k:=S.lt n
   have c:Z.O (v / 8 / 64).toNat=false:=by
    by_cases q:Z.O (v / 8 / 64).toNat=true
    ·exact absurd ⟨⟨by unfold isTag at e;omega,k.2.2⟩,by unfold isTag at e;omega,q⟩ l
    ·simpa using q
   have a:d.used (v / 8):=t.used.2 ⟨t.tri.heads.used n,c⟩
   have hk:=t.kind a
   have j:=t.tri.kAt n
   refine⟨a,by unfold szE;rw[if_neg (by rw[c];decide),t.tri.sz0 _ n],by rw[hk.1,j.1],?_⟩
   rw[hk.2,j.2]
   have F:=S.rng
   rcases Int.lt_or_le g (Z.m.gAt (v / 8))with q | q
   ·omega
   ·have:=(S.old _ k.1).2 ⟨by rw[show(((v / 8 / 64).toNat:Nat):Int)=v / 8 / 64 by omega];exact n.2.1,q⟩
    rw[c]at this;cases this
  refine⟨⟨h.1,λe=>?_⟩,key,rfl⟩
  obtain⟨H,B,C,_⟩:=key e
  rw[B,C];exact h.2 e
theorem eS.was{c:Sp}(t:eS Z g F0 fw al sz i s c d){x:Int}(h:d.used x): ∃v,Was Z fw x v:=by
 obtain⟨a,b⟩:=t.used.1 h
 exact t.tri.was a b
theorem Tri.was0_any(S:aW Z g F0)(t:Tri Z F0 fw al s sz){x v:Int}(l:Was0 Z fw x v)(hk:s.mem.kAt x≠3):aC v/\Good Z.m Z.sz v:=by
 rcases l with⟨c,f,rfl⟩ | ⟨a,b,i,c,f,j,rfl⟩
 ·exact⟨(S.ok.seg _).words _,S.sound.good x c (by rw[<-(t.kAt c).1];exact hk)⟩
 ·have h:=(t.img a b c).2
  have e:=(t.olds.mem a ((t.al a).2 ⟨b,c⟩)).1
  have d:=S.sound.usedAt e f (λk=>(S.ok.seg k).n.2)
  have o:=h.fit
  refine⟨(S.ok.seg _).words _,S.sound.good _ d.1 ?_⟩
  have:s.mem.kAt x=Z.m.kAt (a+i):=by
   unfold Mem.kAt
   rw[j,show(b+i) / 64=b / 64 by omega,d.2.1];exact h.kind
  rw[<-this];exact hk
theorem Tri.was_any(S:aW Z g F0)(t:Tri Z F0 fw al s sz){x v:Int}(c:Was Z fw x v)(hk:s.mem.kAt x≠3):aC v/\(aG Z.O v->Good Z.m Z.sz v):=by
 rcases c with h | ⟨_,h⟩
 ·have W:=t.qok x v h
  exact⟨W.word,λo=>absurd o W.young⟩
 ·obtain⟨a,b⟩:=t.was0_any S h hk
  exact⟨a,λ_=>b⟩
theorem Tri.gAtT(S:aW Z g F0)(t:Tri Z F0 fw al s sz){x:Int}(k:s.mem.used x)(j:Z.O (x / 64).toNat=false):Z.T<=s.mem.gAt x:=by
 rcases t.cover x k with q | ⟨a,b,i,c,e,h⟩ | ⟨p,c,e⟩
 ·have u:=S.rng
  have d:=S.lt q
  rw[(t.kAt q).2]
  rcases Int.lt_or_le g (Z.m.gAt x)with r | r
  ·omega
  ·have:=(S.old _ d.1).2 ⟨by rw[show(((x / 64).toNat:Nat):Int)=x / 64 by omega];exact q.2.1,r⟩
   rw[j]at this;cases this
 ·have f:=(t.img a b c).2
  have o:=f.fit
  have:s.mem.gAt x=Z.T:=by unfold Mem.gAt;rw[h,show(b+(i:Int)) / 64=b / 64 by omega];exact f.gen
  omega
 ·have N:=t.pair p c
  have l:=N.used.1.1
  have n:=N.even
  have:s.mem.gAt x=Z.T:=by
   rcases e with rfl | rfl
   ·exact N.gen
   ·unfold Mem.gAt;rw[show(p+1) / 64=p / 64 by omega];exact N.gen
  omega
theorem eS.goodY{l:Sp}(t:eS Z g F0 fw al sz i s l d){v:Int}(c:Good s.mem sz v)(h: ¬aG Z.O v):Good d (szE Z.O sz) v/\(isTag v->d.used (v / 8)/\Z.T<=d.gAt (v / 8)):=by
 have key:isTag v->d.used (v / 8)/\szE Z.O sz (v / 8)=sz (v / 8)/\d.kAt (v / 8)=s.mem.kAt (v / 8)/\Z.T<=d.gAt (v / 8):=λa=>by
  obtain⟨f,n⟩:=c.2 a
  have b:=t.tri.sz_used t.S f
  have p:=t.tri.ok.mem.lim
  have o:=b.2.1.2.1
  have m:=b.1
  have e:Z.O (v / 8 / 64).toNat=false:=by
   by_cases q:Z.O (v / 8 / 64).toNat=true
   ·exact absurd ⟨⟨by unfold isTag at a;omega,by omega⟩,by unfold isTag at a;omega,q⟩ h
   ·simpa using q
  have hm:d.used (v / 8):=t.used.2 ⟨b,e⟩
  have hk:=t.kind hm
  exact⟨hm,by unfold szE;rw[if_neg (by rw[e];decide)],hk.1,by rw[hk.2];exact t.tri.gAtT t.S b e⟩
 refine⟨⟨c.1,λa=>?_⟩,λa=>⟨(key a).1,(key a).2.2.2⟩⟩
 obtain⟨_,j,k,_⟩:=key a
 rw[j,k];exact c.2 a
theorem eS.word{r:Sp}(t:eS Z g F0 fw al sz i s r d){x:Int}(m:d.used x)(hk:s.mem.kAt x≠3):aC (d.get x)/\Good d (szE Z.O sz) (d.get x)/\(isTag (d.get x)->d.used (d.get x / 8)/\Z.T<=d.gAt (d.get x / 8)):=by
 obtain⟨v,c⟩:=t.was m
 rcases t.get c with⟨e,p⟩ | ⟨q,_⟩
 ·rw[if_neg hk]at e
  rw[e]
  rcases c with h | ⟨_,h⟩
  ·have W:=t.tri.qok x v h
   rw[ft W.young]
   exact⟨W.word,t.goodY W.good W.young⟩
  ·obtain⟨a,l⟩:=t.tri.was0_any t.S h hk
   obtain⟨f,j,k⟩:=t.good a l (p hk)
   refine⟨t.tri.fw_word t.S a,f,λb=>?_⟩
   obtain⟨n,_,_,o⟩:=j (by unfold isTag at b⊢;rw[<-k];exact b)
   exact⟨n,o⟩
 ·rw[q]
  exact⟨by decide,⟨by decide,λh=>absurd h (by decide)⟩,λh=>absurd h (by decide)⟩
end
section
variable {Z:TZ} {g F0:Int} {fw:Int->Option Int} {al:List Int} {s:Sp} {sz:Int->Nat}
theorem jh{x:Int}(h:gJ x)(O:Nat->Bool): ¬aG O x:=λq=>by have:=h.1;have:=q.1.1;omega
theorem eS.thing{x:Sp}(t:eS Z g F0 fw al sz i s x d){b:Int}(h:szE Z.O sz b≠0):b∈Z.P\/ ∃a,Z.sz a≠0/\szE Z.O sz b=Z.sz a/\d.kAt b=Z.m.kAt a/\(b % 64+Z.sz a<=(d.seg (b / 64).toNat).n)/\(∀D:Nat,D<Z.sz a->d.used (b+D)/\Was0 Z fw (b+D) (Z.m.get (a+D))/\(b+D) / 64=b / 64)/\(Z.m.kAt a<=1->b % 2=0)/\((a=b/\Z.m.used a/\Z.O (a / 64).toNat=false)\/fw a=some b):=by
 have S:=t.S
 have j:Z.O (b / 64).toNat=false:=by
  by_cases q:Z.O (b / 64).toNat=true
  ·exact absurd (by unfold szE;rw[if_pos q]) h
  ·simpa using q
 have e:szE Z.O sz b=sz b:=by unfold szE;rw[if_neg (by rw[j];decide)]
 rw[e]at h⊢
 rcases t.tri.szn b h with q | ⟨a,o⟩ | q
 ·right
  have r:=t.tri.sz0 b q
  rw[r]at h⊢
  obtain⟨p,C⟩:=S.sound.used b h
  have f:d.used b:=t.used.2 ⟨t.tri.heads.used p,j⟩
  have hk:=t.kind f
  have v:=t.tri.kAt p
  refine⟨b,h,rfl,by rw[hk.1,v.1],?_,λD l=>?_,λu=>(S.sound.two b h u).2,.inl ⟨rfl,p,j⟩⟩
  ·have y:=(t.ended.seg _ j).2.2.1
   have z:=(t.broke.same.seg (b / 64).toNat).2.2.1
   have A:=(t.tri.heads.seg _ p.2.1.2.2).2.2.2
   omega
  ·have c:=S.sound.usedAt h l (λk=>(S.ok.seg k).n.2)
   exact⟨t.used.2 ⟨t.tri.heads.used c.1,by rw[c.2.1];exact j⟩,.inl ⟨c.1,by rw[c.2.1];exact j,rfl⟩,c.2.1⟩
 ·right
  obtain⟨r,m⟩:=t.tri.img a b o
  have w:=(t.tri.olds.mem a ((t.tri.al a).2 ⟨b,o⟩)).1
  have B:=m.fit
  have f: ∀D:Nat,D<Z.sz a->d.used (b+D):=λD l=>t.used.2 ⟨m.here D l,by rw[show(b+(D:Int)) / 64=b / 64 by omega];exact m.out⟩
  have hk:=t.kind (by simpa using f 0 (by omega))
  refine⟨a,w,r,by rw[hk.1,m.kind],?_,λD l=>⟨f D l,.inr ⟨a,b,D,o,l,rfl,rfl⟩,by omega⟩,m.even,.inr o⟩
  have:=(f (Z.sz a-1) (by omega)).2.2
  rw[show(b+((Z.sz a-1:Nat):Int)) / 64=b / 64 by omega]at this
  omega
 ·exact .inl q
theorem eS.pair{s':Sp}(t:eS Z g F0 fw al sz i s s' d){p:Int}(h:p∈Z.P):szE Z.O sz p=2/\d.kAt p=0/\d.gAt p=Z.T/\d.used p/\d.used (p+1)/\p % 2=0/\p % 64+2<=(d.seg (p / 64).toNat).n:=by
 have N:=t.tri.pair p h
 have f:=N.used.1.1
 have e:=N.even
 have a:(p+1) / 64=p / 64:=by omega
 have b:d.used p:=t.used.2 ⟨N.used.1,N.out⟩
 have c:d.used (p+1):=t.used.2 ⟨N.used.2,by rw[a];exact N.out⟩
 have hk:=t.kind b
 refine⟨by unfold szE;rw[if_neg (by rw[N.out];decide)];exact N.sz,hk.1.trans N.kind,hk.2.trans N.gen,b,c,e,?_⟩
 have:=c.2.2
 rw[a]at this
 omega
theorem eS.sound{M:Sp}{m:Mem}(t:eS Z g F0 fw al sz i s M m):gG m (szE Z.O sz):=by
 have S:=t.S
 have e: ∀c,szE Z.O sz c≠0->szE Z.O sz c=sz c/\Z.O (c / 64).toNat=false:=λc y=>by
  unfold szE at y⊢
  by_cases q:Z.O (c / 64).toNat=true
  ·rw[if_pos q]at y;exact absurd rfl y
  ·rw[if_neg q];exact⟨rfl,by simpa using q⟩
 refine⟨λb d=>?_,λa b u d v=>?_,λb d hk=>?_,λb d hk=>?_,λx C hk=>?_⟩
 ·rcases t.thing d with q | ⟨a,n,f,h,r,o,_⟩
  ·obtain⟨p,_,_,E,K,F,L⟩:=t.pair q
   rw[p];exact⟨E,L⟩
  ·rw[f]
   exact⟨by simpa using(o 0 (by omega)).1,r⟩
 ·rw[(e a u).1]
  exact t.tri.apart a b (by rw[<-(e a u).1];exact u) (by rw[<-(e b d).1];exact d) v
 ·rcases t.thing d with q | ⟨a,n,f,h,r,o,B,_⟩
  ·obtain⟨p,_,_,E,K,F,_⟩:=t.pair q
   exact⟨p,F⟩
  ·rw[h]at hk
   exact⟨by rw[f];exact(S.sound.two a n hk).1,B hk⟩
 ·rcases t.thing d with q | ⟨a,n,f,h,r,o,B,_⟩
  ·obtain⟨p,N,_⟩:=t.pair q
   omega
  rw[h]at hk⊢
  obtain⟨D,I,J⟩:=S.sound.obj a n hk
  have j:=o 0 (by omega)
  have A:Was0 Z fw b (Z.m.get a):=by simpa using j.2.1
  have l:m.used b:=by simpa using j.1
  have z:Z.q b=none:=by
   cases G:Z.q b with
   | none=>rfl
   | some w=>
    have:=(t.tri.qok b w G).head (by rw[<-(e b d).1];exact d)
    have:=(t.kind l).1
    omega
  have H:Was Z fw b (Z.m.get a):=.inr ⟨z,A⟩
  have k:m.get b=Z.m.get a:=by
   rcases t.get H with⟨q,_⟩ | ⟨_,q,_⟩
   ·rw[q]
    split
    ·rfl
    ·exact ft (jh D _)
   ·rw[<-(t.kind l).1,h]at q;omega
  rw[k,f]
  exact⟨D,I,J⟩
 ·rw[(t.kind C).1]at hk
  exact(t.word C hk).2.1
theorem eS.young{l:Sp}(t:eS Z g F0 fw al sz i s l d){x:Int}(j:d.used x)(hk:s.mem.kAt x≠3)(f:d.gAt x=Z.T): ¬((d.genOf (d.get x)).2=true/\(d.genOf (d.get x)).1<d.gAt x):=by
 obtain⟨_,_,e⟩:=t.word j hk
 rintro⟨c,a⟩
 unfold Mem.genOf at c a
 by_cases b:fC (d.get x)/\d.get x % 8≠6
 ·rw[if_pos b]at c a
  have h:isTag (d.get x):=by have:=b.1.1;have:=b.2;unfold isTag;omega
  obtain⟨k,m⟩:=e h
  simp only[if_pos k.2.1]at a
  rw[f]at a
  have n:d.gAt (d.get x / 8)<Z.T:=a
  omega
 ·rw[if_neg b]at c;cases c
theorem eS.marks{s':Sp}(t:eS Z g F0 fw al sz i s s' d):jG d:=by
 have S:=t.S
 intro x z hk f j
 obtain⟨v,hv⟩:=t.was z
 have l:=t.kind z
 have h:s.mem.kAt x≠3:=by rw[<-l.1];exact hk
 obtain⟨y,I⟩:=t.used.1 z
 have x0:=y.1
 have M:(((x / 64).toNat:Nat):Int)=x / 64:=by omega
 have N:(((x % 64 / 16).toNat:Nat):Int)=x % 64 / 16:=by omega
 have C:=t.ended.cards (x / 64).toNat (x % 64 / 16).toNat I
 by_cases G:(x / 64,x % 64 / 16)∈i.cards
 ·-- its card was marked anew
  rw[M,N,if_pos ⟨G,t.broke.same.has.2 y.2.1,by omega⟩]at C
  rw[C]
  unfold Mem.mark1
  have e:x / 64*64+x % 64 / 16*16+(((x % 64 % 16).toNat:Nat):Int)=x:=by omega
  have hN:=z.2.2
  have:=Mem.markOf_le d (x / 64) (x % 64 / 16) (d.cardLen (x / 64) (x % 64 / 16)) (x % 64 % 16).toNat (by unfold Mem.cardLen;omega)
  rw[e]at this
  exact this f hk j
 rw[if_neg (λq=>G (by
  have:=q.1
  rw[M,N]at this
  exact this))]at C
 have p:(d.seg (x / 64).toNat).cards (x % 64 / 16).toNat=(s.mem.seg (x / 64).toNat).cards (x % 64 / 16).toNat:=by rw[C,(t.broke.same.seg _).2.2.2.2]
 rcases hv with P | ⟨J,hz | hn⟩
 ·-- it was written
  have W:=t.tri.qok x v P
  have Y:d.get x=v:=by
   rcases t.get (.inl P:Was Z fw x v)with⟨E,_⟩ | ⟨_,q,U⟩
   ·rw[E,if_neg h,ft W.young]
   ·have:=W.strong.2.resolve_left (λr=>r q);omega
  rw[Y]at f j⊢
  obtain⟨_,B⟩:=t.goodY W.good W.young
  have u:d.genOf v=s.mem.genOf v:=by
   unfold Mem.genOf
   by_cases c:fC v/\v % 8≠6
   ·have D:isTag v:=by have:=c.1.1;have:=c.2;unfold isTag;omega
    have hm:=(B D).1
    obtain⟨A,u2⟩:=t.used.1 hm
    rw[if_pos c,if_pos c,if_pos hm.2.1,if_pos A.2.1,zX hm.2.1,zX A.2.1]
    have:=(t.kind hm).2
    unfold Mem.gAt at this
    rw[this]
   ·rw[if_neg c,if_neg c]
  rw[u]at f j⊢
  rw[l.2]at j
  rw[p]
  exact W.mark f j
 ·obtain⟨n,_,z3⟩:=hz
  have a0:=S.lt n
  have o:Z.m.kAt x≠3:=by rw[<-(t.tri.kAt n).1];exact h
  have K:=S.sound.good x n o
  have m: ¬aG Z.O (Z.m.get x):=λq=>G (t.begun.dirty S t.marked n I o q K)
  have k:(d.seg (x / 64).toNat).cards (x % 64 / 16).toNat<=(Z.m.seg (x / 64).toNat).cards (x % 64 / 16).toNat:=by
   rw[p];exact t.tri.heads.cards _ n.2.1.2.2 _
  refine Int.le_trans k ?_
  have vw:aC (Z.m.get x):=(S.ok.seg _).words _
  rcases t.get (.inr ⟨J,.inl ⟨n,I,rfl⟩⟩:Was Z fw x (Z.m.get x))with⟨E,U⟩ | ⟨q,_⟩
  ·rw[if_neg h,ft m]at E
   rw[E]at f j⊢
   obtain⟨_,B,_⟩:=t.good vw K (U h)
   rw[ft m]at B
   by_cases c:fC (Z.m.get x)/\Z.m.get x % 8≠6
   ·have D:isTag (Z.m.get x):=by have:=c.1.1;have:=c.2;unfold isTag;omega
    obtain⟨R,_,_,_⟩:=B D
    obtain⟨V,d2⟩:=K.2 D
    obtain⟨A,_⟩:=S.sound.used _ V
    have L:=lZ c.1 c.2 R.2.1
    have F:=lZ c.1 c.2 A.2.1
    have w:d.gAt (Z.m.get x / 8)=Z.m.gAt (Z.m.get x / 8):=((t.kind R).2).trans (t.tri.kAt A).2
    have H:d.gAt x=Z.m.gAt x:=l.2.trans (t.tri.kAt n).2
    have:=t.marked x n o (by rw[F]) (by rw[F];rw[L,H,w]at j;exact j)
    rw[F]at this
    rw[L,w];exact this
   ·unfold Mem.genOf at f
    rw[if_neg c]at f;cases f
  ·rw[q]at f
   unfold Mem.genOf at f
   rw[if_neg (by decide)]at f;cases f
 ·obtain⟨a,b,ag,n1,n2,n3,n4⟩:=hn
  have Q:=(t.tri.img a b n1).2
  have hf:=Q.fit
  have X:d.gAt x=Z.T:=by
   rw[l.2]
   unfold Mem.gAt
   rw[n3,show(b+(ag:Int)) / 64=b / 64 by omega];exact Q.gen
  exact absurd ⟨f,j⟩ (t.young z h X)
end
structure Inv (s:Sp) (sz:Int->Nat):Prop where
 ok:SpOK s
 even:s.mem.Even
 sound:gG s.mem sz
 marked:jG s.mem
theorem nu(b: ∀k,j.has k ↔ d.has k)(a: ∀i,(j.seg i).gen=(d.seg i).gen)(w:Int):j.genOf w=d.genOf w:=by
 unfold Mem.genOf
 rw[a]
 by_cases q:fC w/\w % 8≠6
 ·rw[if_pos q,if_pos q]
  have e:=b (w / 8 / 64)
  by_cases h:d.has (w / 8 / 64)
  ·rw[if_pos h,if_pos (e.2 h),zX h,zX (e.2 h)]
  ·rw[if_neg h,if_neg (λr=>h (e.1 r)),zQ h,zQ (λr=>h (e.1 r))]
 ·rw[if_neg q,if_neg q]
theorem og{v:Int}(h: ¬isTag v):d.genOf v=(0,false):=by
 unfold Mem.genOf
 rw[if_neg (λq=>h (by have:=q.1.1;have:=q.2;unfold isTag;omega))]
theorem nw{sz:Int->Nat}(h:gG d sz)(b:eK d j){v:Int}(f:Good d sz v):j.genOf v=d.genOf v:=by
 by_cases c:isTag v
 ·obtain⟨e,_⟩:=h.used _ (f.2 c).1
  have a:=e.2.1
  unfold Mem.genOf
  by_cases q:fC v/\v % 8≠6
  ·rw[if_pos q,if_pos q,if_pos a,if_pos (b.has a),zX a,zX (b.has a),(b.seg _ a.2.2).1]
  ·rw[if_neg q,if_neg q]
 ·rw[og c,og c]
theorem l6(a:aX d)(v:Int):0<=(d.genOf v).1/\(d.genOf v).1<=4:=by
 unfold Mem.genOf
 split
 ·split
  ·exact(a.seg _).gen
  ·exact⟨Int.le_refl _,by show(0:Int)<=4;decide⟩
 ·exact⟨Int.le_refl _,by show(0:Int)<=4;decide⟩
theorem lg{s:Sp}{g k n:Int}(h:(s.alloc g k n).2.2=0):may g k n:=by
 by_cases hm:may g k n
 ·exact hm
 ·unfold Sp.alloc at h
  rw[if_pos hm]at h
  exact absurd h (by show ¬((1:Int)=0);decide)
def Lift(m:Mem)(sz:Int->Nat)(m':Mem)(sz':Int->Nat):Prop:= ∀v,Good m sz v->Good m' sz' v
theorem Lift.refl(m:Mem)(sz:Int->Nat):Lift m sz m sz:=λ_ h=>h
theorem Lift.trans{a b c:Mem}{x y z:Int->Nat}(h:Lift a x b y)(k:Lift b y c z):Lift a x c z:=λv q=>k v (h v q)
def FW(v:Int):Prop:=v % 8=0\/(v % 8=4/\mayW v=true)\/isTag v
structure Snd (m:Mem) (sz:Int->Nat):Prop where
 cover: ∀x,m.used x-> ∃(a:Int) (i:Nat),sz a≠0/\i<sz a/\x=a+i
 fine: ∀a (i:Nat),sz a≠0->i<sz a->m.kAt a≠3->(2<=m.kAt a->i≠0)->FW (m.get (a+i))
def NoWk(m:Mem):Prop:= ∀x,m.used x->m.kAt x≠1
structure Kp (m:Mem) (sz:Int->Nat) (m':Mem) (sz':Int->Nat) (F W:Prop):Prop where
 snd:F->Snd m sz->Snd m' sz'
 nowk:W->NoWk m->NoWk m'
theorem Kp.refl{sz:Int->Nat}{F W:Prop}:Kp d sz d sz F W:=⟨λ_ h=>h,λ_ h=>h⟩
theorem Kp.trans{m c d:Mem}{sz a b:Int->Nat}{F W:Prop}(h:Kp m sz c a F W)(k:Kp c a d b F W):Kp m sz d b F W:=⟨λf q=>k.snd f (h.snd f q),λw q=>k.nowk w (h.nowk w q)⟩
theorem Kp.mono{m d:Mem}{sz a:Int->Nat}{F W b c:Prop}(h:Kp m sz d a F W)(f:b->F)(w:c->W):Kp m sz d a b c:=⟨λq=>h.snd (f q),λq=>h.nowk (w q)⟩
theorem Kp.store{m:Mem}{sz:Int->Nat}{x v:Int}(p:0<=x)(n: ∀a,sz a≠0->m.used a):Kp m sz (m.store x v).1 sz (FW v) True:=by
 by_cases k:m.used x
 case neg=>
  have e:m.store x v=(m,18):=by unfold Mem.store;rw[if_neg k]
  rw[e];exact .refl
 have b: ∀y,(m.store x v).1.kAt y=m.kAt y:=λy=>(Mem.store_seg _).2.1
 refine⟨λl S=>⟨λy c=>S.cover y (Mem.store_used.1 c),λa i d o j f=>?_⟩,λ_ h y c=>?_⟩
 ·rw[b]at j f
  have:=(n a d).1
  rw[Mem.store_get k _ (by omega)]
  split
  ·exact l
  ·exact S.fine a i d o j f
 ·rw[b];exact h y (Mem.store_used.1 c)
theorem Inv.putF{s:Sp}{sz:Int->Nat}(I:Inv s sz){d f:Int}{j:List Int}(b2:0<=d/\d<=3)(ht:f=tagK d)(hw: ∀w∈j,aC w)(hP:d<=1->j.length=2)(hO:2<=d-> ∃R fs,j=R::fs/\gJ R/\rawK (hk R)=d/\hn R=fs.length)
  (hG:d≠3-> ∀w∈j,Good s.mem sz w):
  ∃M,Inv (s.put d f j).1 M/\Lift s.mem sz (s.put d f j).1.mem M/\((s.put d f j).2.2=0->aC (s.put d f j).2.1/\Good (s.put d f j).1.mem M (s.put d f j).2.1)/\(s.put d f j).1.cf=s.cf/\Kp s.mem sz (s.put d f j).1.mem M (∀(i:Nat) (h:i<j.length),d≠3->(2<=d->i≠0)->FW j[i]) (d≠1):=by
 have ag:f=1\/f=2\/f=3\/f=6:=by
  rw[ht];unfold tagK
  split
  ·exact .inl rfl
  split
  ·exact .inr (.inl rfl)
  ·exact .inr (.inr (.inl rfl))
 by_cases hf:(s.alloc 0 d j.length).2.2=0
 case neg=>
  have e:s.put d f j=(s,0,(s.alloc 0 d j.length).2.2):=by unfold Sp.put;rw[if_neg hf]
  rw[e]
  exact⟨sz,I,Lift.refl _ _,λh=>absurd h hf,rfl,.refl⟩
 have O:=lg hf
 obtain⟨a,e1,F,e2,a3,au,_⟩:=Sp.put_ok I.ok O ag hw hf
 obtain⟨kp,N,U⟩:=F.lay I.ok.mem
 have L:=aY.sets j (s.alloc 0 d j.length).1.mem a
 obtain⟨ev,a9⟩:=F.even I.even (λh=>by rw[hP h];rfl)
 have Y:=Sp.alloc_cf s 0 d j.length
 have a0:(s.put d f j).1.cf=s.cf:=by
  unfold Sp.cf at Y⊢
  rw[e2,L.count,L.free];exact Y
 rw[e1]
 generalize (s.put d f j).1=s2 at*
 generalize (s.alloc 0 d j.length).1.mem=m1 at*
 rw[<-e2]at N U kp L
 generalize C:s2.mem=z at*
 obtain⟨bb,bc,a2⟩:=F.addr
 have b3:1<=j.length/\j.length<=63:=by have:=O.2;omega
 have R:eK s.mem z:=(F.heads (by omega)).trans L.heads
 have T: ∀x,z.used x ↔ s.mem.used x\/(a<=x/\x<a+j.length):=λx=>by rw[L.used,F.usedIff (by omega)]
 have o: ∀x,s.mem.used x->z.get x=s.mem.get x:=λx A=>(kp.used x A).2.1
 have y: ∀x,s.mem.used x->z.kAt x=s.mem.kAt x/\z.gAt x=s.mem.gAt x:=λx A=>⟨(kp.used x A).2.2.1,(kp.used x A).2.2.2.1⟩
 have u: ∀i:Nat,(h:i<j.length)->z.get (a+i)=j[i]:=λi h=>by
  rw[N _ (by omega),if_pos ⟨by omega,by omega⟩,show(a+(i:Int)-a).toNat=i by omega]
  simp[h]
 have K: ∀i:Nat,i<j.length->z.kAt (a+i)=d/\z.gAt (a+i)=0:=λi h=>by
  have a8:(a+(i:Int)) / 64=a / 64:=by omega
  unfold Mem.kAt Mem.gAt
  rw[a8,(L.seg _).2.1,(L.seg _).1]
  exact⟨F.new.2.2.1,F.new.2.1⟩
 have a1: ∀i:Nat,i<j.length-> ¬s.mem.used (a+i):=λi p l=>F.not_in l ⟨by omega,by omega⟩
 have D: ¬s.mem.used a:=by have:=a1 0 (by omega);simpa using this
 have V: ∀b,sz b≠0->b≠a:=λb t e=>D (e▸(I.sound.used b t).1)
 have S:=I.sound
 have H: ∀x,z.used x-> ¬s.mem.used x-> ∃i:Nat,i<j.length/\x=a+i:=λx A hn=>by
  rcases(T x).1 A with q | q
  ·exact absurd q hn
  ·exact⟨(x-a).toNat,by omega,by omega⟩
 have J:z.kAt a=d:=by simpa using(K 0 (by omega)).1
 have ac:z.get a=j[0]'(by omega):=by simpa using u 0 (by omega)
 have E:Lift s.mem sz z (λx=>if x=a then j.length else sz x):=λv hv=>⟨hv.1,λah=>by
  obtain⟨Q,B⟩:=hv.2 ah
  show(if v / 8=a then j.length else sz (v / 8))≠0/\_
  rw[if_neg (V _ Q),(y _ (S.used _ Q).1).1]
  exact⟨Q,B⟩⟩
 refine⟨λx=>if x=a then j.length else sz x,⟨a3,C▸L.even ev,?_,?_⟩,C▸E,λ_=>⟨⟨by show 0<=a*8+f;omega,by show a*8+f<_;omega⟩,?_⟩,a0,?_⟩
 ·-- sound
  rw[C]
  refine⟨λb t=>?_,λb P t G ae=>?_,λb t m=>?_,λb t m=>?_,λx A r=>?_⟩
  ·by_cases e:b=a
   ·subst e
    rw[if_pos rfl]
    refine⟨(T b).2 (.inr ⟨by omega,by omega⟩),?_⟩
    rw[(L.seg _).2.2.1,F.new.2.2.2];omega
   ·rw[if_neg e]at t⊢
    obtain⟨u1,u2⟩:=S.used b t
    have:=(kp.used b u1).2.2.2.2
    exact⟨(T b).2 (.inl u1),by omega⟩
  ·by_cases e:b=a
   ·subst e
    rw[if_pos rfl]
    rw[if_neg (by omega)]at G
    have:=F.not_in (S.used P G).1
    omega
   ·rw[if_neg e]at t⊢
    by_cases e':P=a
    ·subst e'
     rcases Int.lt_or_le P (b+sz b)with q | q
     ·exfalso
      have X:=S.usedAt t (i:=(P-b).toNat) (by omega) (λk=>(I.ok.mem.seg k).n.2)
      rw[show b+(((P-b).toNat:Nat):Int)=P by omega]at X
      exact D X.1
     ·exact q
    ·rw[if_neg e']at G
     exact S.apart b P t G ae
  ·by_cases e:b=a
   ·subst e
    rw[if_pos rfl]
    rw[J]at m
    exact⟨hP m,a9 m⟩
   ·rw[if_neg e]at t⊢
    rw[(y b (S.used b t).1).1]at m
    exact S.two b t m
  ·by_cases e:b=a
   ·subst e
    rw[if_pos rfl]
    rw[J]at m⊢
    obtain⟨ab,fs,e3,o1,o2,o3⟩:=hO m
    have:z.get b=ab:=by rw[ac];simp[e3]
    rw[this]
    refine⟨o1,o2.symm,?_⟩
    rw[e3,o3];simp
   ·rw[if_neg e]at t⊢
    have u1:=(S.used b t).1
    rw[(y b u1).1]at m⊢
    rw[o b u1]
    exact S.obj b t m
  ·by_cases l:s.mem.used x
   ·rw[(y x l).1]at r
    rw[o x l]
    exact E _ (S.good x l r)
   ·obtain⟨i,p,rfl⟩:=H x A l
    rw[(K i p).1]at r
    rw[u i p]
    exact E _ (hG r _ (List.getElem_mem p))
 ·-- marked
  rw[C]
  intro x A r Q B
  by_cases l:s.mem.used x
  ·obtain⟨k1,k2⟩:=y x l
   rw[o x l]at Q B⊢
   rw[k1]at r
   have hg:=S.good x l r
   have e:=nw S R hg
   rw[e]at Q B⊢
   rw[k2]at B
   rw[R.cards _ l.2.1.2.2]
   exact I.marked x l r Q B
  ·obtain⟨i,p,rfl⟩:=H x A l
   rw[(K i p).2]at B
   have:=(l6 (C▸a3.mem) (z.get (a+i))).1
   omega
 ·-- the new thing
  show Good z _ (a*8+f)
  have e8:(a*8+f) / 8=a:=by omega
  have em:(a*8+f) % 8=f:=by omega
  have h6:f≠6:=by rw[ht];unfold tagK;split<;>(try split)<;>decide
  refine⟨by rw[em];exact h6,λ_=>?_⟩
  rw[e8,em,J]
  show(if a=a then j.length else sz a)≠0/\_
  rw[if_pos rfl]
  exact⟨by omega,ht⟩
 ·-- what audits look for
  refine⟨λhF hS=>⟨λx A=>?_,λc i W p h3 B=>?_⟩,λhW hN x A=>?_⟩
  ·by_cases l:s.mem.used x
   ·obtain⟨c,i,c1,c2,c3⟩:=hS.cover x l
    exact⟨c,i,by show(if c=a then j.length else sz c)≠0;rw[if_neg (V c c1)];exact c1,by show i< (if c=a then j.length else sz c);rw[if_neg (V c c1)];exact c2,c3⟩
   ·obtain⟨i,p,e⟩:=H x A l
    exact⟨a,i,by show(if a=a then j.length else sz a)≠0;rw[if_pos rfl];omega,by show i< (if a=a then j.length else sz a);rw[if_pos rfl];exact p,e⟩
  ·replace W:(if c=a then j.length else sz c)≠0:=W
   replace p:i< (if c=a then j.length else sz c):=p
   by_cases e:c=a
   ·subst e
    rw[if_pos rfl]at p
    rw[J]at h3 B
    rw[u i p]
    exact hF i p h3 B
   ·rw[if_neg e]at W p
    have l:=S.usedAt W p (λk=>(I.ok.mem.seg k).n.2)
    rw[(y c (S.used c W).1).1]at h3 B
    rw[o _ l.1]
    exact hS.fine c i W p h3 B
  ·by_cases l:s.mem.used x
   ·rw[(y x l).1];exact hN x l
   ·obtain⟨i,p,rfl⟩:=H x A l
    rw[(K i p).1];exact hW
theorem Inv.put{s:Sp}{sz:Int->Nat}(I:Inv s sz){kind tag:Int}{ws:List Int}(c:0<=kind/\kind<=3)(m:tag=tagK kind)(n: ∀w∈ws,aC w)(l:kind<=1->ws.length=2)(k:2<=kind-> ∃b d,ws=b::d/\gJ b/\rawK (hk b)=kind/\hn b=d.length)
  (j:kind≠3-> ∀w∈ws,Good s.mem sz w):
  ∃a,Inv (s.put kind tag ws).1 a/\Lift s.mem sz (s.put kind tag ws).1.mem a/\((s.put kind tag ws).2.2=0->aC (s.put kind tag ws).2.1/\Good (s.put kind tag ws).1.mem a (s.put kind tag ws).2.1)/\(s.put kind tag ws).1.cf=s.cf:=by
 obtain⟨a,e,f,h,i,_⟩:=I.putF c m n l k j
 exact⟨a,e,f,h,i⟩
theorem Mem.store_cards(h:aX d){x v:Int}(f:d.used x)(l:aC v)(j c:Nat):((d.store x v).1.seg j).cards c=if j=(x / 64).toNat/\c=(x % 64 / 16).toNat then d.younger (d.seg j) v ((d.seg j).cards c)else(d.seg j).cards c:=by
 have t:=f.1
 have a:=aY.set d x v
 have n:aX (d.set x v):=h.set x l
 have m:(d.set x v).younger ((d.set x v).seg (x / 64).toNat) v (((d.set x v).seg (x / 64).toNat).cards (x % 64 / 16).toNat)=d.younger (d.seg (x / 64).toNat) v ((d.seg (x / 64).toNat).cards (x % 64 / 16).toNat):=by
  unfold Mem.younger
  rw[nu (λk=>a.has) (λi=>(a.seg i).1),(a.seg _).1,(a.seg _).2.1,(a.seg _).2.2.2.2]
 have r:0<=d.younger (d.seg (x / 64).toNat) v ((d.seg (x / 64).toNat).cards (x % 64 / 16).toNat)/\d.younger (d.seg (x / 64).toNat) v ((d.seg (x / 64).toNat).cards (x % 64 / 16).toNat)<=5:=by
  have o:=(h.seg (x / 64).toNat).cards (x % 64 / 16).toNat
  have p:=l6 h v
  unfold Mem.younger
  split<;>omega
 unfold Mem.store
 rw[if_pos f,m]
 unfold Mem.mark
 rw[if_neg (λq=>q (a.has.2 f.2.1)),if_neg (by omega)]
 show(((d.set x v).upd _ _).seg j).cards c=_
 rw[Mem.upd_seg]
 by_cases b:j=(x / 64).toNat
 ·rw[if_pos b]
  show(if c=(x % 64 / 16).toNat then _ else((d.set x v).seg (x / 64).toNat).cards c)=_
  by_cases e:c=(x % 64 / 16).toNat
  ·rw[if_pos e,if_pos ⟨b,e⟩,b,e]
  ·rw[if_neg e,if_neg (λq=>e q.2),b,(a.seg _).2.2.2.2]
 ·rw[if_neg b,if_neg (λq=>b q.1),(a.seg _).2.2.2.2]
theorem Inv.store{s:Sp}{sz:Int->Nat}(I:Inv s sz){x v:Int}(t:aC v)(z:Good s.mem sz v)(A: ∀a,sz a≠0->2<=s.mem.kAt a->x≠a):Inv {s with mem:=(s.mem.store x v).1} sz/\Lift s.mem sz (s.mem.store x v).1 sz/\({s with mem:=(s.mem.store x v).1}:Sp).cf=s.cf:=by
 by_cases p:s.mem.used x
 case neg=>
  have e:s.mem.store x v=(s.mem,18):=by unfold Mem.store;rw[if_neg p]
  rw[e];exact⟨I,Lift.refl _ _,rfl⟩
 have S:=I.sound
 have C:=p.1
 have c: ∀y,0<=y->(s.mem.store x v).1.get y=if y=x then v else s.mem.get y:=λy j=>Mem.store_get p y j
 have d: ∀y,(s.mem.store x v).1.kAt y=s.mem.kAt y:=λy=>(Mem.store_seg _).2.1
 have r: ∀y,(s.mem.store x v).1.gAt y=s.mem.gAt y:=λy=>(Mem.store_seg _).1
 have o: ∀w,(s.mem.store x v).1.genOf w=s.mem.genOf w:=λw=>nu (λk=>Mem.store_has) (λi=>(Mem.store_seg i).1) w
 have f:Lift s.mem sz (s.mem.store x v).1 sz:=λw h=>⟨h.1,λB=>by rw[d];exact h.2 B⟩
 refine⟨⟨I.ok.store x t,I.even.store x v,?_,?_⟩,f,?_⟩
 ·show gG (s.mem.store x v).1 sz
  refine⟨λb n=>?_,S.apart,λb n hk=>S.two b n (by rw[<-d];exact hk),λb n hk=>?_,λy j hk=>?_⟩
  ·rw[Mem.store_used,(Mem.store_seg _).2.2];exact S.used b n
  ·rw[d]at hk⊢
   have u:=(S.used b n).1.1
   rw[c b u,if_neg (λe=>A b n hk e.symm)]
   exact S.obj b n hk
  ·rw[Mem.store_used]at j
   rw[d]at hk
   rw[c y j.1]
   by_cases e:y=x
   ·rw[if_pos e];exact f _ z
   ·rw[if_neg e];exact f _ (S.good y j hk)
 ·show jG (s.mem.store x v).1
  intro y j hk m l
  rw[Mem.store_used]at j
  rw[d]at hk
  rw[o]at m l⊢
  rw[r]at l
  rw[c y j.1]at m l⊢
  rw[Mem.store_cards I.ok.mem p t]
  by_cases q:(y / 64).toNat=(x / 64).toNat/\(y % 64 / 16).toNat=(x % 64 / 16).toNat
  ·rw[if_pos q]
   by_cases e:y=x
   ·rw[if_pos e]at m l⊢
    unfold Mem.younger
    rw[if_pos ⟨m,hk,l⟩]
    exact Int.min_le_right _ _
   ·rw[if_neg e]at m l⊢
    exact Int.le_trans (Mem.younger_le _ _ _ _) (I.marked y j hk m l)
  ·rw[if_neg q]
   have e:y≠x:=λe=>q (by rw[e];exact⟨rfl,rfl⟩)
   rw[if_neg e]at m l⊢
   exact I.marked y j hk m l
 ·unfold Sp.cf
  show(s.mem.store x v).1.count+(s.mem.store x v).1.free=_
  rw[Mem.store_lim.2.2,Mem.store_lim.2.1]
variable{d:Int->Nat}
structure Mv (m:Mem) (sz:Int->Nat) (m':Mem) (sz':Int->Nat) (ws:Int->Prop) (E:Prop):Prop where
 kind: ∀x,m.used x->m'.used x/\m'.kAt x=m.kAt x
 get:E-> ∀x,m.used x->m'.get x=m.get x\/ ∃w,ws w/\isTag w/\Good m sz w/\ ∃i:Nat,i<sz (w / 8)/\x=w / 8+i/\(2<=m.kAt (w / 8)->hk (m.get (w / 8))≠10/\i≠0)
 old: ∀a,sz a≠0->sz' a=sz a
 new:E-> ∀a,sz' a≠0->sz a≠0\/(¬m.used a/\(2<=m'.kAt a->hk (m'.get a)=10->hn (m'.get a)=2/\m'.get (a+1)=20/\m'.get (a+2)=20))
theorem Mv.refl{m:Mem}{a:Int->Prop}{E:Prop}:Mv m d m d a E:=⟨λ_ h=>⟨h,rfl⟩,λ_ _ _=> .inl rfl,λ_ _=>rfl,λ_ _ h=> .inl h⟩
theorem Mv.mono{m c:Mem}{a:Int->Nat}{ws ws':Int->Prop}{E E':Prop}(h:Mv m d c a ws E)(f: ∀w,isTag w->ws w->ws' w)(e:E'->E):Mv m d c a ws' E':=
 ⟨h.kind,λq x j=>(h.get (e q) x j).imp id (λ⟨w,g,b,i⟩=>⟨w,f w b g,b,i⟩),h.old,λq=>h.new (e q)⟩
theorem Mv.store{m:Mem}{w v:Int}{i:Nat}{E:Prop}(o: ∀a,d a≠0->m.used a)(n:isTag w)(k:Good m d w)(l:i<d (w / 8))(g:E->2<=m.kAt (w / 8)->hk (m.get (w / 8))≠10/\i≠0):Mv m d (m.store (w / 8+i) v).1 d (λu=>u=w) E:=by
 by_cases f:m.used (w / 8+i)
 case neg=>
  have e:m.store (w / 8+i) v=(m,18):=by unfold Mem.store;rw[if_neg f]
  rw[e];exact .refl
 have b: ∀y,(m.store (w / 8+i) v).1.kAt y=m.kAt y:=λy=>(Mem.store_seg _).2.1
 refine⟨λx c=>⟨Mem.store_used.2 c,b x⟩,λj x c=>?_,λ_ _=>rfl,λ_ _ h=> .inl h⟩
 rw[Mem.store_get f x c.1]
 by_cases e:x=w / 8+i
 ·exact .inr ⟨w,rfl,n,k,i,l,e,g j⟩
 ·rw[if_neg e];exact .inl rfl
theorem Inv.putM{s:Sp}(I:Inv s d){f g:Int}{j:List Int}(aZ:0<=f/\f<=3)(ht:g=tagK f)(hw: ∀w∈j,aC w)(hP:f<=1->j.length=2)(hO:2<=f-> ∃B M,j=B::M/\gJ B/\rawK (hk B)=f/\hn B=M.length)
  (hG:f≠3-> ∀w∈j,Good s.mem d w):
  ∃L,Inv (s.put f g j).1 L/\Lift s.mem d (s.put f g j).1.mem L/\((s.put f g j).2.2=0->aC (s.put f g j).2.1/\Good (s.put f g j).1.mem L (s.put f g j).2.1)/\(s.put f g j).1.cf=s.cf/\Mv s.mem d (s.put f g j).1.mem L (λ_=>False) (2<=f-> ∀B M,j=B::M->hk B=10->hn B=2/\M=[20,20]):=by
 have ah:g=1\/g=2\/g=3\/g=6:=by
  rw[ht];unfold tagK
  split
  ·exact .inl rfl
  split
  ·exact .inr (.inl rfl)
  ·exact .inr (.inr (.inl rfl))
 by_cases hf:(s.alloc 0 f j.length).2.2=0
 case neg=>
  have e:s.put f g j=(s,0,(s.alloc 0 f j.length).2.2):=by unfold Sp.put;rw[if_neg hf]
  rw[e]
  exact⟨d,I,Lift.refl _ _,λh=>absurd h hf,rfl,.refl⟩
 have O:=lg hf
 obtain⟨a,e1,E,e2,a8,aw,_⟩:=Sp.put_ok I.ok O ah hw hf
 obtain⟨kp,N,V⟩:=E.lay I.ok.mem
 have K:=aY.sets j (s.alloc 0 f j.length).1.mem a
 obtain⟨ev,ac⟩:=E.even I.even (λh=>by rw[hP h];rfl)
 have a1:=Sp.alloc_cf s 0 f j.length
 have a2:(s.put f g j).1.cf=s.cf:=by
  unfold Sp.cf at a1⊢
  rw[e2,K.count,K.free];exact a1
 rw[e1]
 generalize (s.put f g j).1=s2 at*
 generalize (s.alloc 0 f j.length).1.mem=m1 at*
 rw[<-e2]at N V kp K
 generalize C:s2.mem=t at*
 obtain⟨b9,ba,bb⟩:=E.addr
 have b0:1<=j.length/\j.length<=63:=by have:=O.2;omega
 have B:eK s.mem t:=(E.heads (by omega)).trans K.heads
 have J: ∀x,t.used x ↔ s.mem.used x\/(a<=x/\x<a+j.length):=λx=>by rw[K.used,E.usedIff (by omega)]
 have m: ∀x,s.mem.used x->t.get x=s.mem.get x:=λx y=>(kp.used x y).2.1
 have z: ∀x,s.mem.used x->t.kAt x=s.mem.kAt x/\t.gAt x=s.mem.gAt x:=λx y=>⟨(kp.used x y).2.2.1,(kp.used x y).2.2.2.1⟩
 have o: ∀i:Nat,(h:i<j.length)->t.get (a+i)=j[i]:=λi h=>by
  rw[N _ (by omega),if_pos ⟨by omega,by omega⟩,show(a+(i:Int)-a).toNat=i by omega]
  simp[h]
 have U: ∀i:Nat,i<j.length->t.kAt (a+i)=f/\t.gAt (a+i)=0:=λi h=>by
  have ab:(a+(i:Int)) / 64=a / 64:=by omega
  unfold Mem.kAt Mem.gAt
  rw[ab,(K.seg _).2.1,(K.seg _).1]
  exact⟨E.new.2.2.1,E.new.2.1⟩
 have a5: ∀i:Nat,i<j.length-> ¬s.mem.used (a+i):=λi Y A=>E.not_in A ⟨by omega,by omega⟩
 have u: ¬s.mem.used a:=by have:=a5 0 (by omega);simpa using this
 have a6: ∀b,d b≠0->b≠a:=λb r e=>u (e▸(I.sound.used b r).1)
 have S:=I.sound
 have a4: ∀x,t.used x-> ¬s.mem.used x-> ∃i:Nat,i<j.length/\x=a+i:=λx y hn=>by
  rcases(J x).1 y with q | q
  ·exact absurd q hn
  ·exact⟨(x-a).toNat,by omega,by omega⟩
 have H:t.kAt a=f:=by simpa using(U 0 (by omega)).1
 have a3:t.get a=j[0]'(by omega):=by simpa using o 0 (by omega)
 have D:Lift s.mem d t (λx=>if x=a then j.length else d x):=λv hv=>⟨hv.1,λai=>by
  obtain⟨Q,R⟩:=hv.2 ai
  show(if v / 8=a then j.length else d (v / 8))≠0/\_
  rw[if_neg (a6 _ Q),(z _ (S.used _ Q).1).1]
  exact⟨Q,R⟩⟩
 refine⟨λx=>if x=a then j.length else d x,⟨a8,C▸K.even ev,?_,?_⟩,C▸D,λ_=>⟨⟨by show 0<=a*8+g;omega,by show a*8+g<_;omega⟩,?_⟩,a2,?_⟩
 ·-- sound
  rw[C]
  refine⟨λb r=>?_,λb P r F af=>?_,λb r l=>?_,λb r l=>?_,λx y p=>?_⟩
  ·by_cases e:b=a
   ·subst e
    rw[if_pos rfl]
    refine⟨(J b).2 (.inr ⟨by omega,by omega⟩),?_⟩
    rw[(K.seg _).2.2.1,E.new.2.2.2];omega
   ·rw[if_neg e]at r⊢
    obtain⟨u1,u2⟩:=S.used b r
    have:=(kp.used b u1).2.2.2.2
    exact⟨(J b).2 (.inl u1),by omega⟩
  ·by_cases e:b=a
   ·subst e
    rw[if_pos rfl]
    rw[if_neg (by omega)]at F
    have:=E.not_in (S.used P F).1
    omega
   ·rw[if_neg e]at r⊢
    by_cases e':P=a
    ·subst e'
     rcases Int.lt_or_le P (b+d b)with q | q
     ·exfalso
      have a0:=S.usedAt r (i:=(P-b).toNat) (by omega) (λk=>(I.ok.mem.seg k).n.2)
      rw[show b+(((P-b).toNat:Nat):Int)=P by omega]at a0
      exact u a0.1
     ·exact q
    ·rw[if_neg e']at F
     exact S.apart b P r F af
  ·by_cases e:b=a
   ·subst e
    rw[if_pos rfl]
    rw[H]at l
    exact⟨hP l,ac l⟩
   ·rw[if_neg e]at r⊢
    rw[(z b (S.used b r).1).1]at l
    exact S.two b r l
  ·by_cases e:b=a
   ·subst e
    rw[if_pos rfl]
    rw[H]at l⊢
    obtain⟨G,M,W,o1,o2,o3⟩:=hO l
    have:t.get b=G:=by rw[a3];simp[W]
    rw[this]
    refine⟨o1,o2.symm,?_⟩
    rw[W,o3];simp
   ·rw[if_neg e]at r⊢
    have u1:=(S.used b r).1
    rw[(z b u1).1]at l⊢
    rw[m b u1]
    exact S.obj b r l
  ·by_cases A:s.mem.used x
   ·rw[(z x A).1]at p
    rw[m x A]
    exact D _ (S.good x A p)
   ·obtain⟨i,Y,rfl⟩:=a4 x y A
    rw[(U i Y).1]at p
    rw[o i Y]
    exact D _ (hG p _ (List.getElem_mem Y))
 ·-- marked
  rw[C]
  intro x y p Q R
  by_cases A:s.mem.used x
  ·obtain⟨k1,k2⟩:=z x A
   rw[m x A]at Q R⊢
   rw[k1]at p
   have hg:=S.good x A p
   have e:=nw S B hg
   rw[e]at Q R⊢
   rw[k2]at R
   rw[B.cards _ A.2.1.2.2]
   exact I.marked x A p Q R
  ·obtain⟨i,Y,rfl⟩:=a4 x y A
   rw[(U i Y).2]at R
   have:=(l6 (C▸a8.mem) (t.get (a+i))).1
   omega
 ·-- the new thing
  show Good t _ (a*8+g)
  have e8:(a*8+g) / 8=a:=by omega
  have em:(a*8+g) % 8=g:=by omega
  have h6:g≠6:=by rw[ht];unfold tagK;split<;>(try split)<;>decide
  refine⟨by rw[em];exact h6,λ_=>?_⟩
  rw[e8,em,H]
  show(if a=a then j.length else d a)≠0/\_
  rw[if_pos rfl]
  exact⟨by omega,ht⟩
 ·-- what is changed
  refine⟨λx y=>⟨(J x).2 (.inl y),(z x y).1⟩,λ_ x y=> .inl (m x y),λc X=>by show(if c=a then j.length else d c)=d c;rw[if_neg (a6 c X)],λhE c X=>?_⟩
  replace X:(if c=a then j.length else d c)≠0:=X
  by_cases e:c=a
  ·subst e
   right
   refine⟨u,λT Z=>?_⟩
   rw[H]at T
   obtain⟨G,M,W,o1,o2,o3⟩:=hO T
   have ae:t.get c=G:=by rw[a3];simp[W]
   rw[ae]at Z⊢
   obtain⟨q1,q2⟩:=hE T G M W Z
   subst q2
   subst W
   have r1:=o 1 (by simp)
   have r2:=o 2 (by simp)
   exact⟨q1,r1,r2⟩
  ·rw[if_neg e]at X;exact .inl X
