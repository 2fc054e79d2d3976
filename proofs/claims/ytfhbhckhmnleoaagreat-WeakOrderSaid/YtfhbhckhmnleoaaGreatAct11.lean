/-
 What is copied, and where to; what has become of each word by now. Proves nothing of any one statement.
-/
import Derived.Test.YtfhbhckhmnleoaaGreatGcB
import Derived.Test.YtfhbhckhmnleoaaGreatWord
import Derived.Test.YtfhbhckhmnleoaaGreatRows
import Derived.WalkKit
import Derived.ProofKit
import Derived.SizedLaws
import Derived.OpenShut
import Derived.ShutString
import Derived.JoinedCond
import Derived.Test.YtfhbhckhmnleoaaGreatOwn
set_option linter.unusedVariables false
set_option linter.unusedSimpArgs false
namespace Go.Proofs.YtfhbhckhmnleoaaGreat
open Go
variable{a b:Mem}
theorem Grown.usedIff{B g k n:Int}(c:Grown a b B n g k)(hn:0<=n){x:Int}:b.used x ↔ a.used x\/(B<=x/\x<B+n):=by
 obtain⟨t,u,v⟩:=c.addr
 obtain⟨j,w,y,q⟩:=c.new
 by_cases l:(x / 64).toNat=(B / 64).toNat
 ·unfold Mem.used Mem.has
  rw[l,q,c.limit]
  by_cases i:(a.seg (B / 64).toNat).taken=0
  ·have:=c.fresh i
   constructor
   ·rintro⟨e,d,f⟩;exact .inr (by omega)
   ·rintro(⟨e,⟨_,_,d⟩,_⟩ | h)
    ·exact absurd i d
    ·exact⟨by omega,⟨by omega,by omega,j⟩,by omega⟩
  ·obtain⟨z,A,r,_⟩:=c.old i
   rw[r]
   constructor
   ·rintro⟨e,⟨d,f,_⟩,m⟩
    by_cases p:x % 64<B % 64
    ·exact .inl ⟨e,⟨d,f,i⟩,p⟩
    ·exact .inr (by omega)
   ·rintro(⟨e,⟨d,f,_⟩,m⟩ | h)
    ·exact⟨e,⟨d,f,j⟩,by omega⟩
    ·exact⟨by omega,⟨by omega,by omega,j⟩,by omega⟩
 ·have o:=c.others _ l
  unfold Mem.used Mem.has
  rw[o,c.limit]
  constructor
  ·intro h;exact .inl h
  ·rintro(h | h)
   ·exact h
   ·exfalso;omega
theorem dt.used{m b:Mem}(h:dt m b){x:Int}(a:m.used x):b.used x:=⟨a.1,h.has a.2.1,by have:=(h.seg _ a.2.1.2.2).2.2.2;have:=a.2.2;omega⟩
structure dX (m m':Mem):Prop where
 limit:m'.limit=m.limit
 seg: ∀k,(m.seg k).taken≠0->(m'.seg k).gen=(m.seg k).gen/\(m'.seg k).kind=(m.seg k).kind/\(m'.seg k).taken=(m.seg k).taken/\(m.seg k).n<=(m'.seg k).n
 cards: ∀k,(m.seg k).taken≠0-> ∀c,(m'.seg k).cards c<=(m.seg k).cards c
theorem dt.l{m a:Mem}(h:dt m a):dX m a:=⟨h.limit,h.seg,λk hk c=>by rw[h.cards k hk];exact Int.le_refl _⟩
theorem dX.refl(m:Mem):dX m m:=(dt.refl m).l
theorem dX.trans{a b c:Mem}(h:dX a b)(k:dX b c):dX a c:=⟨k.limit.trans h.limit,λi d=>by
 obtain⟨f,j,e,l⟩:=h.seg i d
 obtain⟨m,n,o,p⟩:=k.seg i (by rw[e];exact d)
 exact⟨m.trans f,n.trans j,o.trans e,Int.le_trans l p⟩,λi d c=>Int.le_trans (k.cards i (by rw[(h.seg i d).2.2.1];exact d) c) (h.cards i d c)⟩
theorem dX.has(h:dX a b){k:Int}(hk:a.has k):b.has k:=⟨hk.1,by rw[h.limit];exact hk.2.1,by rw[(h.seg _ hk.2.2).2.2.1];exact hk.2.2⟩
theorem dX.used{m b:Mem}(h:dX m b){x:Int}(a:m.used x):b.used x:=⟨a.1,h.has a.2.1,by have:=(h.seg _ a.2.1.2.2).2.2.2;have:=a.2.2;omega⟩
theorem dX.kAt(h:dX a b){x:Int}(c:a.used x):b.kAt x=a.kAt x/\b.gAt x=a.gAt x:=⟨(h.seg _ c.2.1.2.2).2.1,(h.seg _ c.2.1.2.2).1⟩
theorem lg(d:dX a b){v:Int}(h:isTag v->a.used (v / 8)):b.genOf v=a.genOf v:=by
 unfold Mem.genOf
 by_cases q:dH v/\v % 8≠6
 ·have c:=(h (by have:=q.1.1;have:=q.2;unfold isTag;omega)).2.1
  rw[if_pos q,if_pos q,if_pos c,if_pos (d.has c),zX c,zX (d.has c),(d.seg _ c.2.2).1]
 ·rw[if_neg q,if_neg q]
theorem Sp.alloc_curS{s:Sp}(p:SpOK s){T k n:Int}(h:(s.alloc T k n).2.2=0)(j:Nat)(c:(s.alloc T k n).1.cur T.toNat j≠0):(s.alloc T k n).1.cur T.toNat j=s.cur T.toNat j\/((s.mem.seg ((s.alloc T k n).1.cur T.toNat j-1).toNat).taken=0/\((s.alloc T k n).1.cur T.toNat j-1).toNat<s.mem.limit):=by
 unfold Sp.alloc at*
 by_cases hm:may T k n
 case neg=>rw[if_pos hm]at h;exact absurd h (by show ¬((1:Int)=0);decide)
 rw[if_neg (λi=>i hm)]at h c⊢
 by_cases m:s.cur T.toNat k.toNat≠0/\(s.mem.bump (s.cur T.toNat k.toNat-1) n).2.2=0
 ·rw[if_pos m];exact .inl rfl
 rw[if_neg m]at h c⊢
 by_cases a:(s.mem.take T k).2.2=0
 case neg=>rw[if_neg a]at h;exact absurd h a
 rw[if_pos a]at c⊢
 have b:(s.mem.take T k).2.1=(s.mem.first:Int)/\s.mem.free≠0:=by
  unfold Mem.take at a⊢
  by_cases l:T<0\/4<T\/k<0\/3<k
  ·rw[if_pos l]at a;exact absurd a (by show ¬((1:Int)=0);decide)
  rw[if_neg l]at a⊢
  by_cases d:s.mem.free=0
  ·rw[if_pos d]at a;exact absurd a (by show ¬((2:Int)=0);decide)
  ·rw[if_neg d];exact⟨rfl,d⟩
 obtain⟨f,e⟩:=Mem.first_spec p.mem b.2
 show(if T.toNat=T.toNat/\j=k.toNat then(s.mem.take T k).2.1+1 else s.cur T.toNat j)=_\/((s.mem.seg ((if T.toNat=T.toNat/\j=k.toNat then(s.mem.take T k).2.1+1 else s.cur T.toNat j)-1).toNat).taken=0/\((if T.toNat=T.toNat/\j=k.toNat then(s.mem.take T k).2.1+1 else s.cur T.toNat j)-1).toNat<s.mem.limit)
 by_cases o:j=k.toNat
 ·right
  rw[if_pos ⟨rfl,o⟩,b.1,show((s.mem.first:Int)+1-1).toNat=s.mem.first by omega]
  exact⟨e,f⟩
 ·left;rw[if_neg (λi=>o i.2)]
theorem Sp.alloc_addr{s:Sp}(f:SpOK s){T k n:Int}(h:(s.alloc T k n).2.2=0):((s.alloc T k n).2.1 / 64).toNat=((s.alloc T k n).1.cur T.toNat k.toNat-1).toNat/\(s.alloc T k n).1.cur T.toNat k.toNat≠0:=by
 unfold Sp.alloc at*
 by_cases hm:may T k n
 case neg=>rw[if_pos hm]at h;exact absurd h (by show ¬((1:Int)=0);decide)
 rw[if_neg (λl=>l hm)]at h⊢
 have hn:1<=n/\n<=63:=by have:=hm.2;omega
 by_cases c:s.cur T.toNat k.toNat≠0/\(s.mem.bump (s.cur T.toNat k.toNat-1) n).2.2=0
 ·rw[if_pos c]
  obtain⟨a,i,j,d⟩:=Mem.bump_ok f.mem c.2
  refine⟨?_,c.1⟩
  show((s.mem.bump _ _).2.1 / 64).toNat=(s.cur T.toNat k.toNat-1).toNat
  rw[d]
  have:=(f.mem.seg (s.cur T.toNat k.toNat-1).toNat).n
  show(((s.cur T.toNat k.toNat-1)*64+_) / 64).toNat=_
  omega
 rw[if_neg c]at h⊢
 by_cases e:(s.mem.take T k).2.2=0
 case neg=>rw[if_neg e]at h;exact absurd h e
 rw[if_pos e]at h⊢
 have b:=f.mem.take T k
 simp only at h
 obtain⟨a,i,j,d⟩:=Mem.bump_ok b h
 have m:=(b.seg (s.mem.take T k).2.1.toNat).n
 have o:=a.1
 show(((s.mem.take T k).1.bump _ _).2.1 / 64).toNat=((if T.toNat=T.toNat/\k.toNat=k.toNat then(s.mem.take T k).2.1+1 else _)-1).toNat/\(if T.toNat=T.toNat/\k.toNat=k.toNat then(s.mem.take T k).2.1+1 else _)≠0
 rw[if_pos ⟨rfl,rfl⟩,d]
 show(((s.mem.take T k).2.1*64+_) / 64).toNat=_/\_
 exact⟨by omega,by omega⟩
structure aO (Z:TZ) (g F0:Int):Prop where
 ok:aV Z.m
 even:Z.m.Even
 sound:fD Z.m Z.sz
 old: ∀k:Nat,k<1024->(Z.O k=true ↔ Z.m.has k/\(Z.m.seg k).gen<=g)
 rng:0<=g/\g<4/\g<=Z.T/\Z.T<=g+1
 room:2*((Z.yk 0:Int)+Z.yk 1+Z.yk 2+Z.yk 3)+8+((Z.P.length / 32:Nat):Int)<=F0
 V: ∀v,Z.V v->aC v/\Good Z.m Z.sz v
def Was0(Z:TZ)(fw:Int->Option Int)(x v:Int):Prop:=(Z.m.used x/\Z.O (x / 64).toNat=false/\v=Z.m.get x)\/ ∃(a b:Int) (i:Nat),fw a=some b/\i<Z.sz a/\x=b+i/\v=Z.m.get (a+i)
def Was(Z:TZ)(fw:Int->Option Int)(x v:Int):Prop:=Z.q x=some v\/(Z.q x=none/\Was0 Z fw x v)
structure Img (Z:TZ) (s:Sp) (a b:Int):Prop where
 fit:b % 64+Z.sz a<=64/\0<=b
 here: ∀i:Nat,i<Z.sz a->s.mem.used (b+i)
 new: ∀i:Nat,i<Z.sz a-> ¬Z.m.used (b+i)
 gen:s.mem.gAt b=Z.T
 kind:s.mem.kAt b=Z.m.kAt a
 out:Z.O (b / 64).toNat=false
 even:Z.m.kAt a<=1->b % 2=0
structure NewP (Z:TZ) (s:Sp) (sz:Int->Nat) (p:Int):Prop where
 used:s.mem.used p/\s.mem.used (p+1)
 new: ¬Z.m.used p/\ ¬Z.m.used (p+1)
 gen:s.mem.gAt p=Z.T
 kind:s.mem.kAt p=0
 out:Z.O (p / 64).toNat=false
 even:p % 2=0
 sz:sz p=2
 q:Z.q p≠none/\Z.q (p+1)≠none
structure Wrt (Z:TZ) (s:Sp) (sz:Int->Nat) (x w:Int):Prop where
 used:s.mem.used x
 out:Z.O (x / 64).toNat=false
 strong:s.mem.strong x
 word:aC w
 young: ¬aF Z.O w
 good:Good s.mem sz w
 head:sz x≠0->s.mem.kAt x<=1
 mark:(s.mem.genOf w).2=true->(s.mem.genOf w).1<s.mem.gAt x->(s.mem.seg (x / 64).toNat).cards (x % 64 / 16).toNat<=(s.mem.genOf w).1
 tagged:isTag w\/w=20
theorem NewP.keep{Z:TZ}{s s':Sp}{sz a:Int->Nat}{p:Int}(h:NewP Z s sz p)(b:dX s.mem s'.mem)(c: ∀y,s.mem.used y->a y=sz y):NewP Z s' a p:=
 ⟨⟨b.used h.used.1,b.used h.used.2⟩,h.new,(b.kAt h.used.1).2.trans h.gen,(b.kAt h.used.1).1.trans h.kind,h.out,h.even,(c _ h.used.1).trans h.sz,h.q⟩
theorem Wrt.keep{Z:TZ}{s s':Sp}{sz b:Int->Nat}{x w:Int}(h:Wrt Z s sz x w)(a:dX s.mem s'.mem)(m: ∀y,sz y≠0->s.mem.used y)(e: ∀y,s.mem.used y->b y=sz y):Wrt Z s' b x w:=by
 obtain⟨f,n⟩:=a.kAt h.used
 have c:isTag w->s.mem.used (w / 8):=λq=>m _ (h.good.2 q).1
 have l:=lg a c
 refine⟨a.used h.used,h.out,?_,h.word,h.young,⟨h.good.1,λq=>?_⟩,λq=>?_,λi d=>?_,h.tagged⟩
 ·have:=h.strong;unfold Mem.strong at*;rw[f];exact this
 ·obtain⟨j,k⟩:=h.good.2 q
  rw[e _ (c q),(a.kAt (c q)).1];exact⟨j,k⟩
 ·rw[e _ h.used]at q;rw[f];exact h.head q
 ·rw[l]at i d⊢
  rw[n]at d
  exact Int.le_trans (a.cards _ h.used.2.1.2.2 _) (h.mark i d)
structure Tri (Z:TZ) (F0:Int) (fw:Int->Option Int) (al:List Int) (s:Sp) (sz:Int->Nat):Prop where
 ok:SpOK s
 even:s.mem.Even
 heads:dX Z.m s.mem
 oldN: ∀k,k<1024->Z.O k=true->(s.mem.seg k).n=(Z.m.seg k).n
 curO: ∀k,k<4->s.cur Z.T.toNat k≠0->Z.O (s.cur Z.T.toNat k-1).toNat=false
 cap: ∃c,Cap Z F0 al s c
 olds:Olds Z al
 al: ∀a,a∈al ↔ ∃b,fw a=some b
 img: ∀a b,fw a=some b->sz b=Z.sz a/\Img Z s a b
 inj: ∀a a' b,fw a=some b->fw a'=some b->a=a'
 apart: ∀a b,sz a≠0->sz b≠0->a<b->a+sz a<=b
 sz0: ∀a,Z.m.used a->sz a=Z.sz a
 szn: ∀b,sz b≠0->Z.m.used b\/(∃a,fw a=some b)\/b∈Z.P
 word: ∀a b,fw a=some b->s.mem.get a=b*8+6
 keep: ∀x,Z.m.used x->Z.O (x / 64).toNat=true->fw x=none->s.mem.get x=Z.m.get x
 cover: ∀x,s.mem.used x->Z.m.used x\/(∃(a b:Int) (i:Nat),fw a=some b/\i<Z.sz a/\x=b+i)\/ ∃p∈Z.P,x=p\/x=p+1
 val: ∀x v,Was Z fw x v->s.mem.get x=v\/(s.mem.strong x/\Dn Z.O fw v/\s.mem.get x=Fw Z.O fw v)
 reach: ∀a b,fw a=some b->Reach Z a
 pair: ∀p∈Z.P,NewP Z s sz p
 pnd:Z.P.Nodup
 qok: ∀x w,Z.q x=some w->Wrt Z s sz x w
 qwas: ∀x v,Z.q x≠none->Was0 Z fw x v->Dn Z.O fw v
 pim: ∀a b,fw a=some b->b ∉ Z.P
section
variable {Z:TZ} {g F0:Int} {fw:Int->Option Int} {al:List Int} {s:Sp} {sz:Int->Nat}
theorem Tri.kAt(t:Tri Z F0 fw al s sz){x:Int}(h:Z.m.used x):s.mem.kAt x=Z.m.kAt x/\s.mem.gAt x=Z.m.gAt x:=⟨(t.heads.seg _ h.2.1.2.2).2.1,(t.heads.seg _ h.2.1.2.2).1⟩
theorem aO.lt(S:aO Z g F0){x:Int}(h:Z.m.used x):(x / 64).toNat<1024/\0<=x/\x<65536:=by
 have a:=h.2.1.2.1
 have b:=S.ok.lim
 exact⟨by omega,h.1,by have:=h.1;omega⟩
theorem aO.oldWord(S:aO Z g F0){w:Int}(c:Good Z.m Z.sz w)(a:aF Z.O w):Z.sz (w / 8)≠0/\Z.O (w / 8 / 64).toNat=true/\isTag w/\w % 8=tagK (Z.m.kAt (w / 8)):=by
 have b:isTag w:=by have:=a.1.1;have:=a.2.1;unfold isTag;omega
 exact⟨(c.2 b).1,a.2.2,b,(c.2 b).2⟩
theorem Tri.same_size(S:aO Z g F0)(t:Tri Z F0 fw al s sz){w:Int}(n:aC w)(k:Good Z.m Z.sz w)(l:aF Z.O w)(hn:fw (w / 8)=none):s.mem.sizeOf w=Z.sz (w / 8)/\s.mem.fwd w=none/\s.mem.kindOf w=Z.m.kAt (w / 8):=by
 obtain⟨c,e,h,i⟩:=S.oldWord k l
 obtain⟨d,u⟩:=S.sound.used _ c
 have b:=S.lt d
 have hk:=t.kAt d
 have a:=t.keep _ d e hn
 have j:=t.oldN _ b.1 e
 refine⟨jH n h (by rw[hk.1];exact i) b.2.2 (t.heads.used d) (t.ok.mem.seg _).kind (by rw[hk.1];exact S.sound.two _ c) (λf=>?_),?_,hk.1⟩
 ·rw[hk.1]at f⊢
  obtain⟨o,p,r⟩:=S.sound.obj _ c f
  rw[a]
  exact⟨o,p,r,by rw[j];exact u⟩
 ·unfold Mem.fwd
  rw[if_neg]
  rintro⟨_,_,q⟩
  rw[a]at q
  exact S.sound.noFwd c q
theorem aO.size63(S:aO Z g F0){a:Int}(h:Z.sz a≠0):(Z.m.kAt a<=1/\Z.sz a=2\/2<=Z.m.kAt a/\1<=Z.sz a/\Z.sz a<=63)/\0<=Z.m.kAt a/\Z.m.kAt a<=3:=by
 have hk:=(S.ok.seg (a / 64).toNat).kind
 refine⟨?_,hk⟩
 by_cases b:Z.m.kAt a<=1
 ·exact .inl ⟨b,(S.sound.two a h b).1⟩
 ·obtain⟨c,e,d⟩:=S.sound.obj a h (by omega)
  have:=c.2
  unfold hn at d
  exact .inr ⟨by omega,by omega,by omega⟩
structure kB (Z:TZ) (F0:Int) (fw:Int->Option Int) (s:Sp) (w:Int) (s':Sp) (v:Int) (fw':Int->Option Int) (al':List Int) (sz':Int->Nat):Prop where
 tri:Tri Z F0 fw' al' s' sz'
 le:Le fw fw'
 dn:Dn Z.O fw' w
 val:v=Fw Z.O fw' w
 rest: ∀x,s.mem.used x->Z.O (x / 64).toNat=false->s'.mem.get x=s.mem.get x
 heads:dt s.mem s'.mem
theorem Tri.copy(S:aO Z g F0)(t:Tri Z F0 fw al s sz){bG:Int}(V:Z.sz bG≠0)(hO:Z.O (bG / 64).toNat=true)(hn:fw bG=none)(hr:Reach Z bG){b:Int}
  (ha:(s.alloc Z.T (Z.m.kAt bG) (Z.sz bG)).2.2=0) (hb:(s.alloc Z.T (Z.m.kAt bG) (Z.sz bG)).2.1=b) (hm:a=((s.alloc Z.T (Z.m.kAt bG) (Z.sz bG)).1.mem.sets b (s.mem.row bG (Z.sz bG))).set bG (b*8+6)):
  Tri Z F0 (λx=>if x=bG then some b else fw x) (bG::al) {(s.alloc Z.T (Z.m.kAt bG) (Z.sz bG)).1 with mem:=a} (λx=>if x=b then Z.sz bG else sz x)/\Le fw (λx=>if x=bG then some b else fw x)/\
   (∀x,s.mem.used x->x≠bG->a.get x=s.mem.get x)/\dt s.mem a:=by
 obtain⟨b9,J⟩:=Sp.alloc_ok t.ok ha
 obtain⟨W,hK⟩:=S.size63 V
 obtain⟨u1,u2⟩:=S.sound.used bG V
 have bo:=S.lt u1
 have br:=t.heads.used u1
 rw[hb]at J
 obtain⟨c,aj⟩:=t.cap
 have sm:aS (s.alloc Z.T (Z.m.kAt bG) (Z.sz bG)).1.mem a:=by rw[hm];exact(aS.sets _ _ _).trans (aS.set _ _ _)
 obtain⟨c',aa⟩:=aj.step t.ok hK ha sm
 have b3:=Sp.alloc_curS t.ok ha
 have a9:=Sp.alloc_addr t.ok ha
 rw[hb]at a9
 have b2:(Z.m.kAt bG).toNat<4:=by omega
 have bn:0<=Z.T:=by have:=S.rng;omega
 generalize bq:(s.alloc Z.T (Z.m.kAt bG) (Z.sz bG)).1=s' at*
 have be:=t.ok.mem.lim
 obtain⟨a0,a1,a2⟩:=J.addr
 have j:dt s.mem a:=(J.heads (by omega)).trans sm.heads
 have a8: ∀k:Nat,k<1024->(s.mem.seg k).taken=0->Z.O k=false:=λk hk h0=>by
  by_cases ho:Z.O k=true
  ·have:=((S.old k hk).1 ho).1.2.2
   rw[show((k:Nat):Int).toNat=k by omega]at this
   have o:=(t.heads.seg k this).2.2.1
   rw[h0]at o;exact absurd o.symm this
  ·simpa using ho
 have Q: ∀k,k<4->s'.cur Z.T.toNat k≠0->Z.O (s'.cur Z.T.toNat k-1).toNat=false:=λk hk h0=>by
  rcases b3 k h0 with e | ⟨e1,e2⟩
  ·rw[e]at h0⊢;exact t.curO k hk h0
  ·exact a8 _ (by omega) e1
 have a6:Z.O (b / 64).toNat=false:=by
  rw[a9.1];exact Q _ b2 a9.2
 have b5: ∀i:Nat,i<Z.sz bG->s'.mem.used (b+i):=λi P=>(J.usedIff (by omega)).2 (.inr (by omega))
 have ab:(s.mem.row bG (Z.sz bG)).length=Z.sz bG:=Mem.row_len _ _ _
 have R: ∀x,0<=x->a.get x=if x=bG then b*8+6 else if b<=x/\x<b+Z.sz bG then s.mem.get (bG+(x-b))else s'.mem.get x:=λx f=>by
  rw[hm,Mem.set_get x f u1.1]
  refine ite_congr rfl (λ_=>rfl) (λ_=>?_)
  rw[Mem.sets_get _ x f a0 (by rw[ab];exact b5),ab]
  refine ite_congr rfl (λh=>?_) (λ_=>rfl)
  have P:(x-b).toNat<Z.sz bG:=by omega
  rw[List.getD_eq_getElem?_getD,List.getElem?_eq_getElem (by rw[ab];exact P),Option.getD_some,Mem.row_get _ _ P]
  congr 2;omega
 have F: ∀x,s.mem.used x->x≠bG->a.get x=s.mem.get x:=λx f d=>by
  rw[R x f.1,if_neg d,if_neg (J.not_in f),J.get f]
 have E: ∀x,a.used x ↔ s.mem.used x\/(b<=x/\x<b+Z.sz bG):=λx=>(sm.used).trans (J.usedIff (by omega))
 have M: ∀i:Nat,i<Z.sz bG-> ¬Z.m.used (b+i):=λi P h=>J.not_in (t.heads.used h) (by omega)
 have D: ∀i:Nat,i<Z.sz bG-> ¬s.mem.used (b+i):=λi P h=>J.not_in h (by omega)
 have B:0<Z.sz bG:=by omega
 have L:Le fw (λx=>if x=bG then some b else fw x):=λx y h=>by
  by_cases f:x=bG
  ·rw[f,hn]at h;cases h
  ·show(if x=bG then some b else fw x)=some y
   rw[if_neg f];exact h
 have U: ∀x,s.mem.used x->a.kAt x=s.mem.kAt x/\a.gAt x=s.mem.gAt x:=λx f=>⟨(j.seg _ f.2.1.2.2).2.1,(j.seg _ f.2.1.2.2).1⟩
 have am:a.kAt b=Z.m.kAt bG/\a.gAt b=Z.T:=⟨((sm.seg _).2.1).trans J.new.2.2.1,((sm.seg _).1).trans J.new.2.1⟩
 have ax: ∀x,s.mem.used x->s.mem.strong x->a.strong x:=λx f h=>by
  have:=(U x f).1
  unfold Mem.strong at*;rw[this];exact h
 have bc:sz b=0:=by
  by_cases h:sz b=0
  ·exact h
  ·rcases t.szn b h with q | ⟨m,q⟩ | q
   ·exact absurd (t.heads.used q) (by simpa using D 0 B)
   ·have P:=(t.img m b q).2
    have o:=(t.img m b q).1
    exact absurd (by simpa using P.here 0 (by omega)) (by simpa using D 0 B)
   ·exact absurd (t.pair b q).used.1 (by simpa using D 0 B)
 have u: ∀x,sz x≠0-> ∀i:Nat,i<sz x->s.mem.used (x+i):=λx f i P=>by
  rcases t.szn x f with q | ⟨m,q⟩ | q
  ·have e:=t.sz0 x q
   rw[e]at f P
   exact t.heads.used (S.sound.usedAt f P (λk=>(S.ok.seg k).n.2)).1
  ·obtain⟨o,b4⟩:=t.img m x q
   exact b4.here i (by omega)
  ·have N:=t.pair x q
   rw[N.sz]at P
   rcases(show i=0\/i=1 by omega)with rfl | rfl
   ·simpa using N.used.1
   ·exact N.used.2
 have a7: ∀y,s.mem.used y->(λx=>if x=b then Z.sz bG else sz x) y=sz y:=λy H=>by
  have:y≠b:=λe=>absurd H (by rw[e];simpa using D 0 B)
  exact if_neg this
 have a3: ∀y,sz y≠0->s.mem.used y:=λy H=>by simpa using u y H 0 (by omega)
 have X: ∀m C,fw m=some C->Img Z {s' with mem:=a} m C:=λm C h=>by
  obtain⟨Y,o⟩:=t.img m C h
  have aw:=(t.olds.mem m ((t.al m).2 ⟨C,h⟩)).1
  have ay:s.mem.used C:=by simpa using o.here 0 (by omega)
  exact⟨o.fit,λi P=>(E _).2 (.inl (o.here i P)),o.new,(U C ay).2.trans o.gen,(U C ay).1.trans o.kind,o.out,o.even⟩
 refine⟨⟨?_,?_,t.heads.trans j.l,λk hk ho=>?_,Q,⟨c',aa⟩,⟨?_,?_⟩,λx=>?_,λx y h=>?_,λx x' y h h'=>?_,λx y f H b8=>?_,λx f=>?_,λy H=>?_,λx y h=>?_,λx f ho h=>?_,λx f=>?_,λx v h=>?_,λx y h=>?_,λp hp=>(t.pair p hp).keep j.l a7,t.pnd,λx w h=>(t.qok x w h).keep j.l a3 a7,λx v hq h=>?_,λx y h hp=>by
   have h:(if x=bG then some b else fw x)=some y:=h
   by_cases e:x=bG
   ·rw[if_pos e]at h
    have H:b=y:=Option.some.inj h
    rw[<-H]at hp
    have:=(t.pair b hp).used.1
    exact D 0 (by omega) (by simpa using this)
   ·rw[if_neg e]at h;exact t.pim x y h hp⟩,L,F,j⟩
 ·have b6: ∀v∈s.mem.row bG (Z.sz bG),aC v:=λv hv=>by
   unfold Mem.row at hv
   obtain⟨i,_,rfl⟩:=List.mem_map.1 hv
   exact(t.ok.mem.seg _).words _
  have az:=b9.sets b b6
  have:=az.withMem (az.mem.set bG (w:=b*8+6) ⟨by omega,by omega⟩) (λk h=>Mem.set_has.2 h) (λk=>⟨((aS.set _ _ _).seg k).1,((aS.set _ _ _).seg k).2.1⟩)
  rw[hm];exact this
 ·exact sm.even (J.even t.even (λhk=>by rcases W with q | q<;>omega)).1
 ·show(a.seg k).n=_
  rw[(sm.seg k).2.2.1]
  have an:k≠(b / 64).toNat:=λe=>by rw[e]at ho;rw[a6]at ho;cases ho
  rw[J.others k an];exact t.oldN k hk ho
 ·rw[List.nodup_cons];exact⟨(λh=>by obtain⟨C,ai⟩:=(t.al bG).1 h;rw[hn]at ai;cases ai),t.olds.nodup⟩
 ·intro x f
  rcases List.mem_cons.1 f with rfl | f
  ·exact⟨V,hO⟩
  ·exact t.olds.mem x f
 ·rw[List.mem_cons]
  show x=bG\/x∈al ↔ ∃y,(if x=bG then some b else fw x)=some y
  by_cases d:x=bG
  ·rw[if_pos d];exact⟨λ_=>⟨b,rfl⟩,λ_=> .inl d⟩
  ·rw[if_neg d,<-t.al x];exact⟨λh=>h.resolve_left d,.inr⟩
 ·have h:(if x=bG then some b else fw x)=some y:=h
  show(if y=b then Z.sz bG else sz y)=_/\_
  by_cases d:x=bG
  ·rw[if_pos d]at h;cases h;subst d
   refine⟨if_pos rfl,⟨by omega,a0⟩,λi P=>(E _).2 (.inr (by omega)),M,am.2,am.1,a6,λhk=>(J.even t.even (λhk=>by rcases W with q | q<;>omega)).2 hk⟩
  ·rw[if_neg d]at h
   have a4:y≠b:=λe=>by
    have o:=(t.img x y h).2
    have aw:=(t.olds.mem x ((t.al x).2 ⟨y,h⟩)).1
    rw[e]at o
    exact absurd (by simpa using o.here 0 (by omega)) (by simpa using D 0 B)
   rw[if_neg a4]
   exact⟨(t.img x y h).1,X x y h⟩
 ·have h:(if x=bG then some b else fw x)=some y:=h
  have h':(if x'=bG then some b else fw x')=some y:=h'
  have ao: ∀z,fw z=some b->False:=λz hz=>by
   have o:=(t.img z b hz).2
   have aw:=(t.olds.mem z ((t.al z).2 ⟨b,hz⟩)).1
   exact absurd (by simpa using o.here 0 (by omega)) (by simpa using D 0 B)
  by_cases Y:x=bG
  ·by_cases o:x'=bG
   ·rw[Y,o]
   ·rw[if_pos Y]at h;rw[if_neg o]at h';cases h;exact(ao _ h').elim
  ·by_cases o:x'=bG
   ·rw[if_neg Y]at h;rw[if_pos o]at h';cases h';exact(ao _ h).elim
   ·rw[if_neg Y]at h;rw[if_neg o]at h';exact t.inj x x' y h h'
 ·have f:(if x=b then Z.sz bG else sz x)≠0:=f
  have H:(if y=b then Z.sz bG else sz y)≠0:=H
  show x+((if x=b then Z.sz bG else sz x:Nat):Int)<=y
  by_cases Y:x=b
  ·have o:y≠b:=by omega
   rw[if_neg o]at H
   rw[if_pos Y]
   have:=u y H 0 (by omega)
   have:=J.not_in (x:=y) (by simpa using this)
   omega
  ·rw[if_neg Y]at f⊢
   by_cases o:y=b
   ·rcases Int.lt_or_le b (x+sz x)with bf | bd
    ·have:=u x f (b-x).toNat (by omega)
     rw[show x+((b-x).toNat:Int)=b by omega]at this
     exact absurd this (by simpa using D 0 B)
    ·omega
   ·rw[if_neg o]at H
    exact t.apart x y f H b8
 ·show(if x=b then Z.sz bG else sz x)=_
  have:x≠b:=λe=>absurd f (by rw[e];simpa using M 0 B)
  rw[if_neg this];exact t.sz0 x f
 ·have H:(if y=b then Z.sz bG else sz y)≠0:=H
  by_cases a4:y=b
  ·right;left;refine⟨bG,?_⟩;show(if bG=bG then some b else _)=_;rw[if_pos rfl,a4]
  ·rw[if_neg a4]at H
   rcases t.szn y H with q | ⟨m,q⟩ | q
   ·exact .inl q
   ·exact .inr (.inl ⟨m,L _ _ q⟩)
   ·exact .inr (.inr q)
 ·have h:(if x=bG then some b else fw x)=some y:=h
  show a.get x=_
  by_cases d:x=bG
  ·rw[if_pos d]at h;cases h
   rw[d,R bG u1.1,if_pos rfl]
  ·rw[if_neg d]at h
   have b7:=(t.olds.mem x ((t.al x).2 ⟨y,h⟩)).1
   rw[F x (t.heads.used (S.sound.used x b7).1) d];exact t.word x y h
 ·have h:(if x=bG then some b else fw x)=none:=h
  show a.get x=_
  by_cases d:x=bG
  ·rw[if_pos d]at h;cases h
  ·rw[if_neg d]at h
   rw[F x (t.heads.used f) d];exact t.keep x f ho h
 ·rcases(E x).1 f with q | q
  ·rcases t.cover x q with r | ⟨m,C,i,r1,r2,r3⟩ | r
   ·exact .inl r
   ·exact .inr (.inl ⟨m,C,i,L _ _ r1,r2,r3⟩)
   ·exact .inr (.inr r)
  ·exact .inr (.inl ⟨bG,b,(x-b).toNat,if_pos rfl,by omega,by omega⟩)
 ·have A:Was Z fw x v->a.get x=v\/a.strong x/\Dn Z.O (λx=>if x=bG then some b else fw x) v/\a.get x=Fw Z.O (λx=>if x=bG then some b else fw x) v:=λhw=>by
   have ac:s.mem.used x/\x≠bG:=by
    rcases hw with q | ⟨_,⟨G,I,_⟩ | ⟨m,C,i,G,I,q3,_⟩⟩
    ·have hq:=t.qok x v q
     exact⟨hq.used,λe=>by have:=hq.out;rw[e,hO]at this;cases this⟩
    ·exact⟨t.heads.used G,λe=>by rw[e,hO]at I;cases I⟩
    ·have o:=(t.img m C G).2
     refine⟨by rw[q3];exact o.here i I,λe=>?_⟩
     have:=o.new i I
     rw[<-q3,e]at this;exact this u1
   rw[F x ac.1 ac.2]
   rcases t.val x v hw with q | ⟨G,I,q3⟩
   ·exact .inl q
   ·exact .inr ⟨ax x ac.1 G,I.mono L,by rw[fQ I L];exact q3⟩
  show a.get x=v\/_
  rcases h with h | ⟨av,h | ⟨m,C,i,G,I,q3,q4⟩⟩
  ·exact A (.inl h)
  ·exact A (.inr ⟨av,.inl h⟩)
  ·have G:(if m=bG then some b else fw m)=some C:=G
   by_cases K:m=bG
   ·rw[if_pos K]at G;cases G
    subst K
    left
    have d:x≠m:=λe=>by
     have:=M i I
     rw[<-q3,e]at this;exact this u1
    rw[R x (by omega),if_neg d,if_pos (by omega),q4]
    have ah:=S.sound.usedAt V I (λk=>(S.ok.seg k).n.2)
    rw[show m+(x-b)=m+i by omega]
    refine t.keep _ ah.1 (by rw[ah.2.1];exact hO) ?_
    cases hf:fw (m+i)with
    | none=>rfl
    | some y=>
     have Y:=(t.olds.mem _ ((t.al _).2 ⟨y,hf⟩)).1
     rcases Nat.eq_zero_or_pos i with h0 | h0
     ·rw[h0]at hf;simp at hf;rw[hn]at hf;cases hf
     ·exact absurd (S.sound.within V h0 I) Y
   ·rw[if_neg K]at G
    exact A (.inr ⟨av,.inr ⟨m,C,i,G,I,q3,q4⟩⟩)
 ·have h:(if x=bG then some b else fw x)=some y:=h
  by_cases d:x=bG
  ·rw[d];exact hr
  ·rw[if_neg d]at h;exact t.reach x y h
 ·cases au:Z.q x with
  | none=>exact absurd au hq
  | some w=>
   have hu:=(t.qok x w au).used
   rcases h with h | ⟨m,C,i,G,I,q3,q4⟩
   ·exact(t.qwas x v hq (.inl h)).mono L
   ·have G:(if m=bG then some b else fw m)=some C:=G
    by_cases K:m=bG
    ·rw[if_pos K]at G;cases G
     rw[K]at I
     rw[q3]at hu
     exact absurd hu (D i I)
    ·rw[if_neg K]at G
     exact(t.qwas x v hq (.inr ⟨m,C,i,G,I,q3,q4⟩)).mono L
theorem Tri.visit(S:aO Z g F0)(t:Tri Z F0 fw al s sz){w:Int}(U:aC w)(C:Good Z.m Z.sz w)(Q:aF Z.O w->Reach Z (w / 8)):
  ∃v u A,kB Z F0 fw s w (s.visit Z.O Z.T w).1 (s.visit Z.O Z.T w).2 v u A:=by
 by_cases a:aF Z.O w
 case neg=>
  rw[Sp.visit_no a]
  exact⟨fw,al,sz,t,Le.refl _,λh=>absurd h a,(eL a).symm,λ_ _ _=>rfl,dt.refl _⟩
 obtain⟨y,B,Y,h4⟩:=S.oldWord C a
 obtain⟨G,u2⟩:=S.sound.used _ y
 have P:=S.lt G
 cases i:fw (w / 8)with
 | some b=>
  obtain⟨_,W⟩:=t.img _ _ i
  have k:s.mem.used b:=by simpa using W.here 0 (by omega)
  have D:=t.ok.mem.lim
  have M:=k.2.1.2.1
  have N:=k.1
  have R:s.mem.fwd w=some (b*8+w % 8):=by
   unfold Mem.fwd
   rw[t.word _ _ i,if_pos ⟨t.heads.used G,⟨by omega,by omega⟩,by omega⟩]
   congr 2;omega
  rw[Sp.visit_fwd a R]
  exact⟨fw,al,sz,t,Le.refl _,λ_=>⟨b,i⟩,(eS a i).symm,λ_ _ _=>rfl,dt.refl _⟩
 | none=>
  obtain⟨r,X,F⟩:=t.same_size S U C a i
  obtain⟨f,hK⟩:=S.size63 y
  obtain⟨c,l⟩:=t.cap
  have d:=l.room t.ok S.sound S.ok t.olds S.room
  have E:=S.rng
  have o:may Z.T (Z.m.kAt (w / 8)) (Z.sz (w / 8)):=⟨by omega,by rcases f with q | q<;>omega⟩
  have j:=Sp.alloc_can t.ok o d
  have L:s.mem.sizeOf w≠0:=by rw[r];omega
  have n:=Sp.visit_go a X L (T:=Z.T) (by rw[r,F];exact j)
  rw[r,F]at n
  rw[n]
  have z:(Sp.moved s.mem w (s.alloc Z.T (Z.m.kAt (w / 8)) (Z.sz (w / 8)))).mem=((s.alloc Z.T (Z.m.kAt (w / 8)) (Z.sz (w / 8))).1.mem.sets (s.alloc Z.T (Z.m.kAt (w / 8)) (Z.sz (w / 8))).2.1 (s.mem.row (w / 8) (Z.sz (w / 8)))).set (w / 8) ((s.alloc Z.T (Z.m.kAt (w / 8)) (Z.sz (w / 8))).2.1*8+6):=by
   unfold Sp.moved
   rw[r,show((Z.sz (w / 8):Int)).toNat=Z.sz (w / 8)by omega]
  obtain⟨H,I,J,K⟩:=t.copy S y B i (Q a) j rfl z
  refine⟨_,_,_,H,I,λ_=>⟨_,if_pos rfl⟩,(eS a (if_pos rfl)).symm,λx V p=>J x V (λe=>?_),K⟩
  rw[e,B]at p;cases p
end
def Done(Z:TZ)(fw:Int->Option Int)(s:Sp)(x:Int):Prop:= ∀v,Was Z fw x v->Dn Z.O fw v/\s.mem.get x=Fw Z.O fw v
section
variable {Z:TZ} {g F0:Int} {fw:Int->Option Int} {al:List Int} {s:Sp} {sz:Int->Nat}
theorem Was.mono{c:Int->Option Int}{x v:Int}(h:Was Z fw x v)(l:Le fw c):Was Z c x v:=by
 rcases h with h | ⟨d,h | ⟨a,b,i,e,f⟩⟩
 ·exact .inl h
 ·exact .inr ⟨d,.inl h⟩
 ·exact .inr ⟨d,.inr ⟨a,b,i,l _ _ e,f⟩⟩
theorem Tri.was0_one(t:Tri Z F0 fw al s sz){x v o:Int}(h:Was0 Z fw x v)(p:Was0 Z fw x o):v=o:=by
 rcases h with⟨d,l,j⟩ | ⟨a,b,i,d,l,j,r⟩<;>rcases p with⟨e,n,k⟩ | ⟨f,c,m,e,n,k,z⟩
 ·rw[j,k]
 ·exact absurd (k▸d) ((t.img f c e).2.new m n)
 ·exact absurd (j▸e) ((t.img a b d).2.new i l)
 ·have A:=(t.img a b d).1
  have B:=(t.img f c e).1
  have w:b=c:=by
   rcases Int.lt_trichotomy b c with q | q | q
   ·have:=t.apart b c (by omega) (by omega) q;omega
   ·exact q
   ·have:=t.apart c b (by omega) (by omega) q;omega
  subst w
  have u:=t.inj a f b d e
  subst u
  have y:i=m:=by omega
  subst y
  rw[r,z]
theorem Tri.was_one(t:Tri Z F0 fw al s sz){x v d:Int}(h:Was Z fw x v)(a:Was Z fw x d):v=d:=by
 rcases h with h | ⟨c,h⟩<;>rcases a with a | ⟨b,a⟩
 ·rw[h]at a;exact Option.some.inj a
 ·rw[h]at b;cases b
 ·rw[a]at c;cases c
 ·exact t.was0_one h a
theorem Tri.was(t:Tri Z F0 fw al s sz){x:Int}(k:s.mem.used x)(j:Z.O (x / 64).toNat=false): ∃v,Was Z fw x v:=by
 cases c:Z.q x with
 | some w=>exact⟨w,.inl c⟩
 | none=>
  rcases t.cover x k with h | ⟨a,b,i,d,e,f⟩ | ⟨p,d,e⟩
  ·exact⟨_,.inr ⟨c,.inl ⟨h,j,rfl⟩⟩⟩
  ·exact⟨_,.inr ⟨c,.inr ⟨a,b,i,d,e,f,rfl⟩⟩⟩
  ·have N:=(t.pair p d).q
   rcases e with rfl | rfl
   ·exact absurd c N.1
   ·exact absurd c N.2
theorem Tri.used0(t:Tri Z F0 fw al s sz){x v:Int}(h:Was0 Z fw x v):s.mem.used x/\Z.O (x / 64).toNat=false:=by
 rcases h with⟨c,d,_⟩ | ⟨a,b,i,c,d,f,_⟩
 ·exact⟨t.heads.used c,d⟩
 ·have e:=(t.img a b c).2
  refine⟨f▸e.here i d,?_⟩
  have:=e.fit
  rw[f,show(b+i) / 64=b / 64 by omega];exact e.out
theorem Tri.usedOf(t:Tri Z F0 fw al s sz){x v:Int}(h:Was Z fw x v):s.mem.used x/\Z.O (x / 64).toNat=false:=by
 rcases h with h | ⟨_,h⟩
 ·exact⟨(t.qok x v h).used,(t.qok x v h).out⟩
 ·exact t.used0 h
theorem Tri.was0_good(S:aO Z g F0)(t:Tri Z F0 fw al s sz){x v:Int}(h:Was0 Z fw x v)(w:s.mem.strong x):aC v/\Good Z.m Z.sz v/\(aF Z.O v->Reach Z (v / 8)):=by
 rcases h with⟨c,p,rfl⟩ | ⟨a,b,i,c,p,z,rfl⟩
 ·have hk:=(t.kAt c).1
  have o:Z.m.strong x:=by unfold Mem.strong at*;rw[<-hk];exact w
  exact⟨(S.ok.seg _).words _,S.sound.good x c o.1,λu=> .older c p o u⟩
 ·have y:=(t.img a b c).2
  have l:=(t.olds.mem a ((t.al a).2 ⟨b,c⟩)).1
  have e:=S.sound.usedAt l p (λk=>(S.ok.seg k).n.2)
  have B:=y.fit
  have j:s.mem.kAt x=Z.m.kAt (a+i):=by
   unfold Mem.kAt
   rw[z,show(b+i) / 64=b / 64 by omega,e.2.1];exact y.kind
  have r:Z.m.kAt (a+i)=Z.m.kAt a:=by unfold Mem.kAt;rw[e.2.1]
  have o:Z.m.strong (a+i):=by
   unfold Mem.strong at*
   rw[<-j]
   refine⟨w.1,?_⟩
   by_cases d:s.mem.kAt x=1
   ·right
    have A:=w.2.resolve_left (λq=>q d)
    have f:Z.m.kAt a<=1:=by rw[<-r,<-j,d];decide
    have:=y.even f
    have:=(S.sound.two a l f).2
    omega
   ·exact .inl d
  exact⟨(S.ok.seg _).words _,S.sound.good _ e.1 o.1,λu=> .step (t.reach a b c) p o u⟩
theorem Tri.was_good(S:aO Z g F0)(t:Tri Z F0 fw al s sz){x v:Int}(h:Was Z fw x v)(d:s.mem.strong x):aC v/\(aF Z.O v->Good Z.m Z.sz v/\Reach Z (v / 8)):=by
 rcases h with h | ⟨_,h⟩
 ·have W:=t.qok x v h
  exact⟨W.word,λo=>absurd o W.young⟩
 ·obtain⟨a,b,c⟩:=t.was0_good S h d
  exact⟨a,λo=>⟨b,c o⟩⟩
theorem Tri.sz_used(S:aO Z g F0)(t:Tri Z F0 fw al s sz){y:Int}(h:sz y≠0):s.mem.used y:=by
 rcases t.szn y h with q | ⟨a,q⟩ | q
 ·exact t.heads.used q
 ·obtain⟨c,b⟩:=t.img a y q
  simpa using b.here 0 (by omega)
 ·exact(t.pair y q).used.1
theorem Tri.set(S:aO Z g F0)(t:Tri Z F0 fw al s sz){x v:Int}(h:Was Z fw x v)(T:s.mem.strong x)(L:Dn Z.O fw v)(U:aC (Fw Z.O fw v)):Tri Z F0 fw al {s with mem:=s.mem.set x (Fw Z.O fw v)} sz/\Done Z fw {s with mem:=s.mem.set x (Fw Z.O fw v)} x:=by
 obtain⟨M,Q⟩:=t.usedOf h
 have f:=aS.set s.mem x (Fw Z.O fw v)
 have d: ∀y,0<=y->(s.mem.set x (Fw Z.O fw v)).get y=if y=x then Fw Z.O fw v else s.mem.get y:=λy m=>Mem.set_get y m M.1
 have hk: ∀y,(s.mem.set x (Fw Z.O fw v)).kAt y=s.mem.kAt y/\(s.mem.set x (Fw Z.O fw v)).gAt y=s.mem.gAt y:=λy=>⟨(f.seg _).2.1,(f.seg _).1⟩
 have r: ∀y,(s.mem.set x (Fw Z.O fw v)).strong y ↔ s.mem.strong y:=λy=>by unfold Mem.strong;rw[(hk y).1]
 obtain⟨c,j⟩:=t.cap
 have C: ∀y,Z.O (y / 64).toNat=true->y≠x:=λy m e=>by rw[e,Q]at m;cases m
 refine⟨⟨t.ok.withMem (t.ok.mem.set x U) (λk q=>Mem.set_has.2 q) (λk=>⟨(f.seg k).1,(f.seg k).2.1⟩),f.even t.even,t.heads.trans f.heads.l,λk F G=>?_,t.curO,⟨c,?_⟩,t.olds,t.al,λa b o=>?_,t.inj,t.apart,t.sz0,t.szn,λa b o=>?_,λy m D J=>?_,λy m=>t.cover y (f.used.1 m),λy u A=>?_,t.reach,λp R=>(t.pair p R).keep f.heads.l (λ_ _=>rfl),t.pnd,λy w h=>(t.qok y w h).keep f.heads.l (λy m=>t.sz_used S m) (λ_ _=>rfl),t.qwas,t.pim⟩,λu H=>?_⟩
 ·show((s.mem.set x _).seg k).n=_
  rw[(f.seg k).2.2.1];exact t.oldN k F G
 ·refine⟨?_,j.none,λk E=>?_⟩
  ·show(s.mem.set x _).free+_=_
   rw[f.free];exact j.free
  ·rw[Sp.fill_same f];exact j.le k E
 ·obtain⟨N,z⟩:=t.img a b o
  exact⟨N,z.fit,λi P=>f.used.2 (z.here i P),z.new,(hk b).2.trans z.gen,(hk b).1.trans z.kind,z.out,z.even⟩
 ·have K:=t.olds.mem a ((t.al a).2 ⟨b,o⟩)
  show(s.mem.set x _).get a=_
  rw[d a (S.sound.used a K.1).1.1,if_neg (C a K.2)];exact t.word a b o
 ·show(s.mem.set x _).get y=_
  rw[d y m.1,if_neg (C y D)];exact t.keep y m D J
 ·show(s.mem.set x _).get y=u\/_
  have I:=(t.usedOf A).1.1
  rw[d y I]
  by_cases B:y=x
  ·rw[if_pos B]
   subst B
   have:=t.was_one h A
   subst this
   exact .inr ⟨(r y).2 T,L,rfl⟩
  ·rw[if_neg B]
   rcases t.val y u A with q | ⟨V,W,X⟩
   ·exact .inl q
   ·exact .inr ⟨(r y).2 V,W,X⟩
 ·have:=t.was_one h H
  subst this
  refine⟨L,?_⟩
  show(s.mem.set x _).get x=_
  rw[d x M.1,if_pos rfl]
structure gm (Z:TZ) (F0:Int) (fw:Int->Option Int) (s s':Sp) (fw':Int->Option Int) (al':List Int) (sz':Int->Nat):Prop where
 tri:Tri Z F0 fw' al' s' sz'
 le:Le fw fw'
 heads:dt s.mem s'.mem
 done: ∀x,s.mem.used x->Z.O (x / 64).toNat=false->Done Z fw s x->Done Z fw' s' x
theorem gm.refl(t:Tri Z F0 fw al s sz):gm Z F0 fw s s fw al sz:=⟨t,Le.refl _,dt.refl _,λ_ _ _ h=>h⟩
theorem gm.trans{l m:Sp}{b c:Int->Option Int}{e a:List Int}{f d:Int->Nat}(h:gm Z F0 fw s l b e f)(k:gm Z F0 b l m c a d):gm Z F0 fw s m c a d:=
 ⟨k.tri,h.le.trans k.le,h.heads.trans k.heads,λx j i n=>k.done x (h.heads.used j) i (h.done x j i n)⟩
theorem Done.keep(t:Tri Z F0 fw al s sz){s':Sp}{a:Int->Option Int}{c:List Int}{d:Int->Nat}(n:Tri Z F0 a c s' d)(l:Le fw a){x:Int}(k:s.mem.used x)(j:Z.O (x / 64).toNat=false)(i:s'.mem.get x=s.mem.get x)(h:Done Z fw s x):Done Z a s' x:=λv m=>by
 obtain⟨o,b⟩:=t.was k j
 have:=n.was_one (b.mono l) m
 subst this
 obtain⟨e,f⟩:=h o b
 exact⟨e.mono l,by rw[i,f,fQ e l]⟩
theorem Tri.fw_word(S:aO Z g F0)(t:Tri Z F0 fw al s sz){v:Int}(e:aC v):aC (Fw Z.O fw v):=by
 by_cases d:aF Z.O v
 ·cases c:fw (v / 8)with
  | none=>unfold Fw;rw[if_pos d,c];exact e
  | some b=>
   rw[eS d c]
   have h:=(t.img _ _ c).2
   have f:=(t.olds.mem _ ((t.al _).2 ⟨b,c⟩)).1
   have a:s.mem.used b:=by simpa using h.here 0 (by omega)
   have k:=t.ok.mem.lim
   have i:=a.2.1.2.1
   have j:=a.1
   exact⟨by omega,by omega⟩
 ·rw[eL d];exact e
theorem Tri.lookAt(S:aO Z g F0)(t:Tri Z F0 fw al s sz){x:Int}(n:s.mem.used x)(X:Z.O (x / 64).toNat=false)(P:s.mem.strong x): ∃a d h,gm Z F0 fw s (s.lookAt Z.O Z.T x) a d h/\Done Z a (s.lookAt Z.O Z.T x) x:=by
 obtain⟨v,A⟩:=t.was n X
 obtain⟨U,J⟩:=t.was_good S A P
 have E:s.mem.read x=s.mem.get x:=by unfold Mem.read;rw[if_pos n]
 have w: ∃(i:Sp) (m:Int) (a:Int->Option Int) (d:List Int) (h:Int->Nat),s.visit Z.O Z.T (s.mem.read x)=(i,m)/\Tri Z F0 a d i h/\Le fw a/\Dn Z.O a v/\m=Fw Z.O a v/\(∀y,s.mem.used y->Z.O (y / 64).toNat=false->i.mem.get y=s.mem.get y)/\dt s.mem i.mem:=by
  rw[E]
  have first:s.mem.get x=v->aF Z.O v-> ∃(i:Sp) (m:Int) (a:Int->Option Int) (d:List Int) (h:Int->Nat),s.visit Z.O Z.T (s.mem.get x)=(i,m)/\Tri Z F0 a d i h/\Le fw a/\Dn Z.O a v/\m=Fw Z.O a v/\(∀y,s.mem.used y->Z.O (y / 64).toNat=false->i.mem.get y=s.mem.get y)/\dt s.mem i.mem:=λe o=>by
   rw[e]
   obtain⟨vg,vr⟩:=J o
   obtain⟨a,d,h,V⟩:=t.visit S U vg (λ_=>vr)
   exact⟨_,_,a,d,h,rfl,V.tri,V.le,V.dn,V.val,V.rest,V.heads⟩
  by_cases c:aF Z.O v
  case neg=>
   have e:s.mem.get x=v:=by
    rcases t.val x v A with e | ⟨_,_,z⟩
    ·exact e
    ·rw[z,eL c]
   rw[e]
   exact⟨s,v,fw,al,sz,Sp.visit_no c,t,Le.refl _,λo=>absurd o c,(eL c).symm,λ_ _ _=>rfl,dt.refl _⟩
  rcases t.val x v A with e | ⟨_,L,z⟩
  ·exact first e c
  ·by_cases j:aF Z.O v
   ·obtain⟨b,N⟩:=L j
    have Y:=(t.img _ _ N).2
    have D: ¬aF Z.O (s.mem.get x):=λq=>by
     rw[z,eS j N]at q
     have M:=q.2.2
     rw[show(b*8+v % 8) / 8=b by omega,Y.out]at M
     cases M
    exact⟨s,s.mem.get x,fw,al,sz,Sp.visit_no D,t,Le.refl _,L,z,λ_ _ _=>rfl,dt.refl _⟩
   ·exact absurd c j
 obtain⟨i,m,a,d,h,p,Q,k,B,H,l,f⟩:=w
 have G:=f.used n
 have F:i.mem.strong x:=by
  have:=(f.seg _ n.2.1.2.2).2.1
  unfold Mem.strong Mem.kAt at*;rw[this];exact P
 obtain⟨R,K⟩:=Q.set S (A.mono k) F B (Q.fw_word S U)
 have C:s.lookAt Z.O Z.T x={i with mem:=i.mem.set x (Fw Z.O a v)}:=by
  unfold Sp.lookAt
  rw[p]
  show({i with mem:=i.mem.wr x m}:Sp)=_
  unfold Mem.wr
  rw[if_pos G,H]
 rw[C]
 refine⟨a,d,h,⟨R,k,f.trans (aS.set _ _ _).heads,λy I r W=>?_⟩,K⟩
 by_cases u:y=x
 ·rw[u];exact K
 ·refine Done.keep t R k I r ?_ W
  show(i.mem.set x _).get y=_
  rw[Mem.set_get y I.1 n.1,if_neg u];exact l y I r
theorem Tri.look(S:aO Z g F0)(t:Tri Z F0 fw al s sz){k lo:Int}(hk:0<=k)(u:0<=lo)(v:Z.O k.toNat=false): ∀n:Nat,lo+n<=64->(∀i:Int,lo<=i->i<lo+n->s.mem.used (k*64+i))->
  ∃b j x,gm Z F0 fw s (s.look Z.O Z.T k (s.mem.seg k.toNat).kind lo n) b j x/\ ∀i:Int,lo<=i->i<lo+n->s.mem.strong (k*64+i)->Done Z b (s.look Z.O Z.T k (s.mem.seg k.toNat).kind lo n) (k*64+i)
 | 0,_,_=>⟨fw,al,sz,gm.refl t,λi a e=>by omega⟩
 | n+1,hn,hu=>by
  obtain⟨p,l,y,L,B⟩:=Tri.look S t hk u v n (by omega) (λi a e=>hu i a (by omega))
  have d:=hu (lo+n) (by omega) (by omega)
  have D:Z.O ((k*64+(lo+n)) / 64).toNat=false:=by rw[show(k*64+(lo+(n:Int))) / 64=k by omega];exact v
  have E: ∀i:Int,lo<=i->i<lo+(n+1:Nat)->Z.O ((k*64+i) / 64).toNat=false:=λi a e=>by rw[show(k*64+i) / 64=k by omega];exact v
  unfold Sp.look
  by_cases h:looks (s.mem.seg k.toNat).kind (lo+n)
  ·rw[if_pos h]
   have w:=(jI (m:=s.mem) (by omega) hk).1 h
   have c:(s.look Z.O Z.T k (s.mem.seg k.toNat).kind lo n).mem.strong (k*64+(lo+n)):=by
    have:=(L.heads.seg _ d.2.1.2.2).2.1
    unfold Mem.strong Mem.kAt at*;rw[this];exact w
   obtain⟨q,o,z,A,C⟩:=L.tri.lookAt S (L.heads.used d) D c
   refine⟨q,o,z,L.trans A,λi a e f=>?_⟩
   by_cases r:i=lo+n
   ·rw[r];exact C
   ·exact A.done _ (L.heads.used (hu i a (by omega))) (E i a (by omega)) (B i a (by omega) f)
  ·rw[if_neg h]
   refine⟨p,l,y,L,λi a e f=>?_⟩
   by_cases r:i=lo+n
   ·exact absurd ((jI (m:=s.mem) (by omega) hk).2 (r▸f)) h
   ·exact B i a (by omega) f
def pQ(Z:TZ)(c:Int×Int):Prop:=Z.m.has c.1/\Z.O c.1.toNat=false/\0<=c.2/\c.2<4
def nf(Z:TZ)(fw:Int->Option Int)(s:Sp)(c:Int×Int):Prop:= ∀i:Int,c.2*16<=i->i< (c.2+1)*16->Z.m.used (c.1*64+i)->s.mem.strong (c.1*64+i)->Done Z fw s (c.1*64+i)
theorem Tri.lookCards(S:aO Z g F0): ∀(l:List (Int×Int)) {fw:Int->Option Int} {al:List Int} {s:Sp} {sz:Int->Nat} (t:Tri Z F0 fw al s sz),(∀c∈l,pQ Z c)-> ∃f p z,gm Z F0 fw s (s.lookCards Z.O Z.T l) f p z/\ ∀c∈l,nf Z f (s.lookCards Z.O Z.T l) c
 | [],fw,al,s,sz,t,_=>⟨fw,al,sz,gm.refl t,λc M=>by cases M⟩
 | c::l,fw,al,s,sz,t,h=>by
  obtain⟨r,B,P,Q⟩:=h c (by simp)
  have j:=t.heads.has r
  have v:s.mem.segOr c.1=s.mem.seg c.1.toNat:=by unfold Mem.segOr;rw[if_pos j]
  have E:=(t.ok.mem.seg c.1.toNat).n
  obtain⟨H,F,N,d,C⟩:=t.look S (k:=c.1) (lo:=c.2*16) r.1 (by omega) B (min (s.mem.seg c.1.toNat).n ((c.2+1)*16)-c.2*16).toNat (by omega) (λi D I=>by
   have m:(c.1*64+i) / 64=c.1:=by omega
   have u:(c.1*64+i) % 64=i:=by omega
   have:=r.1
   exact⟨by omega,by rw[m];exact j,by rw[m,u];omega⟩)
  have e:s.lookCard Z.O Z.T c=s.look Z.O Z.T c.1 (s.mem.seg c.1.toNat).kind (c.2*16) (min (s.mem.seg c.1.toNat).n ((c.2+1)*16)-c.2*16).toNat:=by unfold Sp.lookCard;rw[v]
  rw[<-e]at d C
  obtain⟨w,q,A,o,G⟩:=Tri.lookCards S l d.tri (λb a=>h b (by simp[a]))
  have u:s.lookCards Z.O Z.T (c::l)=(s.lookCard Z.O Z.T c).lookCards Z.O Z.T l:=rfl
  rw[u]
  refine⟨w,q,A,d.trans o,λb a=>?_⟩
  rcases List.mem_cons.1 a with rfl | a
  ·intro i D I J K
   have y:=t.heads.used J
   have R:i< (s.mem.seg b.1.toNat).n:=by
    have:=y.2.2
    have m:(b.1*64+i) / 64=b.1:=by omega
    rw[m]at this;omega
   have x:s.mem.strong (b.1*64+i):=by
    have L:=((d.heads.trans o.heads).seg _ y.2.1.2.2).2.1
    unfold Mem.strong Mem.kAt at*;rw[<-L];exact K
   refine o.done _ (d.heads.used y) (by rw[show(b.1*64+i) / 64=b.1 by omega];exact B) (C i D (by omega) x)
  ·exact G b a
def rz(Z:TZ)(fw:Int->Option Int)(s:Sp)(k0 ks:List (Int×Value)):Prop:= ∀k i:Int,0<=k->seenAt k0 k<=i->i<seenAt ks k->Z.O k.toNat=false->s.mem.used (k*64+i)/\(s.mem.strong (k*64+i)->Done Z fw s (k*64+i))
theorem Tri.drains(S:aO Z g F0)(t:Tri Z F0 fw al s sz){C E:List (Int×Value)}{F:Sp}(r:dE C)(h:cJ Z.O Z.T s C F E): ∃m w G,gm Z F0 fw s F m w G/\rz Z m F C E/\dE E:=by
 induction h with
 | refl=>exact⟨fw,al,sz,gm.refl t,λk i _ v b=>by omega,r⟩
 | @step f a k hd hk hg U hn W=>
  obtain⟨Q,M,Y,L,D,j⟩:=W
  obtain⟨_,X,q1⟩:=gD j k
  have p:=(L.tri.ok.mem.seg k.toNat).n
  have d: ∀i:Int,0<=i->i< (f.mem.seg k.toNat).n->f.mem.used (k*64+i):=λi v b=>by
   have J:(k*64+i) / 64=k:=by omega
   have P:(k*64+i) % 64=i:=by omega
   have:=hk.1
   exact⟨by omega,by rw[J];exact hk,by rw[J,P];omega⟩
  obtain⟨z,y,H,l,N⟩:=L.tri.look S (k:=k) (lo:=seenAt a k) hk.1 X U ((f.mem.seg k.toNat).n-seenAt a k).toNat (by omega) (λi v b=>d i (by omega) (by omega))
  refine⟨z,y,H,L.trans l,λe i B v b q=>?_,j.put p⟩
  rw[jp]at b
  have c: ∀x,f.mem.used x->(f.look Z.O Z.T k (f.mem.seg k.toNat).kind (seenAt a k) ((f.mem.seg k.toNat).n-seenAt a k).toNat).mem.strong x->f.mem.strong x:=λx V u=>by
   have R:=(l.heads.seg _ V.2.1.2.2).2.1
   unfold Mem.strong Mem.kAt at*;rw[<-R];exact u
  have old:i<seenAt a e->_/\_:=λA=>by
   obtain⟨I,u2⟩:=D e i B v A q
   obtain⟨_,r0,r1⟩:=gD j e
   obtain⟨_,r2,r3⟩:=gD r e
   exact⟨l.heads.used I,λu=>l.done _ I (by rw[show(e*64+i) / 64=e by omega];exact q) (u2 (c _ I u))⟩
  by_cases o:e=k
  ·subst o
   rw[if_pos rfl]at b
   by_cases A:i<seenAt a e
   ·exact old A
   ·have K:=d i (by omega) b
    exact⟨l.heads.used K,λu=>N i (by omega) (by omega) (c _ K u)⟩
  ·rw[if_neg o]at b
   exact old b
end
variable{a:Sp}{b:Tr}
def ii(m:Mem):Prop:= ∀x,m.used x->m.kAt x≠3->(m.genOf (m.get x)).2=true->(m.genOf (m.get x)).1<m.gAt x->(m.seg (x / 64).toNat).cards (x % 64 / 16).toNat<=(m.genOf (m.get x)).1
theorem jV{m:Mem}{w:Int}(c:dH w)(b:w % 8≠6)(a:m.has (w / 8 / 64)):m.genOf w=(m.gAt (w / 8),true):=by
 unfold Mem.genOf
 rw[if_pos ⟨c,b⟩,if_pos a,zX a]
section
variable {Z:TZ} {g F0:Int}
theorem Tri.begin'(S:aO Z g F0)(o:SpOK a)(hm:a.mem=Z.m)(y:a.mem.free=F0)(B: ∀i j:Nat,(i:Int)<=g->a.cur i j=0)(n: ∀x,Z.q x=none)(s:Z.P=[]):Tri Z F0 (λ_=>none) [] a Z.sz:=by
 have G:=S.rng
 refine⟨o,by rw[hm];exact S.even,by rw[hm];exact dX.refl _,λk _ _=>by rw[hm],λk hk r=>?_,⟨λ_=>0,?_,λ_ _ _=>rfl,λk hk=>?_⟩,⟨List.nodup_nil,λH h=>by cases h⟩,λH=>⟨λh=>(by cases h),λ⟨b,h⟩=>(by cases h)⟩,λH b h=>(by cases h),λH D b h=>(by cases h),S.sound.apart,λ_ _=>rfl,λb A=> .inl (S.sound.used b A).1,λH b h=>(by cases h),λx _ _ _=>by rw[hm],λx C=> .inl (by rw[<-hm];exact C),λx v h=>?_,λH b h=>(by cases h),λp u=>(by rw[s]at u;cases u),by rw[s];exact List.nodup_nil,λx w h=>(by rw[n]at h;cases h),λx v h=>absurd (n x) h,λH b h=>(by cases h)⟩
 ·have z:g<Z.T:=by
   rcases Int.lt_or_le g Z.T with h | h
   ·exact h
   ·exact absurd (B Z.T.toNat k (by omega)) r
  rcases o.cur Z.T.toNat k with h | ⟨c,d,f,E⟩
  ·exact absurd h r
  rw[hm]at d f
  have F:=S.ok.lim
  have l:(a.cur Z.T.toNat k-1).toNat<1024:=by have:=d.2.1;omega
  by_cases t:Z.O (a.cur Z.T.toNat k-1).toNat=true
  ·have:=((S.old _ l).1 t).2
   omega
  ·simpa using t
 ·simp;exact y
 ·have:=Sp.fill_rng o Z.T k
  have e:Z.uk [] (k:Int)=0:=rfl
  rw[e];simp;omega
 ·rcases h with h | ⟨_,⟨c,d,f⟩ | ⟨H,b,i,c,_⟩⟩
  ·rw[n]at h;cases h
  ·left;rw[f,hm]
  ·cases c
def Fin(Z:TZ)(fw:Int->Option Int)(s:Sp):Prop:= ∀x,s.mem.used x->Z.O (x / 64).toNat=false->s.mem.strong x->Done Z fw s x
theorem eR.cardOf(S:aO Z g F0)(B:eR Z.m g Z.T b): ∀c∈b.cards,pQ Z c:=by
 obtain⟨l,a,e⟩:=B.cards
 rw[e]
 intro c f
 obtain⟨k,hk,i,o,rfl,j,n⟩:=Mem.mem_dirty.1 f
 obtain⟨h,p,q,_⟩:=a.has hk
 have a:=S.ok.lim
 refine⟨h,?_,by show(0:Int)<=(i:Int);omega,by show(i:Int)<4;omega⟩
 show Z.O ((k:Int)).toNat=false
 rw[show((k:Nat):Int).toNat=k by omega]
 by_cases d:Z.O k=true
 ·have:=((S.old k (by omega)).1 d).2;omega
 ·simpa using d
theorem eR.dirty(S:aO Z g F0)(B:eR Z.m g Z.T b)(hm:ii Z.m){x:Int}(d:Z.m.used x)(t:Z.O (x / 64).toNat=false)(hk:Z.m.kAt x≠3)(a:aF Z.O (Z.m.get x))(r:Good Z.m Z.sz (Z.m.get x)):(x / 64,x % 64 / 16)∈b.cards:=by
 obtain⟨l,s,e⟩:=B.cards
 obtain⟨o,p,v,w⟩:=S.oldWord r a
 obtain⟨n,_⟩:=S.sound.used _ o
 have i:=S.lt n
 have j:=S.lt d
 have c:=jV (m:=Z.m) a.1 a.2.1 n.2.1
 have f:Z.m.gAt (Z.m.get x / 8)<=g:=((S.old _ i.1).1 p).2
 have k:g<Z.m.gAt x:=by
  rcases Int.lt_or_le g (Z.m.gAt x)with q | q
  ·exact q
  ·have:=(S.old _ j.1).2 ⟨by rw[show(((x / 64).toNat:Nat):Int)=x / 64 by have:=d.1;omega];exact d.2.1,q⟩
   rw[t]at this;cases this
 have h:=hm x d hk (by rw[c]) (by rw[c];show Z.m.gAt _<_;omega)
 rw[c]at h
 rw[e,Mem.mem_dirty]
 have u:=d.1
 refine⟨(x / 64).toNat,?_,(x % 64 / 16).toNat,by omega,?_,k,Int.le_trans h f⟩
 ·rw[s.perm.mem_iff]
  unfold Mem.takenTo
  rw[List.mem_filter,List.mem_range]
  have y:=(S.ok.seg (x / 64).toNat).taken
  have z:=d.2.1.2.2
  refine⟨by have:=d.2.1.2.1;omega,?_⟩
  simp only[Bool.and_eq_true,decide_eq_true_eq,Bool.or_eq_true]
  exact⟨by omega,.inl rfl⟩
 ·rw[show(((x / 64).toNat:Nat):Int)=x / 64 by omega,show(((x % 64 / 16).toNat:Nat):Int)=x % 64 / 16 by omega]
structure Pend (Z:TZ) (fw:Int->Option Int) (s:Sp) (ks:List (Int×Value)):Prop where
 ok:dE ks
 here: ∀k i:Int,0<=k->0<=i->i<seenAt ks k->Z.O k.toNat=false->s.mem.used (k*64+i)
 pend: ∀x,s.mem.used x->Z.O (x / 64).toNat=false->s.mem.strong x->Done Z fw s x\/(s.mem.gAt x=Z.T/\seenAt ks (x / 64)<=x % 64)
theorem Pend.unseen{c:Int->Option Int}{b:List (Int×Value)}(p:Pend Z c a b){x:Int}(e:0<=x)(d:Z.O (x / 64).toNat=false)(hn: ¬a.mem.used x):seenAt b (x / 64)<=x % 64:=by
 rcases Int.lt_or_le (x % 64) (seenAt b (x / 64))with h | h
 ·have:=p.here (x / 64) (x % 64) (by omega) (by omega) h d
  rw[show x / 64*64+x % 64=x by omega]at this
  exact absurd this hn
 ·exact h
theorem Tri.pends{B:Int->Option Int}{M:List Int}{V:Int->Nat}{A m:List (Int×Value)}{f:Sp}(S:aO Z g F0)(t:Tri Z F0 B M a V)(p:Pend Z B a A)(R:cJ Z.O Z.T a A f m)(E:eZ Z.O Z.T f m):
  ∃c o v,gm Z F0 B a f c o v/\Fin Z c f/\Pend Z c f m:=by
 obtain⟨c,o,v,L,D,H⟩:=t.drains S p.ok R
 have K:=L.tri
 have s: ∀k i:Int,0<=k->0<=i->i<seenAt m k->Z.O k.toNat=false->f.mem.used (k*64+i):=λk i I r w e=>by
  rcases Int.lt_or_le i (seenAt A k)with q | q
  ·exact L.heads.used (p.here k i I r q e)
  ·exact(D k i I q w e).1
 have n: ∀x,f.mem.used x->Z.O (x / 64).toNat=false->f.mem.strong x->f.mem.gAt x=Z.T->seenAt A (x / 64)<=x % 64->Done Z c f x:=λx j e u C G=>by
  have U:=j.1
  have z:f.mem.has (((x / 64).toNat:Nat):Int):=by rw[show(((x / 64).toNat:Nat):Int)=x / 64 by omega];exact j.2.1
  have Q:=E (x / 64).toNat z C e
  rw[show(((x / 64).toNat:Nat):Int)=x / 64 by omega]at Q
  have:=D (x / 64) (x % 64) (by omega) G (by have:=j.2.2;omega) e
  rw[show x / 64*64+x % 64=x by omega]at this
  exact this.2 u
 have y:Fin Z c f:=λx j e u=>by
  by_cases d:a.mem.used x
  ·have hk:=L.heads.l.kAt d
   have F:a.mem.strong x:=by unfold Mem.strong at*;rw[<-hk.1];exact u
   rcases p.pend x d e F with h | ⟨r,w⟩
   ·exact L.done x d e h
   ·exact n x j e u (hk.2.trans r) w
  ·have C:f.mem.gAt x=Z.T:=by
    rcases K.cover x j with q | ⟨X,b,i,r,w,P⟩ | ⟨q,r,w⟩
    ·exact absurd (t.heads.used q) d
    ·have J:=(K.img X b r).2
     have W:=J.fit
     unfold Mem.gAt
     rw[P,show(b+(i:Int)) / 64=b / 64 by omega];exact J.gen
    ·have N:=(t.pair q r).used
     rcases w with rfl | rfl
     ·exact absurd N.1 d
     ·exact absurd N.2 d
   exact n x j e u C (p.unseen j.1 e d)
 exact⟨c,o,v,L,y,H,s,λx j e u=> .inl (y x j e u)⟩
theorem Tri.pend0{j:Int->Option Int}{z:List Int}{E:Int->Nat}(S:aO Z g F0)(t:Tri Z F0 j z a E)(hm:ii Z.m)(B:eR Z.m g Z.T b)(L:Z.P=[])(N: ∀x,Z.q x=none)(M: ∀c∈b.cards,nf Z j a c):Pend Z j a b.seen:=by
 refine⟨B.seenOK S.ok,λk i K u h C=>?_,λx I C H=>?_⟩
 ·unfold seenAt at h
  rw[B.seen k K]at h
  by_cases d:Z.m.has k/\(Z.m.seg k.toNat).gen=Z.T
  ·rw[if_pos d]at h
   have h:i< (Z.m.seg k.toNat).n:=h
   have hn:=(S.ok.seg k.toNat).n
   have F:(k*64+i) / 64=k:=by omega
   have J:(k*64+i) % 64=i:=by omega
   exact t.heads.used ⟨by omega,by rw[F];exact d.1,by rw[F,J];exact h⟩
  ·rw[if_neg d]at h
   have h:i< (0:Int):=h
   omega
 ·rcases t.cover x I with s | ⟨U,V,i,u,h,G⟩ | ⟨p,u,_⟩
  ·left
   have hk:=(t.kAt s).1
   have w:Z.m.strong x:=by unfold Mem.strong at*;rw[<-hk];exact H
   have o:Was Z j x (Z.m.get x):=.inr ⟨N x,.inl ⟨s,C,rfl⟩⟩
   have r:=S.sound.good x s w.1
   by_cases f:aF Z.O (Z.m.get x)
   ·have l:=B.dirty S hm s C w.1 f r
    have y:=s.1
    have:=M _ l (x % 64) (by show x % 64 / 16*16<=_;omega) (by show _< (x % 64 / 16+1)*16;omega) (by show Z.m.used (x / 64*64+x % 64);rw[show x / 64*64+x % 64=x by omega];exact s) (by show Mem.strong _ (x / 64*64+x % 64);rw[show x / 64*64+x % 64=x by omega];exact H)
    have e:(x / 64,x % 64 / 16).1*64+x % 64=x:=by show x / 64*64+x % 64=x;omega
    rw[e]at this
    exact this
   ·intro v Q
    have:=t.was_one o Q
    subst this
    refine⟨λq=>absurd q f,?_⟩
    rw[eL f]
    rcases t.val x _ o with q | ⟨_,_,q⟩
    ·exact q
    ·rw[q,eL f]
  ·right
   have D:=(t.img U V u).2
   have R:=D.fit
   have y:=I.1
   refine⟨by unfold Mem.gAt;rw[G,show(V+(i:Int)) / 64=V / 64 by omega];exact D.gen,?_⟩
   unfold seenAt
   rw[B.seen (x / 64) (by omega)]
   by_cases d:Z.m.has (x / 64)/\(Z.m.seg (x / 64).toNat).gen=Z.T
   ·rw[if_pos d]
    show(Z.m.seg (x / 64).toNat).n<=_
    have A: ¬Z.m.used x:=by rw[G];exact D.new i h
    rcases Int.lt_or_le (x % 64) (Z.m.seg (x / 64).toNat).n with q | q
    ·exact absurd ⟨y,d.1,q⟩ A
    ·exact q
   ·rw[if_neg d];show(0:Int)<=_;omega
  ·rw[L]at u;cases u
theorem Tri.final{d:Int->Option Int}{i:List Int}{p:Int->Nat}{c:Sp}{o:List (Int×Value)}(S:aO Z g F0)(t:Tri Z F0 d i a p)(hm:ii Z.m)(B:eR Z.m g Z.T b)(F:b.old=Z.O)(y:Z.P=[])(A: ∀x,Z.q x=none)(z:cJ Z.O Z.T (a.lookCards Z.O Z.T b.cards) b.seen c o)(n:eZ Z.O Z.T c o):
  ∃f s D,Tri Z F0 f s c D/\Le d f/\Fin Z f c/\Pend Z f c o/\dt a.mem c.mem:=by
 obtain⟨w,u,E,e,v⟩:=t.lookCards S b.cards (B.cardOf S)
 obtain⟨l,j,r,h,k,C⟩:=e.tri.pends S (e.tri.pend0 S hm B y A v) z n
 exact⟨l,j,r,h.tri,e.le.trans h.le,k,C,e.heads.trans h.heads⟩
theorem Fin.reach{j:Int->Option Int}{al:List Int}{F:Int->Nat}(S:aO Z g F0)(t:Tri Z F0 j al a F)(f:Fin Z j a)(D: ∀v,Z.V v->Dn Z.O j v){H:Int}(h:Reach Z H): ∃b,j H=some b:=by
 induction h with
 | root h d=>exact D _ h d
 | @older x C hn y d=>
  have e:a.mem.strong x:=by unfold Mem.strong at*;rw[(t.kAt C).1];exact y
  have u:Was0 Z j x (Z.m.get x):=.inl ⟨C,hn,rfl⟩
  by_cases r:Z.q x=none
  ·exact(f x (t.heads.used C) hn e _ (.inr ⟨r,u⟩)).1 d
  ·exact t.qwas x _ r u d
 | @step H i h A y d E=>
  obtain⟨b,z⟩:=E
  have w:=(t.img H b z).2
  have s:=(t.olds.mem H ((t.al H).2 ⟨b,z⟩)).1
  have o:=S.sound.usedAt s A (λk=>(S.ok.seg k).n.2)
  have G:=w.fit
  have l:(b+(i:Int)) / 64=b / 64:=by omega
  have B:a.mem.kAt (b+i)=Z.m.kAt (H+i):=by unfold Mem.kAt;rw[l,o.2.1];exact w.kind
  have p:Z.m.kAt (H+i)=Z.m.kAt H:=by unfold Mem.kAt;rw[o.2.1]
  have e:a.mem.strong (b+i):=by
   unfold Mem.strong at*
   rw[B]
   refine⟨y.1,?_⟩
   by_cases c:Z.m.kAt (H+i)=1
   ·right
    have:=y.2.resolve_left (λq=>q c)
    have:=w.even (by rw[<-p,c];decide)
    have:=(S.sound.two H s (by rw[<-p,c];decide)).2
    omega
   ·exact .inl c
  have u:Was0 Z j (b+i) (Z.m.get (H+i)):=.inr ⟨H,b,i,z,A,rfl,rfl⟩
  by_cases r:Z.q (b+i)=none
  ·exact(f (b+i) (w.here i A) (by rw[l];exact w.out) e _ (.inr ⟨r,u⟩)).1 d
  ·exact t.qwas _ _ r u d
end
variable{a d:Mem}{b:Tr}{i j:Prop}
theorem Sp.give_seg(s:Sp)(k:Int)(i:Nat):(s.give k).mem.seg i=(if s.mem.has k/\(i:Int)=k then Seg.none else s.mem.seg i)/\(s.give k).mem.limit=s.mem.limit:=by
 unfold Sp.give
 by_cases h:s.mem.has k
 ·rw[if_pos h]
  show(s.mem.give k).seg i=_/\(s.mem.give k).limit=_
  unfold Mem.give
  rw[if_pos h]
  refine⟨?_,rfl⟩
  rw[Mem.upd_seg]
  have:=h.1
  exact gl ⟨λe=>⟨h,by omega⟩,λe=>by have:=e.2;omega⟩ _ _
 ·rw[if_neg h,if_neg (λq=>h q.1)];exact⟨rfl,rfl⟩
theorem Sp.gives_seg(s:Sp)(old:Nat->Bool): ∀n:Nat,(s.gives old n).mem.limit=s.mem.limit/\ ∀i:Nat,(s.gives old n).mem.seg i=if i<n/\old i=true/\s.mem.has i then Seg.none else s.mem.seg i
 | 0=>⟨rfl,λi=>by rw[if_neg (by omega)];rfl⟩
 | n+1=>by
  obtain⟨d,e⟩:=Sp.gives_seg s old n
  unfold Sp.gives
  by_cases c:old n=true
  ·rw[if_pos c]
   refine⟨(Sp.give_seg _ _ 0).2.trans d,λi=>?_⟩
   rw[(Sp.give_seg _ _ i).1]
   have f:(s.gives old n).mem.has n ↔ s.mem.has n:=by
    unfold Mem.has
    rw[d,show((n:Nat):Int).toNat=n by omega,e n,if_neg (by omega)]
   rw[e i]
   by_cases b:i=n
   ·subst b
    by_cases a:s.mem.has i
    ·rw[if_pos ⟨f.2 a,rfl⟩,if_pos ⟨by omega,c,a⟩]
    ·rw[if_neg (λq=>a (f.1 q.1)),if_neg (λq=>a q.2.2),if_neg (λq=>a q.2.2)]
   ·rw[if_neg (λq=>b (by omega))]
    exact gl ⟨λq=>⟨by omega,q.2⟩,λq=>⟨by omega,q.2⟩⟩ _ _
  ·rw[if_neg c]
   refine⟨d,λi=>?_⟩
   rw[e i]
   refine gl ⟨λq=>⟨by omega,q.2⟩,λq=>⟨?_,q.2⟩⟩ _ _
   by_cases b:i=n
   ·rw[b]at q;exact absurd q.2.1 c
   ·omega
structure Unm (m m':Mem):Prop where
 limit:m'.limit=m.limit
 seg: ∀i,(m'.seg i).gen=(m.seg i).gen/\(m'.seg i).kind=(m.seg i).kind/\(m'.seg i).n=(m.seg i).n/\(m'.seg i).taken=(m.seg i).taken/\(m'.seg i).words=(m.seg i).words
theorem Unm.refl(m:Mem):Unm m m:=⟨rfl,λ_=>⟨rfl,rfl,rfl,rfl,rfl⟩⟩
theorem Unm.trans{a b c:Mem}(h:Unm a b)(k:Unm b c):Unm a c:=⟨k.limit.trans h.limit,λi=>by
 obtain⟨d,e,f,j,l⟩:=h.seg i
 obtain⟨m,n,o,p,q⟩:=k.seg i
 exact⟨m.trans d,n.trans e,o.trans f,p.trans j,q.trans l⟩⟩
theorem Unm.again(m:Mem)(k c:Int):Unm m (m.again k c):=by
 obtain⟨a,_,_,b⟩:=m.again_seg k c
 exact⟨a,b⟩
theorem Unm.has(h:Unm a d){k:Int}:d.has k ↔ a.has k:=by unfold Mem.has;rw[h.limit,(h.seg _).2.2.2.1]
theorem Unm.used{m a:Mem}(h:Unm m a){x:Int}:a.used x ↔ m.used x:=by unfold Mem.used;rw[h.has,(h.seg _).2.2.1]
theorem Unm.get{m a:Mem}(h:Unm m a)(x:Int):a.get x=m.get x:=by unfold Mem.get;rw[(h.seg _).2.2.2.2]
theorem Unm.genOf(h:Unm a d)(w:Int):d.genOf w=a.genOf w:=by
 unfold Mem.genOf
 rw[(h.seg _).1]
 have e:d.has (w / 8 / 64) ↔ a.has (w / 8 / 64):=h.has
 by_cases q:dH w/\w % 8≠6
 ·rw[if_pos q,if_pos q]
  by_cases b:a.has (w / 8 / 64)
  ·rw[if_pos b,if_pos (e.2 b),zX b,zX (e.2 b)]
  ·rw[if_neg b,if_neg (λr=>b (e.1 r)),zQ b,zQ (λr=>b (e.1 r))]
 ·rw[if_neg q,if_neg q]
theorem Unm.younger{m a:Mem}(h:Unm m a)(i:Nat)(w b:Int):a.younger (a.seg i) w b=m.younger (m.seg i) w b:=by
 unfold Mem.younger
 rw[h.genOf,(h.seg i).1,(h.seg i).2.1]
theorem Unm.markOf{m a:Mem}(h:Unm m a)(k c:Int): ∀n,a.markOf k c n=m.markOf k c n
 | 0=>rfl
 | n+1=>by rw[Mem.markOf_succ,Mem.markOf_succ,h.younger,h.get,Unm.markOf h k c n]
theorem Unm.cardLen(h:Unm a d)(k c:Int):d.cardLen k c=a.cardLen k c:=by unfold Mem.cardLen;rw[(h.seg _).2.2.1]
def Mem.mark1(m:Mem)(k c:Int):Int:=m.markOf k c (m.cardLen k c)
theorem Mem.again_cards(e:aV a)(k c:Int)(i j:Nat):((a.again k c).seg i).cards j=if((i:Int),(j:Int))=(k,c)/\a.has k/\c<4 then a.mark1 k c else(a.seg i).cards j:=by
 unfold Mem.again
 by_cases h:a.has k/\0<=c/\c<4
 ·rw[if_pos h]
  have l:=Mem.markOf_rng e k c (a.cardLen k c)
  unfold Mem.mark
  rw[if_neg (λq=>q h.1),if_neg (by omega)]
  show((a.upd _ _).seg i).cards j=_
  rw[Mem.upd_seg]
  have f:=h.1.1
  by_cases b:i=k.toNat
  ·rw[if_pos b]
   show(if j=c.toNat then _ else _)=_
   by_cases d:j=c.toNat
   ·rw[if_pos d,if_pos ⟨by rw[Prod.mk.injEq];omega,h.1,h.2.2⟩];rfl
   ·rw[if_neg d,if_neg (λq=>d (by have:=(Prod.mk.inj q.1).2;omega)),b]
  ·rw[if_neg b,if_neg (λq=>b (by have:=(Prod.mk.inj q.1).1;omega))]
 ·rw[if_neg h,if_neg (λq=>h ⟨q.2.1,by have:=(Prod.mk.inj q.1).2;omega,q.2.2⟩)]
theorem Sp.agains_spec: ∀(l:List (Int×Int)) {s:Sp} (f:SpOK s),Unm s.mem (s.agains l).mem/\ ∀i j:Nat,((s.agains l).mem.seg i).cards j=if((i:Int),(j:Int))∈l/\s.mem.has i/\j<4 then s.mem.mark1 i j else(s.mem.seg i).cards j
 | [],s,f=>⟨Unm.refl _,λi j=>by rw[if_neg (λq=>by cases q.1)];rfl⟩
 | c::l,s,f=>by
  have d:=Unm.again s.mem c.1 c.2
  obtain⟨u,p⟩:=Sp.agains_spec l (f.again c.1 c.2)
  have e:s.agains (c::l)=({s with mem:=s.mem.again c.1 c.2}:Sp).agains l:=rfl
  rw[e]
  refine⟨d.trans u,λi j=>?_⟩
  rw[p i j]
  show(if _/\(s.mem.again c.1 c.2).has i/\j<4 then(s.mem.again c.1 c.2).mark1 i j else((s.mem.again c.1 c.2).seg i).cards j)=_
  have o:(s.mem.again c.1 c.2).mark1 i j=s.mem.mark1 i j:=by unfold Mem.mark1;rw[d.markOf,d.cardLen]
  rw[o,Mem.again_cards f.mem]
  by_cases b:((i:Int),(j:Int))∈l/\s.mem.has i/\j<4
  ·rw[if_pos ⟨b.1,d.has.2 b.2.1,b.2.2⟩,if_pos ⟨List.mem_cons_of_mem _ b.1,b.2⟩]
  ·rw[if_neg (λq=>b ⟨q.1,d.has.1 q.2.1,q.2.2⟩)]
   by_cases a:((i:Int),(j:Int))=(c.1,c.2)/\s.mem.has c.1/\c.2<4
   ·obtain⟨h,k⟩:=Prod.mk.inj a.1
    rw[if_pos a,if_pos ⟨by rw[a.1];exact List.mem_cons_self,by rw[h];exact a.2.1,by have:=a.2.2;omega⟩,<-h,<-k]
   ·rw[if_neg a,if_neg]
    rintro⟨r,n,t⟩
    rcases List.mem_cons.1 r with q | q
    ·have m:((i:Int),(j:Int))=(c.1,c.2):=q
     obtain⟨h,k⟩:=Prod.mk.inj m
     exact a ⟨m,by rw[<-h];exact n,by omega⟩
    ·exact b ⟨q,n,t⟩
theorem Mem.younger_le(m:Mem)(b:Seg)(w a:Int):m.younger b w a<=a:=by unfold Mem.younger;split<;>omega
theorem Mem.markOf_le(m:Mem)(k c:Int): ∀n i:Nat,i<n->(m.genOf (m.get (k*64+c*16+i))).2=true->(m.seg k.toNat).kind≠3->(m.genOf (m.get (k*64+c*16+i))).1< (m.seg k.toNat).gen->m.markOf k c n<=(m.genOf (m.get (k*64+c*16+i))).1
 | n+1,i,hi,h1,h2,h3=>by
  rw[Mem.markOf_succ]
  by_cases e:i=n
  ·subst e
   unfold Mem.younger
   rw[if_pos ⟨h1,h2,h3⟩];omega
  ·exact Int.le_trans (Mem.younger_le _ _ _ _) (Mem.markOf_le m k c n i (by omega) h1 h2 h3)
section
variable {Z:TZ} {g F0:Int} {fw:Int->Option Int} {al:List Int} {s:Sp} {sz:Int->Nat}
structure Broke (Z:TZ) (fw:Int->Option Int) (s s':Sp):Prop where
 same:aS s.mem s'.mem
 cur:s'.cur=s.cur
 ok:SpOK s'
 strong: ∀x,s.mem.used x->Z.O (x / 64).toNat=false-> ¬(s.mem.kAt x=1/\x % 2=0)->s'.mem.get x=s.mem.get x
 weak: ∀x,s.mem.used x->Z.O (x / 64).toNat=false->s.mem.kAt x=1->x % 2=0->s'.mem.get x=44\/ ∀v,Was Z fw x v->Dn Z.O fw v/\s'.mem.get x=Fw Z.O fw v
structure Ended (Z:TZ) (tr:Tr) (s:Sp) (m:Mem):Prop where
 limit:m.limit=s.mem.limit
 seg: ∀k,Z.O k=false->(m.seg k).gen=(s.mem.seg k).gen/\(m.seg k).kind=(s.mem.seg k).kind/\(m.seg k).n=(s.mem.seg k).n/\(m.seg k).taken=(s.mem.seg k).taken/\(m.seg k).words=(s.mem.seg k).words
 gone: ∀k:Nat,k<1024->Z.O k=true->(m.seg k).taken=0
 cards: ∀i j:Nat,Z.O i=false->(m.seg i).cards j=if((i:Int),(j:Int))∈tr.cards/\s.mem.has i/\j<4 then m.mark1 i j else(s.mem.seg i).cards j
theorem Sp.ended_spec{tr:Tr}(t:tr.old=Z.O)(m:SpOK s)(b: ∀k:Nat,k<1024->Z.O k=true->s.mem.has k):Ended Z tr s (s.ended tr).mem/\SpOK (s.ended tr):=by
 have n:=Sp.gives_ok m tr.old 1024
 obtain⟨p,r⟩:=Sp.gives_seg s tr.old 1024
 obtain⟨u,h⟩:=Sp.agains_spec tr.cards n
 have a: ∀k,Z.O k=false->(s.gives tr.old 1024).mem.seg k=s.mem.seg k:=λk hk=>by rw[r k,if_neg (λq=>by rw[t,hk]at q;cases q.2.1)]
 refine⟨⟨u.limit.trans p,λk hk=>?_,λk d f=>?_,λi j v=>?_⟩,?_⟩
 ·have:=u.seg k
  rw[a k hk]at this;exact this
 ·show(((s.gives tr.old 1024).agains tr.cards).mem.seg k).taken=0
  rw[(u.seg k).2.2.2.1,r k,if_pos ⟨d,by rw[t];exact f,b k d f⟩];rfl
 ·show(((s.gives tr.old 1024).agains tr.cards).mem.seg i).cards j=_
  rw[h i j]
  have w:(s.ended tr).mem.mark1 i j=(s.gives tr.old 1024).mem.mark1 i j:=by unfold Mem.mark1 Sp.ended;rw[u.markOf,u.cardLen]
  rw[w,a i v]
  refine gl ?_ _ _
  have e:(s.gives tr.old 1024).mem.has i ↔ s.mem.has i:=by unfold Mem.has;rw[p,show((i:Nat):Int).toNat=i by omega,a i v]
  rw[e]
 ·have o: ∀(l:List (Int×Int)) {s:Sp},SpOK s->SpOK (s.agains l):=λl=>by
   induction l with
   | nil=>intro s m;exact m
   | cons c l x=>intro s m;exact x (m.again c.1 c.2)
  exact o tr.cards n
theorem Ended.used{tr:Tr}{m:Mem}(S:aO Z g F0)(h:Ended Z tr s m)(k:s.mem.limit=Z.m.limit){x:Int}:m.used x ↔ s.mem.used x/\Z.O (x / 64).toNat=false:=by
 have j:=S.ok.lim
 constructor
 ·rintro⟨c,a,d⟩
  have e:(x / 64).toNat<1024:=by have:=a.2.1;rw[h.limit,k]at this;omega
  have b:Z.O (x / 64).toNat=false:=by
   by_cases q:Z.O (x / 64).toNat=true
   ·exact absurd (h.gone _ e q) a.2.2
   ·simpa using q
  obtain⟨_,_,f,i,_⟩:=h.seg _ b
  exact⟨⟨c,⟨a.1,by rw[<-h.limit];exact a.2.1,by rw[<-i];exact a.2.2⟩,by rw[<-f];exact d⟩,b⟩
 ·rintro⟨⟨c,a,d⟩,b⟩
  obtain⟨_,_,f,i,_⟩:=h.seg _ b
  exact⟨c,⟨a.1,by rw[h.limit];exact a.2.1,by rw[i];exact a.2.2⟩,by rw[f];exact d⟩
theorem Ended.get{m:Mem}(h:Ended Z b s m){x:Int}(a:Z.O (x / 64).toNat=false):m.get x=s.mem.get x/\m.kAt x=s.mem.kAt x/\m.gAt x=s.mem.gAt x:=by
 obtain⟨c,d,_,_,e⟩:=h.seg _ a
 exact⟨by unfold Mem.get;rw[e],d,c⟩
def szE(O:Nat->Bool)(sz:Int->Nat)(a:Int):Nat:=if O (a / 64).toNat=true then 0 else sz a
structure du (Z:TZ) (g F0:Int) (fw:Int->Option Int) (al:List Int) (sz:Int->Nat) (tr:Tr) (s s':Sp) (m:Mem):Prop where
 S:aO Z g F0
 tri:Tri Z F0 fw al s sz
 fin:Fin Z fw s
 roots: ∀v,Z.V v->Dn Z.O fw v
 broke:Broke Z fw s s'
 ended:Ended Z tr s' m
 begun:eR Z.m g Z.T tr
 marked:ii Z.m
theorem du.used{tr:Tr}{a:Sp}{m:Mem}(t:du Z g F0 fw al sz tr s a m){x:Int}:m.used x ↔ s.mem.used x/\Z.O (x / 64).toNat=false:=by
 have:=t.ended.used t.S (by rw[t.broke.same.limit,t.tri.heads.limit]) (x:=x)
 rw[this,t.broke.same.used]
theorem du.kind{e:Sp}{m:Mem}(t:du Z g F0 fw al sz b s e m){x:Int}(h:m.used x):m.kAt x=s.mem.kAt x/\m.gAt x=s.mem.gAt x:=by
 obtain⟨_,d⟩:=t.used.1 h
 obtain⟨_,a,c⟩:=t.ended.get d
 exact⟨a.trans (t.broke.same.seg _).2.1,c.trans (t.broke.same.seg _).1⟩
theorem du.get{n:Sp}{m:Mem}(t:du Z g F0 fw al sz b s n m){x v:Int}(d:Was Z fw x v):m.get x=(if s.mem.kAt x=3 then v else Fw Z.O fw v)/\(s.mem.kAt x≠3->Dn Z.O fw v)\/(m.get x=44/\s.mem.kAt x=1/\x % 2=0):=by
 obtain⟨h,e⟩:=t.tri.usedOf d
 have j:=(t.ended.get e).1
 by_cases a:s.mem.kAt x=1/\x % 2=0
 ·rw[j]
  rcases t.broke.weak x h e a.1 a.2 with q | q
  ·exact .inr ⟨q,a⟩
  ·left
   rw[if_neg (by rw[a.1];decide)]
   exact⟨(q v d).2,λ_=>(q v d).1⟩
 ·left
  rw[j,t.broke.strong x h e a]
  by_cases c:s.mem.kAt x=3
  ·rw[if_pos c]
   refine⟨?_,λq=>absurd c q⟩
   rcases t.tri.val x v d with q | ⟨q,_⟩
   ·exact q
   ·exact absurd c q.1
  ·rw[if_neg c]
   have f:s.mem.strong x:=⟨c,by
    by_cases i:s.mem.kAt x=1
    ·right;have:=λq=>a ⟨i,q⟩;omega
    ·exact .inl i⟩
   obtain⟨k,l⟩:=t.fin x h e f v d
   exact⟨l,λ_=>k⟩
theorem Tri.fw_young(t:Tri Z F0 fw al s sz){v:Int}(e:Dn Z.O fw v): ¬aF Z.O (Fw Z.O fw v):=λq=>by
 by_cases a:aF Z.O v
 ·obtain⟨b,d⟩:=e a
  rw[eS a d]at q
  have f:=(t.img _ _ d).2
  have c:=q.2.2
  rw[show(b*8+v % 8) / 8=b by omega,f.out]at c
  cases c
 ·rw[eL a]at q;exact a q
theorem du.good{C:Sp}(t:du Z g F0 fw al sz b s C a){v:Int}(F:aC v)(h:Good Z.m Z.sz v)(z:Dn Z.O fw v):Good a (szE Z.O sz) (Fw Z.O fw v)/\(isTag v->a.used (Fw Z.O fw v / 8)/\szE Z.O sz (Fw Z.O fw v / 8)=Z.sz (v / 8)/\a.kAt (Fw Z.O fw v / 8)=Z.m.kAt (v / 8)/\Z.T<=a.gAt (Fw Z.O fw v / 8))/\Fw Z.O fw v % 8=v % 8:=by
 have S:=t.S
 by_cases k:aF Z.O v
 ·obtain⟨H,u⟩:=z k
  obtain⟨o,x,D,y⟩:=S.oldWord h k
  obtain⟨w,f⟩:=t.tri.img _ _ u
  rw[eS k u]
  have r:(H*8+v % 8) / 8=H:=by omega
  have n:(H*8+v % 8) % 8=v % 8:=by omega
  have p:s.mem.used H:=by simpa using f.here 0 (by omega)
  have c:a.used H:=t.used.2 ⟨p,f.out⟩
  have hk:=t.kind c
  have l:szE Z.O sz H=Z.sz (v / 8):=by unfold szE;rw[if_neg (by rw[f.out];decide),w]
  refine⟨⟨by rw[n];exact h.1,λ_=>?_⟩,λ_=>?_,n⟩
  ·rw[r,n,l,hk.1,f.kind];exact⟨o,y⟩
  ·rw[r];exact⟨c,l,by rw[hk.1,f.kind],by rw[hk.2,f.gen];exact Int.le_refl _⟩
 ·rw[eL k]
  have key:isTag v->a.used (v / 8)/\szE Z.O sz (v / 8)=Z.sz (v / 8)/\a.kAt (v / 8)=Z.m.kAt (v / 8)/\Z.T<=a.gAt (v / 8):=λe=>by
   obtain⟨o,x⟩:=h.2 e
   obtain⟨m,_⟩:=S.sound.used _ o
   have j:=S.lt m
   have d:Z.O (v / 8 / 64).toNat=false:=by
    by_cases q:Z.O (v / 8 / 64).toNat=true
    ·exact absurd ⟨⟨by unfold isTag at e;omega,j.2.2⟩,by unfold isTag at e;omega,q⟩ k
    ·simpa using q
   have c:a.used (v / 8):=t.used.2 ⟨t.tri.heads.used m,d⟩
   have hk:=t.kind c
   have i:=t.tri.kAt m
   refine⟨c,by unfold szE;rw[if_neg (by rw[d];decide),t.tri.sz0 _ m],by rw[hk.1,i.1],?_⟩
   rw[hk.2,i.2]
   have E:=S.rng
   rcases Int.lt_or_le g (Z.m.gAt (v / 8))with q | q
   ·omega
   ·have:=(S.old _ j.1).2 ⟨by rw[show(((v / 8 / 64).toNat:Nat):Int)=v / 8 / 64 by omega];exact m.2.1,q⟩
    rw[d]at this;cases this
  refine⟨⟨h.1,λe=>?_⟩,key,rfl⟩
  obtain⟨G,A,B,_⟩:=key e
  rw[A,B];exact h.2 e
theorem du.was{e:Sp}(t:du Z g F0 fw al sz b s e a){x:Int}(h:a.used x): ∃v,Was Z fw x v:=by
 obtain⟨c,d⟩:=t.used.1 h
 exact t.tri.was c d
theorem Tri.was0_any(S:aO Z g F0)(t:Tri Z F0 fw al s sz){x v:Int}(l:Was0 Z fw x v)(hk:s.mem.kAt x≠3):aC v/\Good Z.m Z.sz v:=by
 rcases l with⟨c,f,rfl⟩ | ⟨a,b,i,c,f,j,rfl⟩
 ·exact⟨(S.ok.seg _).words _,S.sound.good x c (by rw[<-(t.kAt c).1];exact hk)⟩
 ·have h:=(t.img a b c).2
  have e:=(t.olds.mem a ((t.al a).2 ⟨b,c⟩)).1
  have d:=S.sound.usedAt e f (λk=>(S.ok.seg k).n.2)
  have o:=h.fit
  refine⟨(S.ok.seg _).words _,S.sound.good _ d.1 ?_⟩
  have:s.mem.kAt x=Z.m.kAt (a+i):=by
   unfold Mem.kAt
   rw[j,show(b+i) / 64=b / 64 by omega,d.2.1];exact h.kind
  rw[<-this];exact hk
theorem Tri.was_any(S:aO Z g F0)(t:Tri Z F0 fw al s sz){x v:Int}(c:Was Z fw x v)(hk:s.mem.kAt x≠3):aC v/\(aF Z.O v->Good Z.m Z.sz v):=by
 rcases c with h | ⟨_,h⟩
 ·have W:=t.qok x v h
  exact⟨W.word,λo=>absurd o W.young⟩
 ·obtain⟨a,b⟩:=t.was0_any S h hk
  exact⟨a,λ_=>b⟩
theorem Tri.gAtT(S:aO Z g F0)(t:Tri Z F0 fw al s sz){x:Int}(k:s.mem.used x)(j:Z.O (x / 64).toNat=false):Z.T<=s.mem.gAt x:=by
 rcases t.cover x k with q | ⟨a,b,i,c,e,h⟩ | ⟨p,c,e⟩
 ·have u:=S.rng
  have d:=S.lt q
  rw[(t.kAt q).2]
  rcases Int.lt_or_le g (Z.m.gAt x)with r | r
  ·omega
  ·have:=(S.old _ d.1).2 ⟨by rw[show(((x / 64).toNat:Nat):Int)=x / 64 by omega];exact q.2.1,r⟩
   rw[j]at this;cases this
 ·have f:=(t.img a b c).2
  have o:=f.fit
  have:s.mem.gAt x=Z.T:=by unfold Mem.gAt;rw[h,show(b+(i:Int)) / 64=b / 64 by omega];exact f.gen
  omega
 ·have N:=t.pair p c
  have l:=N.used.1.1
  have n:=N.even
  have:s.mem.gAt x=Z.T:=by
   rcases e with rfl | rfl
   ·exact N.gen
   ·unfold Mem.gAt;rw[show(p+1) / 64=p / 64 by omega];exact N.gen
  omega
theorem du.goodY{l:Sp}(t:du Z g F0 fw al sz b s l a){v:Int}(e:Good s.mem sz v)(i: ¬aF Z.O v):Good a (szE Z.O sz) v/\(isTag v->a.used (v / 8)/\Z.T<=a.gAt (v / 8)):=by
 have key:isTag v->a.used (v / 8)/\szE Z.O sz (v / 8)=sz (v / 8)/\a.kAt (v / 8)=s.mem.kAt (v / 8)/\Z.T<=a.gAt (v / 8):=λc=>by
  obtain⟨h,n⟩:=e.2 c
  have d:=t.tri.sz_used t.S h
  have p:=t.tri.ok.mem.lim
  have o:=d.2.1.2.1
  have m:=d.1
  have f:Z.O (v / 8 / 64).toNat=false:=by
   by_cases q:Z.O (v / 8 / 64).toNat=true
   ·exact absurd ⟨⟨by unfold isTag at c;omega,by omega⟩,by unfold isTag at c;omega,q⟩ i
   ·simpa using q
  have hm:a.used (v / 8):=t.used.2 ⟨d,f⟩
  have hk:=t.kind hm
  exact⟨hm,by unfold szE;rw[if_neg (by rw[f];decide)],hk.1,by rw[hk.2];exact t.tri.gAtT t.S d f⟩
 refine⟨⟨e.1,λc=>?_⟩,λc=>⟨(key c).1,(key c).2.2.2⟩⟩
 obtain⟨_,j,k,_⟩:=key c
 rw[j,k];exact e.2 c
theorem du.word{r:Sp}(t:du Z g F0 fw al sz b s r a){x:Int}(m:a.used x)(hk:s.mem.kAt x≠3):aC (a.get x)/\Good a (szE Z.O sz) (a.get x)/\(isTag (a.get x)->a.used (a.get x / 8)/\Z.T<=a.gAt (a.get x / 8)):=by
 obtain⟨v,e⟩:=t.was m
 rcases t.get e with⟨f,p⟩ | ⟨q,_⟩
 ·rw[if_neg hk]at f
  rw[f]
  rcases e with h | ⟨_,h⟩
  ·have W:=t.tri.qok x v h
   rw[eL W.young]
   exact⟨W.word,t.goodY W.good W.young⟩
  ·obtain⟨c,l⟩:=t.tri.was0_any t.S h hk
   obtain⟨i,j,k⟩:=t.good c l (p hk)
   refine⟨t.tri.fw_word t.S c,i,λd=>?_⟩
   obtain⟨n,_,_,o⟩:=j (by unfold isTag at d⊢;rw[<-k];exact d)
   exact⟨n,o⟩
 ·rw[q]
  exact⟨by decide,⟨by decide,λh=>absurd h (by decide)⟩,λh=>absurd h (by decide)⟩
end
section
variable {Z:TZ} {g F0:Int} {fw:Int->Option Int} {al:List Int} {s:Sp} {sz:Int->Nat}
theorem io{x:Int}(h:fu x)(O:Nat->Bool): ¬aF O x:=λq=>by have:=h.1;have:=q.1.1;omega
theorem du.thing{w:Sp}(t:du Z g F0 fw al sz b s w a){D:Int}(h:szE Z.O sz D≠0):D∈Z.P\/ ∃C,Z.sz C≠0/\szE Z.O sz D=Z.sz C/\a.kAt D=Z.m.kAt C/\(D % 64+Z.sz C<=(a.seg (D / 64).toNat).n)/\(∀i:Nat,i<Z.sz C->a.used (D+i)/\Was0 Z fw (D+i) (Z.m.get (C+i))/\(D+i) / 64=D / 64)/\(Z.m.kAt C<=1->D % 2=0)/\((C=D/\Z.m.used C/\Z.O (C / 64).toNat=false)\/fw C=some D):=by
 have S:=t.S
 have f:Z.O (D / 64).toNat=false:=by
  by_cases q:Z.O (D / 64).toNat=true
  ·exact absurd (by unfold szE;rw[if_pos q]) h
  ·simpa using q
 have e:szE Z.O sz D=sz D:=by unfold szE;rw[if_neg (by rw[f];decide)]
 rw[e]at h⊢
 rcases t.tri.szn D h with q | ⟨C,m⟩ | q
 ·right
  have p:=t.tri.sz0 D q
  rw[p]at h⊢
  obtain⟨o,B⟩:=S.sound.used D h
  have d:a.used D:=t.used.2 ⟨t.tri.heads.used o,f⟩
  have hk:=t.kind d
  have u:=t.tri.kAt o
  refine⟨D,h,rfl,by rw[hk.1,u.1],?_,λi j=>?_,λr=>(S.sound.two D h r).2,.inl ⟨rfl,o,f⟩⟩
  ·have x:=(t.ended.seg _ f).2.2.1
   have y:=(t.broke.same.seg (D / 64).toNat).2.2.1
   have z:=(t.tri.heads.seg _ o.2.1.2.2).2.2.2
   omega
  ·have c:=S.sound.usedAt h j (λk=>(S.ok.seg k).n.2)
   exact⟨t.used.2 ⟨t.tri.heads.used c.1,by rw[c.2.1];exact f⟩,.inl ⟨c.1,by rw[c.2.1];exact f,rfl⟩,c.2.1⟩
 ·right
  obtain⟨p,l⟩:=t.tri.img C D m
  have v:=(t.tri.olds.mem C ((t.tri.al C).2 ⟨D,m⟩)).1
  have A:=l.fit
  have d: ∀i:Nat,i<Z.sz C->a.used (D+i):=λi j=>t.used.2 ⟨l.here i j,by rw[show(D+(i:Int)) / 64=D / 64 by omega];exact l.out⟩
  have hk:=t.kind (by simpa using d 0 (by omega))
  refine⟨C,v,p,by rw[hk.1,l.kind],?_,λi j=>⟨d i j,.inr ⟨C,D,i,m,j,rfl,rfl⟩,by omega⟩,l.even,.inr m⟩
  have:=(d (Z.sz C-1) (by omega)).2.2
  rw[show(D+((Z.sz C-1:Nat):Int)) / 64=D / 64 by omega]at this
  omega
 ·exact .inl q
theorem du.pair{s':Sp}(t:du Z g F0 fw al sz b s s' a){p:Int}(h:p∈Z.P):szE Z.O sz p=2/\a.kAt p=0/\a.gAt p=Z.T/\a.used p/\a.used (p+1)/\p % 2=0/\p % 64+2<=(a.seg (p / 64).toNat).n:=by
 have N:=t.tri.pair p h
 have i:=N.used.1.1
 have f:=N.even
 have c:(p+1) / 64=p / 64:=by omega
 have d:a.used p:=t.used.2 ⟨N.used.1,N.out⟩
 have e:a.used (p+1):=t.used.2 ⟨N.used.2,by rw[c];exact N.out⟩
 have hk:=t.kind d
 refine⟨by unfold szE;rw[if_neg (by rw[N.out];decide)];exact N.sz,hk.1.trans N.kind,hk.2.trans N.gen,d,e,f,?_⟩
 have:=e.2.2
 rw[c]at this
 omega
theorem du.sound{L:Sp}{m:Mem}(t:du Z g F0 fw al sz b s L m):fD m (szE Z.O sz):=by
 have S:=t.S
 have e: ∀c,szE Z.O sz c≠0->szE Z.O sz c=sz c/\Z.O (c / 64).toNat=false:=λc v=>by
  unfold szE at v⊢
  by_cases q:Z.O (c / 64).toNat=true
  ·rw[if_pos q]at v;exact absurd rfl v
  ·rw[if_neg q];exact⟨rfl,by simpa using q⟩
 refine⟨λN d=>?_,λa N r d u=>?_,λN d hk=>?_,λN d hk=>?_,λx B hk=>?_⟩
 ·rcases t.thing d with q | ⟨a,l,f,h,p,n,_⟩
  ·obtain⟨o,_,_,D,J,E,K⟩:=t.pair q
   rw[o];exact⟨D,K⟩
  ·rw[f]
   exact⟨by simpa using(n 0 (by omega)).1,p⟩
 ·rw[(e a r).1]
  exact t.tri.apart a N (by rw[<-(e a r).1];exact r) (by rw[<-(e N d).1];exact d) u
 ·rcases t.thing d with q | ⟨a,l,f,h,p,n,A,_⟩
  ·obtain⟨o,_,_,D,J,E,_⟩:=t.pair q
   exact⟨o,E⟩
  ·rw[h]at hk
   exact⟨by rw[f];exact(S.sound.two a l hk).1,A hk⟩
 ·rcases t.thing d with q | ⟨a,l,f,h,p,n,A,_⟩
  ·obtain⟨o,M,_⟩:=t.pair q
   omega
  rw[h]at hk⊢
  obtain⟨C,H,I⟩:=S.sound.obj a l hk
  have i:=n 0 (by omega)
  have z:Was0 Z fw N (Z.m.get a):=by simpa using i.2.1
  have k:m.used N:=by simpa using i.1
  have y:Z.q N=none:=by
   cases F:Z.q N with
   | none=>rfl
   | some w=>
    have:=(t.tri.qok N w F).head (by rw[<-(e N d).1];exact d)
    have:=(t.kind k).1
    omega
  have G:Was Z fw N (Z.m.get a):=.inr ⟨y,z⟩
  have j:m.get N=Z.m.get a:=by
   rcases t.get G with⟨q,_⟩ | ⟨_,q,_⟩
   ·rw[q]
    split
    ·rfl
    ·exact eL (io C _)
   ·rw[<-(t.kind k).1,h]at q;omega
  rw[j,f]
  exact⟨C,H,I⟩
 ·rw[(t.kind B).1]at hk
  exact(t.word B hk).2.1
theorem du.young{l:Sp}(t:du Z g F0 fw al sz b s l a){x:Int}(j:a.used x)(hk:s.mem.kAt x≠3)(h:a.gAt x=Z.T): ¬((a.genOf (a.get x)).2=true/\(a.genOf (a.get x)).1<a.gAt x):=by
 obtain⟨_,_,f⟩:=t.word j hk
 rintro⟨e,c⟩
 unfold Mem.genOf at e c
 by_cases d:dH (a.get x)/\a.get x % 8≠6
 ·rw[if_pos d]at e c
  have i:isTag (a.get x):=by have:=d.1.1;have:=d.2;unfold isTag;omega
  obtain⟨k,m⟩:=f i
  simp only[if_pos k.2.1]at c
  rw[h]at c
  have n:a.gAt (a.get x / 8)<Z.T:=c
  omega
 ·rw[if_neg d]at e;cases e
theorem du.marks{s':Sp}(t:du Z g F0 fw al sz b s s' a):ii a:=by
 have S:=t.S
 intro x y hk d h
 obtain⟨v,hv⟩:=t.was y
 have k:=t.kind y
 have f:s.mem.kAt x≠3:=by rw[<-k.1];exact hk
 obtain⟨w,H⟩:=t.used.1 y
 have x0:=w.1
 have L:(((x / 64).toNat:Nat):Int)=x / 64:=by omega
 have M:(((x % 64 / 16).toNat:Nat):Int)=x % 64 / 16:=by omega
 have B:=t.ended.cards (x / 64).toNat (x % 64 / 16).toNat H
 by_cases F:(x / 64,x % 64 / 16)∈b.cards
 ·-- its card was marked anew
  rw[L,M,if_pos ⟨F,t.broke.same.has.2 w.2.1,by omega⟩]at B
  rw[B]
  unfold Mem.mark1
  have e:x / 64*64+x % 64 / 16*16+(((x % 64 % 16).toNat:Nat):Int)=x:=by omega
  have hN:=y.2.2
  have:=Mem.markOf_le a (x / 64) (x % 64 / 16) (a.cardLen (x / 64) (x % 64 / 16)) (x % 64 % 16).toNat (by unfold Mem.cardLen;omega)
  rw[e]at this
  exact this d hk h
 rw[if_neg (λq=>F (by
  have:=q.1
  rw[L,M]at this
  exact this))]at B
 have o:(a.seg (x / 64).toNat).cards (x % 64 / 16).toNat=(s.mem.seg (x / 64).toNat).cards (x % 64 / 16).toNat:=by rw[B,(t.broke.same.seg _).2.2.2.2]
 rcases hv with N | ⟨I,hz | hn⟩
 ·-- it was written
  have W:=t.tri.qok x v N
  have X:a.get x=v:=by
   rcases t.get (.inl N:Was Z fw x v)with⟨D,_⟩ | ⟨_,q,R⟩
   ·rw[D,if_neg f,eL W.young]
   ·have:=W.strong.2.resolve_left (λr=>r q);omega
  rw[X]at d h⊢
  obtain⟨_,A⟩:=t.goodY W.good W.young
  have p:a.genOf v=s.mem.genOf v:=by
   unfold Mem.genOf
   by_cases c:dH v/\v % 8≠6
   ·have C:isTag v:=by have:=c.1.1;have:=c.2;unfold isTag;omega
    have hm:=(A C).1
    obtain⟨z,u2⟩:=t.used.1 hm
    rw[if_pos c,if_pos c,if_pos hm.2.1,if_pos z.2.1,zX hm.2.1,zX z.2.1]
    have:=(t.kind hm).2
    unfold Mem.gAt at this
    rw[this]
   ·rw[if_neg c,if_neg c]
  rw[p]at d h⊢
  rw[k.2]at h
  rw[o]
  exact W.mark d h
 ·obtain⟨m,_,z3⟩:=hz
  have Y:=S.lt m
  have n:Z.m.kAt x≠3:=by rw[<-(t.tri.kAt m).1];exact f
  have J:=S.sound.good x m n
  have l: ¬aF Z.O (Z.m.get x):=λq=>F (t.begun.dirty S t.marked m H n q J)
  have j:(a.seg (x / 64).toNat).cards (x % 64 / 16).toNat<=(Z.m.seg (x / 64).toNat).cards (x % 64 / 16).toNat:=by
   rw[o];exact t.tri.heads.cards _ m.2.1.2.2 _
  refine Int.le_trans j ?_
  have vw:aC (Z.m.get x):=(S.ok.seg _).words _
  rcases t.get (.inr ⟨I,.inl ⟨m,H,rfl⟩⟩:Was Z fw x (Z.m.get x))with⟨D,R⟩ | ⟨q,_⟩
  ·rw[if_neg f,eL l]at D
   rw[D]at d h⊢
   obtain⟨_,A,_⟩:=t.good vw J (R f)
   rw[eL l]at A
   by_cases c:dH (Z.m.get x)/\Z.m.get x % 8≠6
   ·have C:isTag (Z.m.get x):=by have:=c.1.1;have:=c.2;unfold isTag;omega
    obtain⟨Q,_,_,_⟩:=A C
    obtain⟨U,d2⟩:=J.2 C
    obtain⟨z,_⟩:=S.sound.used _ U
    have K:=jV c.1 c.2 Q.2.1
    have E:=jV c.1 c.2 z.2.1
    have u:a.gAt (Z.m.get x / 8)=Z.m.gAt (Z.m.get x / 8):=((t.kind Q).2).trans (t.tri.kAt z).2
    have G:a.gAt x=Z.m.gAt x:=k.2.trans (t.tri.kAt m).2
    have:=t.marked x m n (by rw[E]) (by rw[E];rw[K,G,u]at h;exact h)
    rw[E]at this
    rw[K,u];exact this
   ·unfold Mem.genOf at d
    rw[if_neg c]at d;cases d
  ·rw[q]at d
   unfold Mem.genOf at d
   rw[if_neg (by decide)]at d;cases d
 ·obtain⟨af,ag,i,n1,n2,n3,n4⟩:=hn
  have P:=(t.tri.img af ag n1).2
  have hf:=P.fit
  have V:a.gAt x=Z.T:=by
   rw[k.2]
   unfold Mem.gAt
   rw[n3,show(ag+(i:Int)) / 64=ag / 64 by omega];exact P.gen
  exact absurd ⟨d,h⟩ (t.young y f V)
end
structure Inv (s:Sp) (sz:Int->Nat):Prop where
 ok:SpOK s
 even:s.mem.Even
 sound:fD s.mem sz
 marked:ii s.mem
theorem lh(c: ∀k,d.has k ↔ a.has k)(b: ∀i,(d.seg i).gen=(a.seg i).gen)(w:Int):d.genOf w=a.genOf w:=by
 unfold Mem.genOf
 rw[b]
 by_cases q:dH w/\w % 8≠6
 ·rw[if_pos q,if_pos q]
  have e:=c (w / 8 / 64)
  by_cases h:a.has (w / 8 / 64)
  ·rw[if_pos h,if_pos (e.2 h),zX h,zX (e.2 h)]
  ·rw[if_neg h,if_neg (λr=>h (e.1 r)),zQ h,zQ (λr=>h (e.1 r))]
 ·rw[if_neg q,if_neg q]
theorem l7{v:Int}(h: ¬isTag v):a.genOf v=(0,false):=by
 unfold Mem.genOf
 rw[if_neg (λq=>h (by have:=q.1.1;have:=q.2;unfold isTag;omega))]
theorem oa{sz:Int->Nat}(i:fD a sz)(c:dt a d){v:Int}(h:Good a sz v):d.genOf v=a.genOf v:=by
 by_cases e:isTag v
 ·obtain⟨f,_⟩:=i.used _ (h.2 e).1
  have b:=f.2.1
  unfold Mem.genOf
  by_cases q:dH v/\v % 8≠6
  ·rw[if_pos q,if_pos q,if_pos b,if_pos (c.has b),zX b,zX (c.has b),(c.seg _ b.2.2).1]
  ·rw[if_neg q,if_neg q]
 ·rw[l7 e,l7 e]
theorem l8(b:aV a)(v:Int):0<=(a.genOf v).1/\(a.genOf v).1<=4:=by
 unfold Mem.genOf
 split
 ·split
  ·exact(b.seg _).gen
  ·exact⟨Int.le_refl _,by show(0:Int)<=4;decide⟩
 ·exact⟨Int.le_refl _,by show(0:Int)<=4;decide⟩
theorem ob{s:Sp}{g k n:Int}(h:(s.alloc g k n).2.2=0):may g k n:=by
 by_cases hm:may g k n
 ·exact hm
 ·unfold Sp.alloc at h
  rw[if_pos hm]at h
  exact absurd h (by show ¬((1:Int)=0);decide)
def Lift(m:Mem)(sz:Int->Nat)(m':Mem)(sz':Int->Nat):Prop:= ∀v,Good m sz v->Good m' sz' v
theorem Lift.refl(m:Mem)(sz:Int->Nat):Lift m sz m sz:=λ_ h=>h
theorem Lift.trans{a b c:Mem}{x y z:Int->Nat}(h:Lift a x b y)(k:Lift b y c z):Lift a x c z:=λv q=>k v (h v q)
def FW(v:Int):Prop:=v % 8=0\/(v % 8=4/\mayW v=true)\/isTag v
structure Snd (m:Mem) (sz:Int->Nat):Prop where
 cover: ∀x,m.used x-> ∃(a:Int) (i:Nat),sz a≠0/\i<sz a/\x=a+i
 fine: ∀a (i:Nat),sz a≠0->i<sz a->m.kAt a≠3->(2<=m.kAt a->i≠0)->FW (m.get (a+i))
def NoWk(m:Mem):Prop:= ∀x,m.used x->m.kAt x≠1
structure Kp (m:Mem) (sz:Int->Nat) (m':Mem) (sz':Int->Nat) (F W:Prop):Prop where
 snd:F->Snd m sz->Snd m' sz'
 nowk:W->NoWk m->NoWk m'
theorem Kp.refl{sz:Int->Nat}:Kp a sz a sz i j:=⟨λ_ h=>h,λ_ h=>h⟩
theorem Kp.trans{m c d:Mem}{sz a b:Int->Nat}(h:Kp m sz c a i j)(k:Kp c a d b i j):Kp m sz d b i j:=⟨λf q=>k.snd f (h.snd f q),λw q=>k.nowk w (h.nowk w q)⟩
theorem Kp.mono{m d:Mem}{sz a:Int->Nat}{b c:Prop}(h:Kp m sz d a i j)(f:b->i)(w:c->j):Kp m sz d a b c:=⟨λq=>h.snd (f q),λq=>h.nowk (w q)⟩
theorem Kp.store{m:Mem}{sz:Int->Nat}{x v:Int}(p:0<=x)(n: ∀a,sz a≠0->m.used a):Kp m sz (m.store x v).1 sz (FW v) True:=by
 by_cases k:m.used x
 case neg=>
  have e:m.store x v=(m,18):=by unfold Mem.store;rw[if_neg k]
  rw[e];exact .refl
 have b: ∀y,(m.store x v).1.kAt y=m.kAt y:=λy=>(Mem.store_seg _).2.1
 refine⟨λl S=>⟨λy c=>S.cover y (Mem.store_used.1 c),λa i d o j f=>?_⟩,λ_ h y c=>?_⟩
 ·rw[b]at j f
  have:=(n a d).1
  rw[Mem.store_get k _ (by omega)]
  split
  ·exact l
  ·exact S.fine a i d o j f
 ·rw[b];exact h y (Mem.store_used.1 c)
theorem Inv.putF{s:Sp}{sz:Int->Nat}(I:Inv s sz){d f:Int}{j:List Int}(b4:0<=d/\d<=3)(ht:f=tagK d)(hw: ∀w∈j,aC w)(hP:d<=1->j.length=2)(hO:2<=d-> ∃R fs,j=R::fs/\fu R/\rawK (hk R)=d/\hn R=fs.length)
  (hG:d≠3-> ∀w∈j,Good s.mem sz w):
  ∃M,Inv (s.put d f j).1 M/\Lift s.mem sz (s.put d f j).1.mem M/\((s.put d f j).2.2=0->aC (s.put d f j).2.1/\Good (s.put d f j).1.mem M (s.put d f j).2.1)/\(s.put d f j).1.cf=s.cf/\Kp s.mem sz (s.put d f j).1.mem M (∀(i:Nat) (h:i<j.length),d≠3->(2<=d->i≠0)->FW j[i]) (d≠1):=by
 have ag:f=1\/f=2\/f=3\/f=6:=by
  rw[ht];unfold tagK
  split
  ·exact .inl rfl
  split
  ·exact .inr (.inl rfl)
  ·exact .inr (.inr (.inl rfl))
 by_cases hf:(s.alloc 0 d j.length).2.2=0
 case neg=>
  have e:s.put d f j=(s,0,(s.alloc 0 d j.length).2.2):=by unfold Sp.put;rw[if_neg hf]
  rw[e]
  exact⟨sz,I,Lift.refl _ _,λh=>absurd h hf,rfl,.refl⟩
 have O:=ob hf
 obtain⟨a,e1,F,e2,a3,au,_⟩:=Sp.put_ok I.ok O ag hw hf
 obtain⟨kp,N,U⟩:=F.lay I.ok.mem
 have L:=aS.sets j (s.alloc 0 d j.length).1.mem a
 obtain⟨ev,a9⟩:=F.even I.even (λh=>by rw[hP h];rfl)
 have Y:=Sp.alloc_cf s 0 d j.length
 have a0:(s.put d f j).1.cf=s.cf:=by
  unfold Sp.cf at Y⊢
  rw[e2,L.count,L.free];exact Y
 rw[e1]
 generalize (s.put d f j).1=s2 at*
 generalize (s.alloc 0 d j.length).1.mem=m1 at*
 rw[<-e2]at N U kp L
 generalize C:s2.mem=z at*
 obtain⟨bd,be,a2⟩:=F.addr
 have b5:1<=j.length/\j.length<=63:=by have:=O.2;omega
 have R:dt s.mem z:=(F.heads (by omega)).trans L.heads
 have T: ∀x,z.used x ↔ s.mem.used x\/(a<=x/\x<a+j.length):=λx=>by rw[L.used,F.usedIff (by omega)]
 have o: ∀x,s.mem.used x->z.get x=s.mem.get x:=λx A=>(kp.used x A).2.1
 have y: ∀x,s.mem.used x->z.kAt x=s.mem.kAt x/\z.gAt x=s.mem.gAt x:=λx A=>⟨(kp.used x A).2.2.1,(kp.used x A).2.2.2.1⟩
 have u: ∀i:Nat,(h:i<j.length)->z.get (a+i)=j[i]:=λi h=>by
  rw[N _ (by omega),if_pos ⟨by omega,by omega⟩,show(a+(i:Int)-a).toNat=i by omega]
  simp[h]
 have K: ∀i:Nat,i<j.length->z.kAt (a+i)=d/\z.gAt (a+i)=0:=λi h=>by
  have a8:(a+(i:Int)) / 64=a / 64:=by omega
  unfold Mem.kAt Mem.gAt
  rw[a8,(L.seg _).2.1,(L.seg _).1]
  exact⟨F.new.2.2.1,F.new.2.1⟩
 have a1: ∀i:Nat,i<j.length-> ¬s.mem.used (a+i):=λi p l=>F.not_in l ⟨by omega,by omega⟩
 have D: ¬s.mem.used a:=by have:=a1 0 (by omega);simpa using this
 have V: ∀b,sz b≠0->b≠a:=λb t e=>D (e▸(I.sound.used b t).1)
 have S:=I.sound
 have H: ∀x,z.used x-> ¬s.mem.used x-> ∃i:Nat,i<j.length/\x=a+i:=λx A hn=>by
  rcases(T x).1 A with q | q
  ·exact absurd q hn
  ·exact⟨(x-a).toNat,by omega,by omega⟩
 have J:z.kAt a=d:=by simpa using(K 0 (by omega)).1
 have ac:z.get a=j[0]'(by omega):=by simpa using u 0 (by omega)
 have E:Lift s.mem sz z (λx=>if x=a then j.length else sz x):=λv hv=>⟨hv.1,λah=>by
  obtain⟨Q,B⟩:=hv.2 ah
  show(if v / 8=a then j.length else sz (v / 8))≠0/\_
  rw[if_neg (V _ Q),(y _ (S.used _ Q).1).1]
  exact⟨Q,B⟩⟩
 refine⟨λx=>if x=a then j.length else sz x,⟨a3,C▸L.even ev,?_,?_⟩,C▸E,λ_=>⟨⟨by show 0<=a*8+f;omega,by show a*8+f<_;omega⟩,?_⟩,a0,?_⟩
 ·-- sound
  rw[C]
  refine⟨λb t=>?_,λb P t G ae=>?_,λb t m=>?_,λb t m=>?_,λx A r=>?_⟩
  ·by_cases e:b=a
   ·subst e
    rw[if_pos rfl]
    refine⟨(T b).2 (.inr ⟨by omega,by omega⟩),?_⟩
    rw[(L.seg _).2.2.1,F.new.2.2.2];omega
   ·rw[if_neg e]at t⊢
    obtain⟨u1,u2⟩:=S.used b t
    have:=(kp.used b u1).2.2.2.2
    exact⟨(T b).2 (.inl u1),by omega⟩
  ·by_cases e:b=a
   ·subst e
    rw[if_pos rfl]
    rw[if_neg (by omega)]at G
    have:=F.not_in (S.used P G).1
    omega
   ·rw[if_neg e]at t⊢
    by_cases e':P=a
    ·subst e'
     rcases Int.lt_or_le P (b+sz b)with q | q
     ·exfalso
      have X:=S.usedAt t (i:=(P-b).toNat) (by omega) (λk=>(I.ok.mem.seg k).n.2)
      rw[show b+(((P-b).toNat:Nat):Int)=P by omega]at X
      exact D X.1
     ·exact q
    ·rw[if_neg e']at G
     exact S.apart b P t G ae
  ·by_cases e:b=a
   ·subst e
    rw[if_pos rfl]
    rw[J]at m
    exact⟨hP m,a9 m⟩
   ·rw[if_neg e]at t⊢
    rw[(y b (S.used b t).1).1]at m
    exact S.two b t m
  ·by_cases e:b=a
   ·subst e
    rw[if_pos rfl]
    rw[J]at m⊢
    obtain⟨ab,fs,e3,o1,o2,o3⟩:=hO m
    have:z.get b=ab:=by rw[ac];simp[e3]
    rw[this]
    refine⟨o1,o2.symm,?_⟩
    rw[e3,o3];simp
   ·rw[if_neg e]at t⊢
    have u1:=(S.used b t).1
    rw[(y b u1).1]at m⊢
    rw[o b u1]
    exact S.obj b t m
  ·by_cases l:s.mem.used x
   ·rw[(y x l).1]at r
    rw[o x l]
    exact E _ (S.good x l r)
   ·obtain⟨i,p,rfl⟩:=H x A l
    rw[(K i p).1]at r
    rw[u i p]
    exact E _ (hG r _ (List.getElem_mem p))
 ·-- marked
  rw[C]
  intro x A r Q B
  by_cases l:s.mem.used x
  ·obtain⟨k1,k2⟩:=y x l
   rw[o x l]at Q B⊢
   rw[k1]at r
   have hg:=S.good x l r
   have e:=oa S R hg
   rw[e]at Q B⊢
   rw[k2]at B
   rw[R.cards _ l.2.1.2.2]
   exact I.marked x l r Q B
  ·obtain⟨i,p,rfl⟩:=H x A l
   rw[(K i p).2]at B
   have:=(l8 (C▸a3.mem) (z.get (a+i))).1
   omega
 ·-- the new thing
  show Good z _ (a*8+f)
  have e8:(a*8+f) / 8=a:=by omega
  have em:(a*8+f) % 8=f:=by omega
  have h6:f≠6:=by rw[ht];unfold tagK;split<;>(try split)<;>decide
  refine⟨by rw[em];exact h6,λ_=>?_⟩
  rw[e8,em,J]
  show(if a=a then j.length else sz a)≠0/\_
  rw[if_pos rfl]
  exact⟨by omega,ht⟩
 ·-- what audits look for
  refine⟨λhF hS=>⟨λx A=>?_,λc i W p h3 B=>?_⟩,λhW hN x A=>?_⟩
  ·by_cases l:s.mem.used x
   ·obtain⟨c,i,c1,c2,c3⟩:=hS.cover x l
    exact⟨c,i,by show(if c=a then j.length else sz c)≠0;rw[if_neg (V c c1)];exact c1,by show i< (if c=a then j.length else sz c);rw[if_neg (V c c1)];exact c2,c3⟩
   ·obtain⟨i,p,e⟩:=H x A l
    exact⟨a,i,by show(if a=a then j.length else sz a)≠0;rw[if_pos rfl];omega,by show i< (if a=a then j.length else sz a);rw[if_pos rfl];exact p,e⟩
  ·replace W:(if c=a then j.length else sz c)≠0:=W
   replace p:i< (if c=a then j.length else sz c):=p
   by_cases e:c=a
   ·subst e
    rw[if_pos rfl]at p
    rw[J]at h3 B
    rw[u i p]
    exact hF i p h3 B
   ·rw[if_neg e]at W p
    have l:=S.usedAt W p (λk=>(I.ok.mem.seg k).n.2)
    rw[(y c (S.used c W).1).1]at h3 B
    rw[o _ l.1]
    exact hS.fine c i W p h3 B
  ·by_cases l:s.mem.used x
   ·rw[(y x l).1];exact hN x l
   ·obtain⟨i,p,rfl⟩:=H x A l
    rw[(K i p).1];exact hW
theorem Inv.put{s:Sp}{sz:Int->Nat}(I:Inv s sz){kind tag:Int}{ws:List Int}(c:0<=kind/\kind<=3)(m:tag=tagK kind)(n: ∀w∈ws,aC w)(l:kind<=1->ws.length=2)(k:2<=kind-> ∃b d,ws=b::d/\fu b/\rawK (hk b)=kind/\hn b=d.length)
  (j:kind≠3-> ∀w∈ws,Good s.mem sz w):
  ∃a,Inv (s.put kind tag ws).1 a/\Lift s.mem sz (s.put kind tag ws).1.mem a/\((s.put kind tag ws).2.2=0->aC (s.put kind tag ws).2.1/\Good (s.put kind tag ws).1.mem a (s.put kind tag ws).2.1)/\(s.put kind tag ws).1.cf=s.cf:=by
 obtain⟨a,e,f,h,i,_⟩:=I.putF c m n l k j
 exact⟨a,e,f,h,i⟩
theorem Mem.store_cards(h:aV a){x v:Int}(f:a.used x)(l:aC v)(j c:Nat):((a.store x v).1.seg j).cards c=if j=(x / 64).toNat/\c=(x % 64 / 16).toNat then a.younger (a.seg j) v ((a.seg j).cards c)else(a.seg j).cards c:=by
 have t:=f.1
 have b:=aS.set a x v
 have n:aV (a.set x v):=h.set x l
 have m:(a.set x v).younger ((a.set x v).seg (x / 64).toNat) v (((a.set x v).seg (x / 64).toNat).cards (x % 64 / 16).toNat)=a.younger (a.seg (x / 64).toNat) v ((a.seg (x / 64).toNat).cards (x % 64 / 16).toNat):=by
  unfold Mem.younger
  rw[lh (λk=>b.has) (λi=>(b.seg i).1),(b.seg _).1,(b.seg _).2.1,(b.seg _).2.2.2.2]
 have r:0<=a.younger (a.seg (x / 64).toNat) v ((a.seg (x / 64).toNat).cards (x % 64 / 16).toNat)/\a.younger (a.seg (x / 64).toNat) v ((a.seg (x / 64).toNat).cards (x % 64 / 16).toNat)<=5:=by
  have o:=(h.seg (x / 64).toNat).cards (x % 64 / 16).toNat
  have p:=l8 h v
  unfold Mem.younger
  split<;>omega
 unfold Mem.store
 rw[if_pos f,m]
 unfold Mem.mark
 rw[if_neg (λq=>q (b.has.2 f.2.1)),if_neg (by omega)]
 show(((a.set x v).upd _ _).seg j).cards c=_
 rw[Mem.upd_seg]
 by_cases d:j=(x / 64).toNat
 ·rw[if_pos d]
  show(if c=(x % 64 / 16).toNat then _ else((a.set x v).seg (x / 64).toNat).cards c)=_
  by_cases e:c=(x % 64 / 16).toNat
  ·rw[if_pos e,if_pos ⟨d,e⟩,d,e]
  ·rw[if_neg e,if_neg (λq=>e q.2),d,(b.seg _).2.2.2.2]
 ·rw[if_neg d,if_neg (λq=>d q.1),(b.seg _).2.2.2.2]
theorem Inv.store{s:Sp}{sz:Int->Nat}(I:Inv s sz){x v:Int}(t:aC v)(z:Good s.mem sz v)(A: ∀a,sz a≠0->2<=s.mem.kAt a->x≠a):Inv {s with mem:=(s.mem.store x v).1} sz/\Lift s.mem sz (s.mem.store x v).1 sz/\({s with mem:=(s.mem.store x v).1}:Sp).cf=s.cf:=by
 by_cases p:s.mem.used x
 case neg=>
  have e:s.mem.store x v=(s.mem,18):=by unfold Mem.store;rw[if_neg p]
  rw[e];exact⟨I,Lift.refl _ _,rfl⟩
 have S:=I.sound
 have C:=p.1
 have c: ∀y,0<=y->(s.mem.store x v).1.get y=if y=x then v else s.mem.get y:=λy j=>Mem.store_get p y j
 have d: ∀y,(s.mem.store x v).1.kAt y=s.mem.kAt y:=λy=>(Mem.store_seg _).2.1
 have r: ∀y,(s.mem.store x v).1.gAt y=s.mem.gAt y:=λy=>(Mem.store_seg _).1
 have o: ∀w,(s.mem.store x v).1.genOf w=s.mem.genOf w:=λw=>lh (λk=>Mem.store_has) (λi=>(Mem.store_seg i).1) w
 have f:Lift s.mem sz (s.mem.store x v).1 sz:=λw h=>⟨h.1,λB=>by rw[d];exact h.2 B⟩
 refine⟨⟨I.ok.store x t,I.even.store x v,?_,?_⟩,f,?_⟩
 ·show fD (s.mem.store x v).1 sz
  refine⟨λb n=>?_,S.apart,λb n hk=>S.two b n (by rw[<-d];exact hk),λb n hk=>?_,λy j hk=>?_⟩
  ·rw[Mem.store_used,(Mem.store_seg _).2.2];exact S.used b n
  ·rw[d]at hk⊢
   have u:=(S.used b n).1.1
   rw[c b u,if_neg (λe=>A b n hk e.symm)]
   exact S.obj b n hk
  ·rw[Mem.store_used]at j
   rw[d]at hk
   rw[c y j.1]
   by_cases e:y=x
   ·rw[if_pos e];exact f _ z
   ·rw[if_neg e];exact f _ (S.good y j hk)
 ·show ii (s.mem.store x v).1
  intro y j hk m l
  rw[Mem.store_used]at j
  rw[d]at hk
  rw[o]at m l⊢
  rw[r]at l
  rw[c y j.1]at m l⊢
  rw[Mem.store_cards I.ok.mem p t]
  by_cases q:(y / 64).toNat=(x / 64).toNat/\(y % 64 / 16).toNat=(x % 64 / 16).toNat
  ·rw[if_pos q]
   by_cases e:y=x
   ·rw[if_pos e]at m l⊢
    unfold Mem.younger
    rw[if_pos ⟨m,hk,l⟩]
    exact Int.min_le_right _ _
   ·rw[if_neg e]at m l⊢
    exact Int.le_trans (Mem.younger_le _ _ _ _) (I.marked y j hk m l)
  ·rw[if_neg q]
   have e:y≠x:=λe=>q (by rw[e];exact⟨rfl,rfl⟩)
   rw[if_neg e]at m l⊢
   exact I.marked y j hk m l
 ·unfold Sp.cf
  show(s.mem.store x v).1.count+(s.mem.store x v).1.free=_
  rw[Mem.store_lim.2.2,Mem.store_lim.2.1]
def OfIs(w k t a x m:Int):Prop:=
 (w % 8=0/\k=1/\t=0/\a=0/\x=signed w / 8/\m=0)\/
 ((w % 8=1\/w % 8=2\/w % 8=3\/w % 8=6)/\w / 8<65536/\k=2/\t=w % 8/\a=w / 8/\x=0/\m=0)\/
 (w % 8=4/\w / 8 % 32<7/\w / 256=0/\k=3/\t=0/\a=w / 8 % 32/\x=0/\m=0)\/
 (w % 8=4/\w / 8 % 32=7/\ky (w / 256)=true/\k=4/\t=0/\a=w / 256/\x=0/\m=0)\/
 (w % 8=5/\(1<=w / 8 % 32/\w / 8 % 32<=13/\w / 256 % 256<=62)/\k=5/\t=w / 8 % 32/\a=w / 256 % 256/\x=0/\m=w / 65536)\/
 (mayW w=false/\k=0/\t=0/\a=0/\x=0/\m=0)
end Go.Proofs.YtfhbhckhmnleoaaGreat
namespace Go.Proofs.YtfhbhckhmnleoaaGreat
open Go Go.Proofs.Tryz
open Go.ChangeShapes Go.WideShapes Go.ChangeAt Go.RowKit
variable{H a:zV}
theorem qG:ownKnob prog.godebug=none:=by kernel_rfl
theorem laidOut:laidOutB prog=true:=by kernel_rfl
theorem jg{H:Type}{enc:TypeId×Value->H}{P:Program}(i:laidOutB P=true){W f:World}(g:Below W.heap.size W f):
  ∀{a:List TypeId} {vs:List Value} {c:List (DataW H)} {ps:List MemPlace},(∀t∈a,P.readableRec t=true/\t<P.types.size)->DataW.TrodAll enc P W 0 (λ_=>true) true a vs c ps->(∀x∈ps,x.block<W.heap.size)->
   DataW.TrodAll enc P f 0 (λb=>decide (b<W.heap.size)) true a vs c ps
 | [],[],[],_,_,h,_=>h
 | [],[],_::_,_,_,h,_=>h.elim
 | [],_::_,_,_,_,h,_=>h.elim
 | _::_,[],_,_,_,h,_=>h.elim
 | _::_,_::_,[],_,_,h,_=>h.elim
 | t::a,v::vs,d::c,ps,hr,h,hlt=>by
  obtain⟨p,q,j,k,rfl⟩:=h
  exact⟨p,q,Below.trod i (hr t (List.mem_cons_self ..)).1 (hr t (List.mem_cons_self ..)).2 j g (λx e=>hlt x (List.mem_append_left _ e)),
   jg i g (λu l=>hr u (List.mem_cons_of_mem _ l)) k (λx e=>hlt x (List.mem_append_right _ e)),rfl⟩
theorem pR{H:Type}{enc:TypeId×Value->H}{P:Program}{fn:Func}{s:ChangeSpec}{W o:World}{args:Array Value}{f h:List (DataW H)}{c:List MemPlace}{u:TypeId}
  (y:laidOutB P=true) (b:s.vars=[]) (e: ∀t∈fn.params.toList,P.readableRec t=true/\t<P.types.size) (n:fn.resultTypes= #[u]) (d:P.underlying u=some .bool)
  (a:s.fn H f={results:=[.lit (.bool true)],args:=f})
  (j:DataW.Whole enc P fn.params.toList s.vars false W args.toList f h c) (r:Below W.heap.size W o):
  s.post enc P fn false true false false W args vT o:=by
 have k:=j
 have m:=j.lt
 obtain⟨p,q,v,i,rfl,_,_⟩:=j
 have l:h=[]/\q=[]:=by
  rw[b]at i
  cases h with
  | nil=>exact⟨rfl,i⟩
  | cons g h=>exact i.elim
 obtain⟨rfl,rfl⟩:=l
 refine⟨f,[],p++[],[],p,[],k,?_,?_,?_,r.frame _,by simp⟩
 ·rw[List.append_nil,a,n]
  exact trodAll_cons_mk (shut_bool d _) trodAll_mk0
 ·rw[List.append_nil,a]
  exact jg y r e v (λx z=>m x (List.mem_append_left _ z))
 ·rw[List.append_nil,a,b]
  rfl
set_option maxRecDepth 100000 in
theorem oc{L:Os}(d:L.Started){H:Type}{enc:TypeId×Value->H}{f:FuncId}{fn:Func}{s:ChangeSpec}{tb:TypeId}
  (l:Tryz.checked.prog.inits.idxOf? f=none) (G:prog.funcs[f]?=some fn)
  (k: ∃(w:World) (c:Tape) (i:Input),w.os=L/\(w.forCall c i).Shaped Tryz.checked.prog/\i.vars=[]/\Input.okWide Tryz.checked.prog (w.forCall c i) .any w.heap.size f i/\
   s.pre6 enc Tryz.checked.prog fn [] false (w.forCall c i).memory i.args/\Assume.holds {} Tryz.checked.prog (lone (Frame.enter Tryz.checked.prog f i.args .normal) [] (w.forCall c i)))
  (b:s.vars=[]) (r:(fn.params.toList.all λt=>prog.readableRec t && decide (t<prog.types.size))=true) (J:fn.resultTypes= #[tb]) (m:prog.underlying tb=some .bool)
  (n: ∀a:List (DataW H),a.length=fn.params.size->s.fn H a={results:=[.lit (.bool true)],args:=a})
  (A: ∀(W:World) (base:Nat) (args:Array Value) (a:List (DataW H)) (p:List MemPlace),
   (∀(j:Nat) t v,fn.params[j]?=some t->args[j]?=some v->Value.okWide prog W .any base t v)->
   DataW.TrodAll enc prog W 0 (λ_=>true) true fn.params.toList args.toList a p->
   (DataW.weightsEach prog fn.params.toList a).all (· <=reachBytes)=true->
   HC prog f args W.heap (λv R=>v=vT/\Ext W.heap R)):
  ReturnsInHanded {} Tryz.checked L f .any (s.pre6 enc prog fn [] false) (s.post enc prog fn false true false false):=by
 refine returnsInHanded_of_change_sized (C:=Tryz.checked) qG d l G k ?_
 intro W base args a E D y O _ u _
 have F:=O
 obtain⟨p,q,M,N,rfl,_,_⟩:=O
 have I:E=[]:=by
  rw[b]at N
  cases E with
  | nil=>rfl
  | cons g E=>exact N.elim
 subst I
 have o:a.length=fn.params.size:=by
  have: ∀(z:List TypeId) (vs:List Value) (a:List (DataW H)) (ps:List MemPlace),DataW.TrodAll enc prog W 0 (λ_=>true) true z vs a ps->a.length=z.length:=by
   intro z
   induction z with
   | nil=>intro vs a ps h;cases vs<;>cases a<;>first | rfl | exact h.elim
   | cons t z X=>intro vs a ps h;cases vs<;>cases a<;>first | exact h.elim | (obtain⟨p,q,_,S,_⟩:=h;simp[X _ _ _ S])
  simpa using this _ _ _ _ M
 have x:(DataW.weightsEach prog fn.params.toList a).all (· <=reachBytes)=true:=by
  have e:s.plain.varTypes prog=[]:=by unfold ChangeSpec.plain DataSpec.varTypes;simp[b]
  rw[List.append_nil]at u
  have:=u
  rw[show fn.params.toList++s.plain.varTypes Tryz.checked.prog=fn.params.toList by rw[show s.plain.varTypes Tryz.checked.prog=[]from e,List.append_nil]]at this
  exact this
 refine(A W base args a p y M x W rfl).mono λe Y ⟨v,T,K,V,Q⟩=>?_
 subst V
 refine⟨_,T,pR laidOut b (λt U=>?_) J m (n a o) F ⟨K.os,K.tape,K.output,Q.size,Q.old⟩⟩
 have:=List.all_eq_true.1 r t U
 rw[Bool.and_eq_true]at this
 exact⟨this.1,of_decide_eq_true this.2⟩
theorem wf_i64{n:Int}(h:(Lit.int .i64 n).wf=true): -9223372036854775808<=n/\n<=9223372036854775807:=by
 simp only[Lit.wf,Bool.and_eq_true,decide_eq_true_eq]at h
 exact h
theorem wf_u64{n:Int}(h:(Lit.int .u64 n).wf=true):aC n:=by
 simp only[Lit.wf,Bool.and_eq_true,decide_eq_true_eq]at h
 have b:n<=18446744073709551615:=h.2
 have a:(0:Int)<=n:=h.1
 exact⟨a,by omega⟩
open Go.ChangeShapes Go.WideShapes
inductive Shape where
 | int (k:IntKind)
 | bool
 | str
 | slice (sz:Nat) (e:Shape)
 | pair (n:Nat) (a b:Shape)
 | unit
def Rd(B:Nat)(H:zV):Shape->List Value->Prop
 | .int k,cs=> ∃n,cs=[.int k n]/\(Lit.int k n).wf=true
 | .bool,cs=> ∃b,cs=[.bool b]
 | .str,cs=> ∃s:ByteArray,cs=[.string s]/\s.size<=B
 | .slice sz e,cs=> ∃p n c,cs=[.slice p n c]/\n<=c/\n<=B/\(p=none->n=0)/\ ∀a,p=some a-> ∀i,i<n-> ∃vs,vs.length=sz/\aU H (a.add (i*sz)) 0 vs/\Rd B H e vs
 | .pair n a b,cs=>Rd B H a (cs.take n)/\Rd B H b (cs.drop n)
 | .unit,cs=>cs=[]
def pS{Hd:Type}(B:Nat)(d:DataW Hd):Prop:=B=maxLen\/Rows.uptoBulk d<=B
theorem pd{Hd:Type}{d:DataW Hd}{l:List (DataW Hd)}(h:d∈l):Rows.uptoBulk d<=Rows.uptoBulkAll l:=by
 induction l with
 | nil=>cases h
 | cons x r a=>
  simp only[Rows.uptoBulkAll]
  cases List.mem_cons.1 h with
  | inl e=>subst e;omega
  | inr e=>have:=a e;omega
theorem pS.elem{Hd:Type}{B:Nat}{a sp:List (DataW Hd)}(h:pS B (.slice a sp)){d:DataW Hd}(b:d∈a):pS B d:=by
 rcases h with h | h
 ·exact .inl h
 ·have:=pd b;simp only[Rows.uptoBulk]at h;exact .inr (by omega)
section
variable {Hd:Type} {enc:TypeId×Value->Hd} {P:Program} {w:World} {base:Nat} {spare:Nat->Bool} {held:Bool} {B:Nat}
end
structure Nums (H:zV) (k:IntKind) (p:zW) (n:Nat) (xs:List Int):Prop where
 len:xs.length=n
 src:eK H p (xs.map (Value.int k))
 wf: ∀x∈xs,(Lit.int k x).wf=true
theorem Nums.ext{k:IntKind}{p:zW}{n:Nat}{b:List Int}(h:Nums H k p n b)(e:Ext H a):Nums a k p n b:=by
 refine⟨h.len,?_,h.wf⟩
 cases p with
 | none=>exact h.src
 | some c=>exact e.rowAt h.src
theorem Nums.at{H:zV}{k:IntKind}{p:zW}{n:Nat}{b:List Int}(h:Nums H k p n b){i:Nat}(c:i<b.length): ∃a,p=some a/\hat H (a.add (i*1))=some (.int k b[i]):=by
 cases p with
 | none=>have:b.map (Value.int k)=[]:=h.src;simp at this;subst this;simp at c
 | some a=>
  refine⟨a,rfl,?_⟩
  have:=fJ (show aU H a 0 _ from h.src) i (.int k b[i]) (by simp[c])
  rw[Nat.zero_add]at this;rw[Nat.mul_one];exact this
structure od where
 p:zW
 n:Nat
 c:Nat
 xs:List Int
structure ng (B:Nat) (H:zV) (k:IntKind) (p:zW) (n:Nat) (L:List od):Prop where
 len:L.length=n
 src:eK H p (L.map λy=>Value.slice y.p y.n y.c)
 each: ∀y∈L,Nums H k y.p y.n y.xs/\y.n<=B
theorem ng.ext{B:Nat}{k:IntKind}{p:zW}{n:Nat}{L:List od}(h:ng B H k p n L)(e:Ext H a):ng B a k p n L:=by
 refine⟨h.len,?_,λy b=>⟨(h.each y b).1.ext e,(h.each y b).2⟩⟩
 cases p with
 | none=>exact h.src
 | some c=>exact e.rowAt h.src
theorem ng.at{B:Nat}{H:zV}{k:IntKind}{p:zW}{n:Nat}{L:List od}(h:ng B H k p n L){i:Nat}(b:i<L.length): ∃a,p=some a/\hat H (a.add (i*1))=some (.slice L[i].p L[i].n L[i].c)/\Nums H k L[i].p L[i].n L[i].xs/\L[i].n<=B:=by
 cases p with
 | none=>have:L.map (λy=>Value.slice y.p y.n y.c)=[]:=h.src;simp at this;subst this;simp at b
 | some a=>
  refine⟨a,rfl,?_,h.each _ (List.getElem_mem _)⟩
  have:=fJ (show aU H a 0 _ from h.src) i (.slice L[i].p L[i].n L[i].c) (by simp[b])
  rw[Nat.zero_add]at this;rw[Nat.mul_one];exact this
section
variable {Hd:Type} {enc:TypeId×Value->Hd} {P:Program} {w:World} {base:Nat} {spare:Nat->Bool} {held:Bool} {B:Nat}
end
open Go.ChangeShapes Go.WideShapes
structure Rdr (α:Type)where
 cells:α->List Value
 ok:Nat->zV->α->Prop
 mono: ∀{B:Nat} {H H':zV} {y:α},Ext H H'->ok B H y->ok B H' y
structure Sl (α:Type)where
 p:zW
 n:Nat
 c:Nat
 xs:List α
structure SlOK {α:Type} (sz:Nat) (r:Rdr α) (B:Nat) (H:zV) (s:Sl α):Prop where
 len:s.xs.length=s.n
 le:s.n<=B
 cap:s.n<=s.c
 row: ∀(i:Nat) (h:i<s.xs.length),∃a,s.p=some a/\aU H (a.add (i*sz)) 0 (r.cells s.xs[i])
 each: ∀y∈s.xs,r.ok B H y
theorem SlOK.ext{α:Type}{b:Nat}{r:Rdr α}{B:Nat}{s:Sl α}(h:SlOK b r B H s)(e:Ext H a):SlOK b r B a s:=
 ⟨h.len,h.le,h.cap,λi f=>by obtain⟨j,c,d⟩:=h.row i f;exact⟨j,c,e.rowAt d⟩,λy g=>r.mono e (h.each y g)⟩
section
variable {Hd:Type} {enc:TypeId×Value->Hd} {P:Program} {w:World} {base:Nat} {spare:Nat->Bool} {held:Bool} {B:Nat}
end
end Go.Proofs.YtfhbhckhmnleoaaGreat
namespace Go.Proofs.YtfhbhckhmnleoaaGreat
open Go
open Go.ChangeShapes Go.WideShapes
structure nh where
 w:Int
 ofv:Int
abbrev nh.cells(rr:nh):List Value:=[vu rr.w,vi rr.ofv]
structure qX where
 dov:Int
 kind:Int
 n:Int
 x:nh
 y:nh
 l:Sl nh
abbrev qX.cells(rr:qX):List Value:=[vi rr.dov,vi rr.kind,vi rr.n,vu rr.x.w,vi rr.x.ofv,vu rr.y.w,vi rr.y.ofv,vs rr.l.p rr.l.n rr.l.c]
