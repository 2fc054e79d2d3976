/-
 What is copied, and where to; what has become of each word by now. Proves nothing of any one statement.
-/
import Derived.Test.YtillhdiiglamhaaGreatDoorGcB
import Derived.Test.YtillhdiiglamhaaGreatDoorTrB
import Derived.Test.YtillhdiiglamhaaGreatDoorListsM
import Derived.Test.YtillhdiiglamhaaGreatDoorFweak
set_option linter.unusedVariables false
set_option linter.unusedSimpArgs false
namespace Go.Proofs.YtillhdiiglamhaaGreatDoor
open Go
theorem Grown.usedIff{m l:Mem}{a g k n:Int}(b:Grown m l a n g k)(hn:0<=n){x:Int}:l.used x ↔ m.used x\/(a<=x/\x<a+n):=by
 obtain⟨u,v,w⟩:=b.addr;obtain⟨i,y,z,r⟩:=b.new;by_cases j:(x / 64).toNat=(a / 64).toNat
 ·unfold Mem.used Mem.has;rw[j,r,b.limit];by_cases f:(m.seg (a / 64).toNat).taken=0
  ·have:=b.fresh f;constructor
   ·rintro⟨d,c,e⟩;exact .inr GF
   ·rintro(⟨d,⟨_,_,c⟩,_⟩ | h)
    ·exact absurd f c
    ·exact⟨GF,⟨GF,GF,i⟩,GF⟩
  ·obtain⟨A,B,t,_⟩:=b.old f;rw[t];constructor
   ·rintro⟨d,⟨c,e,_⟩,o⟩;by_cases q:x % 64<a % 64
    ·exact .inl ⟨d,⟨c,e,f⟩,q⟩
    ·exact .inr GF
   ·rintro(⟨d,⟨c,e,_⟩,o⟩ | h)
    ·exact⟨d,⟨c,e,i⟩,GF⟩
    ·exact⟨GF,⟨GF,GF,i⟩,GF⟩
 ·have p:=b.others _ j;unfold Mem.used Mem.has;rw[p,b.limit];constructor
  ·intro h;exact .inl h
  ·rintro(h | h)
   ·exact h
   ·exfalso;omega
theorem gq.used{m b:Mem}(h:gq m b){x:Int}(a:m.used x):b.used x:=⟨a.1,h.has a.2.1,by have:=(h.seg _ a.2.1.2.2).2.2.2;have:=a.2.2;omega⟩
theorem Sp.alloc_curS{s:Sp}(p:SpOK s){T k n:Int}(h:(s.alloc T k n).2.2=0)(j:Nat)(c:(s.alloc T k n).1.cur T.toNat j≠0):(s.alloc T k n).1.cur T.toNat j=s.cur T.toNat j\/((s.mem.seg ((s.alloc T k n).1.cur T.toNat j-1).toNat).taken=0/\((s.alloc T k n).1.cur T.toNat j-1).toNat<s.mem.limit):=by
 unfold Sp.alloc at*;by_cases hm:BP T k n
 case neg=>rw[ka hm]at h;exact absurd h (by show ¬((1:Int)=0);decide)
 rw[kb (λi=>i hm)]at h c⊢;by_cases m:s.cur T.toNat k.toNat≠0/\(s.mem.bump (s.cur T.toNat k.toNat-1) n).2.2=0
 ·rw[ka m];exact .inl rfl
 rw[kb m]at h c⊢;by_cases a:(s.mem.take T k).2.2=0
 case neg=>rw[kb a]at h;exact absurd h a
 rw[ka a]at c⊢
 have b:(s.mem.take T k).2.1=(s.mem.first:Int)/\s.mem.free≠0:=by
  unfold Mem.take at a⊢;by_cases l:T<0\/4<T\/k<0\/3<k
  ·rw[ka l]at a;exact absurd a (by show ¬((1:Int)=0);decide)
  rw[kb l]at a⊢;by_cases d:s.mem.free=0
  ·rw[ka d]at a;exact absurd a (by show ¬((2:Int)=0);decide)
  ·rw[kb d];exact⟨rfl,d⟩
 obtain⟨f,e⟩:=FY p.mem b.2;show(if T.toNat=T.toNat/\j=k.toNat then(s.mem.take T k).2.1+1 else s.cur T.toNat j)=_\/((s.mem.seg ((if T.toNat=T.toNat/\j=k.toNat then(s.mem.take T k).2.1+1 else s.cur T.toNat j)-1).toNat).taken=0/\((if T.toNat=T.toNat/\j=k.toNat then(s.mem.take T k).2.1+1 else s.cur T.toNat j)-1).toNat<s.mem.limit);by_cases o:j=k.toNat
 ·right;rw[ka ⟨rfl,o⟩,b.1,show((s.mem.first:Int)+1-1).toNat=s.mem.first by omega];exact⟨e,f⟩
 ·left;rw[kb (λi=>o i.2)]
theorem Sp.alloc_addr{s:Sp}(f:SpOK s){T k n:Int}(h:(s.alloc T k n).2.2=0):((s.alloc T k n).2.1 / 64).toNat=((s.alloc T k n).1.cur T.toNat k.toNat-1).toNat/\(s.alloc T k n).1.cur T.toNat k.toNat≠0:=by
 unfold Sp.alloc at*;by_cases hm:BP T k n
 case neg=>rw[ka hm]at h;exact absurd h (by show ¬((1:Int)=0);decide)
 rw[kb (λl=>l hm)]at h⊢;have hn:1<=n/\n<=63:=by have:=hm.2;omega
 by_cases c:s.cur T.toNat k.toNat≠0/\(s.mem.bump (s.cur T.toNat k.toNat-1) n).2.2=0
 ·rw[ka c];obtain⟨a,i,j,d⟩:=Mem.bump_ok f.mem c.2;refine⟨?_,c.1⟩;show((s.mem.bump _ _).2.1 / 64).toNat=(s.cur T.toNat k.toNat-1).toNat;rw[d];have:=(f.mem.seg (s.cur T.toNat k.toNat-1).toNat).n;show(((s.cur T.toNat k.toNat-1)*64+_) / 64).toNat=_;omega
 rw[kb c]at h⊢;by_cases e:(s.mem.take T k).2.2=0
 case neg=>rw[kb e]at h;exact absurd h e
 rw[ka e]at h⊢;have b:=f.mem.take T k;simp only at h;obtain⟨a,i,j,d⟩:=Mem.bump_ok b h;have m:=(b.seg (s.mem.take T k).2.1.toNat).n;have o:=a.1;show(((s.mem.take T k).1.bump _ _).2.1 / 64).toNat=((if T.toNat=T.toNat/\k.toNat=k.toNat then(s.mem.take T k).2.1+1 else _)-1).toNat/\(if T.toNat=T.toNat/\k.toNat=k.toNat then(s.mem.take T k).2.1+1 else _)≠0;rw[ka ⟨rfl,rfl⟩,d];show(((s.mem.take T k).2.1*64+_) / 64).toNat=_/\_;exact⟨GF,GF⟩
structure fK (Z:TZ) (g F0:Int):Prop where
 ok:bP Z.m
 even:Z.m.Even
 sound:kE Z.m Z.sz
 old: ∀k:Nat,k<1024->(Z.O k=true ↔ Z.m.has k/\(Z.m.seg k).gen<=g)
 rng:0<=g/\g<4/\g<=Z.T/\Z.T<=g+1
 room:2*((Z.yk 0:Int)+Z.yk 1+Z.yk 2+Z.yk 3)+8<=F0
 V: ∀v,Z.V v->aO v/\Good Z.m Z.sz v
def Was(Z:TZ)(fw:Int->Option Int)(x v:Int):Prop:=(Z.m.used x/\Z.O (x / 64).toNat=false/\v=Z.m.get x)\/ ∃(a b:Int) (i:Nat),fw a=some b/\i<Z.sz a/\x=b+i/\v=Z.m.get (a+i)
structure Img (Z:TZ) (s:Sp) (a b:Int):Prop where
 fit:b % 64+Z.sz a<=64/\0<=b
 here: ∀i:Nat,i<Z.sz a->s.mem.used (b+i)
 new: ∀i:Nat,i<Z.sz a-> ¬Z.m.used (b+i)
 gen:s.mem.gAt b=Z.T
 kind:s.mem.kAt b=Z.m.kAt a
 out:Z.O (b / 64).toNat=false
 even:Z.m.kAt a<=1->b % 2=0
structure Tri (Z:TZ) (F0:Int) (fw:Int->Option Int) (al:List Int) (s:Sp) (sz:Int->Nat):Prop where
 ok:SpOK s
 even:s.mem.Even
 heads:gq Z.m s.mem
 oldN: ∀k,k<1024->Z.O k=true->(s.mem.seg k).n=(Z.m.seg k).n
 curO: ∀k,k<4->s.cur Z.T.toNat k≠0->Z.O (s.cur Z.T.toNat k-1).toNat=false
 cap: ∃c,Cap Z F0 al s c
 olds:Dg Z al
 al: ∀a,a∈al ↔ ∃b,fw a=some b
 img: ∀a b,fw a=some b->sz b=Z.sz a/\Img Z s a b
 inj: ∀a a' b,fw a=some b->fw a'=some b->a=a'
 apart: ∀a b,sz a≠0->sz b≠0->a<b->a+sz a<=b
 sz0: ∀a,Z.m.used a->sz a=Z.sz a
 szn: ∀b,sz b≠0->Z.m.used b\/ ∃a,fw a=some b
 word: ∀a b,fw a=some b->s.mem.get a=b*8+6
 keep: ∀x,Z.m.used x->Z.O (x / 64).toNat=true->fw x=none->s.mem.get x=Z.m.get x
 cover: ∀x,s.mem.used x->Z.m.used x\/ ∃(a b:Int) (i:Nat),fw a=some b/\i<Z.sz a/\x=b+i
 val: ∀x v,Was Z fw x v->s.mem.get x=v\/(s.mem.strong x/\Dn Z.O fw v/\s.mem.get x=Fw Z.O fw v)
 reach: ∀a b,fw a=some b->Reach Z a
section
variable {Z:TZ} {g F0:Int} {fw:Int->Option Int} {al:List Int} {s:Sp} {sz:Int->Nat}
theorem Tri.kAt(t:Tri Z F0 fw al s sz){x:Int}(h:Z.m.used x):s.mem.kAt x=Z.m.kAt x/\s.mem.gAt x=Z.m.gAt x:=⟨(t.heads.seg _ h.2.1.2.2).2.1,(t.heads.seg _ h.2.1.2.2).1⟩
theorem fK.lt(S:fK Z g F0){x:Int}(h:Z.m.used x):(x / 64).toNat<1024/\0<=x/\x<65536:=by
 have a:=h.2.1.2.1;have b:=S.ok.lim;exact⟨GF,h.1,by have:=h.1;omega⟩
theorem fK.oldWord(S:fK Z g F0){w:Int}(c:Good Z.m Z.sz w)(a:aU Z.O w):Z.sz (w / 8)≠0/\Z.O (w / 8 / 64).toNat=true/\gf w/\w % 8=BQ (Z.m.kAt (w / 8)):=by
 have b:gf w:=by have:=a.1.1;have:=a.2.1;unfold gf;omega
 exact⟨(c.2 b).1,a.2.2,b,(c.2 b).2⟩
theorem Tri.same_size(S:fK Z g F0)(t:Tri Z F0 fw al s sz){w:Int}(n:aO w)(k:Good Z.m Z.sz w)(l:aU Z.O w)(hn:fw (w / 8)=none):s.mem.sizeOf w=Z.sz (w / 8)/\s.mem.fwd w=none/\s.mem.kindOf w=Z.m.kAt (w / 8):=by
 obtain⟨c,e,h,i⟩:=S.oldWord k l;obtain⟨d,u⟩:=S.sound.used _ c;have b:=S.lt d;have hk:=t.kAt d;have a:=t.keep _ d e hn;have j:=t.oldN _ b.1 e;refine⟨oA n h (by rw[hk.1];exact i) b.2.2 (t.heads.used d) (t.ok.mem.seg _).kind (by rw[hk.1];exact S.sound.two _ c) (λf=>?_),?_,hk.1⟩
 ·rw[hk.1]at f⊢;obtain⟨o,p,r⟩:=S.sound.obj _ c f;rw[a];exact⟨o,p,r,by rw[j];exact u⟩
 ·unfold Mem.fwd;rw[kb];rintro⟨_,_,q⟩;rw[a]at q;exact S.sound.noFwd c q
theorem fK.size63(S:fK Z g F0){a:Int}(h:Z.sz a≠0):(Z.m.kAt a<=1/\Z.sz a=2\/2<=Z.m.kAt a/\1<=Z.sz a/\Z.sz a<=63)/\0<=Z.m.kAt a/\Z.m.kAt a<=3:=by
 have hk:=(S.ok.seg (a / 64).toNat).kind;refine⟨?_,hk⟩;by_cases b:Z.m.kAt a<=1
 ·exact .inl ⟨b,(S.sound.two a h b).1⟩
 ·obtain⟨c,e,d⟩:=S.sound.obj a h GF;have:=c.2;unfold hn at d;exact .inr ⟨GF,GF,GF⟩
structure zL (Z:TZ) (F0:Int) (fw:Int->Option Int) (s:Sp) (w:Int) (s':Sp) (v:Int) (fw':Int->Option Int) (al':List Int) (sz':Int->Nat):Prop where
 tri:Tri Z F0 fw' al' s' sz'
 le:Le fw fw'
 dn:Dn Z.O fw' w
 val:v=Fw Z.O fw' w
 rest: ∀x,s.mem.used x->Z.O (x / 64).toNat=false->s'.mem.get x=s.mem.get x
 heads:gq s.mem s'.mem
theorem Tri.copy(S:fK Z g F0)(t:Tri Z F0 fw al s sz){a:Int}(P:Z.sz a≠0)(hO:Z.O (a / 64).toNat=true)(hn:fw a=none)(hr:Reach Z a){m:Mem}{b:Int}
  (ha:(s.alloc Z.T (Z.m.kAt a) (Z.sz a)).2.2=0) (hb:(s.alloc Z.T (Z.m.kAt a) (Z.sz a)).2.1=b) (hm:m=((s.alloc Z.T (Z.m.kAt a) (Z.sz a)).1.mem.sets b (s.mem.row a (Z.sz a))).set a (b*8+6)):
  Tri Z F0 (λx=>if x=a then some b else fw x) (a::al) {(s.alloc Z.T (Z.m.kAt a) (Z.sz a)).1 with mem:=m} (λx=>if x=b then Z.sz a else sz x)/\Le fw (λx=>if x=a then some b else fw x)/\
   (∀x,s.mem.used x->x≠a->m.get x=s.mem.get x)/\gq s.mem m:=by
 obtain⟨aT,E⟩:=FB t.ok ha;obtain⟨Q,hK⟩:=S.size63 P;obtain⟨u1,u2⟩:=S.sound.used a P;have bc:=S.lt u1;have bf:=t.heads.used u1;rw[hb]at E;obtain⟨c,ae⟩:=t.cap;have sm:bQ (s.alloc Z.T (Z.m.kAt a) (Z.sz a)).1.mem m:=by rw[hm];exact(bQ.sets _ _ _).trans (bQ.set _ _ _)
 obtain⟨c',a5⟩:=ae.step t.ok hK ha sm;have ax:=Sp.alloc_curS t.ok ha;have a4:=Sp.alloc_addr t.ok ha;rw[hb]at a4;have aw:(Z.m.kAt a).toNat<4:=GF;have bb:0<=Z.T:=by have:=S.rng;omega
 generalize be:(s.alloc Z.T (Z.m.kAt a) (Z.sz a)).1=s' at*;have b2:=t.ok.mem.lim;obtain⟨a0,bj,bk⟩:=E.addr;have o:gq s.mem m:=(E.heads GF).trans sm.heads
 have a2: ∀k:Nat,k<1024->(s.mem.seg k).taken=0->Z.O k=false:=λk hk W=>by
  by_cases X:Z.O k=true
  ·have:=((S.old k hk).1 X).1.2.2;rw[show((k:Nat):Int).toNat=k by omega]at this;have j:=(t.heads.seg k this).2.2.1;rw[W]at j;exact absurd j.symm this
  ·simpa using X
 have K: ∀k,k<4->s'.cur Z.T.toNat k≠0->Z.O (s'.cur Z.T.toNat k-1).toNat=false:=λk hk W=>by
  rcases ax k W with e | ⟨e1,e2⟩
  ·rw[e]at W⊢;exact t.curO k hk W
  ·exact a2 _ GF e1
 have a1:Z.O (b / 64).toNat=false:=by
  rw[a4.1];exact K _ aw a4.2
 have az: ∀i:Nat,i<Z.sz a->s'.mem.used (b+i):=λi G=>(E.usedIff GF).2 (.inr GF);have a6:(s.mem.row a (Z.sz a)).length=Z.sz a:=Mem.row_len _ _ _
 have L: ∀x,0<=x->m.get x=if x=a then b*8+6 else if b<=x/\x<b+Z.sz a then s.mem.get (a+(x-b))else s'.mem.get x:=λx f=>by
  rw[hm,Fv x f u1.1];refine ite_congr rfl (λ_=>rfl) (λ_=>?_);rw[Mem.sets_get _ x f a0 (by rw[a6];exact az),a6];refine ite_congr rfl (λh=>?_) (λ_=>rfl);have G:(x-b).toNat<Z.sz a:=GF;rw[List.getD_eq_getElem?_getD,List.getElem?_eq_getElem (by rw[a6];exact G),Option.getD_some,Mem.row_get _ _ G];congr 2;omega
 have C: ∀x,s.mem.used x->x≠a->m.get x=s.mem.get x:=λx f d=>by
  rw[L x f.1,kb d,kb (E.not_in f),E.get f]
 have B: ∀x,m.used x ↔ s.mem.used x\/(b<=x/\x<b+Z.sz a):=λx=>(sm.used).trans (E.usedIff GF);have F: ∀i:Nat,i<Z.sz a-> ¬Z.m.used (b+i):=λi G h=>E.not_in (t.heads.used h) GF;have J: ∀i:Nat,i<Z.sz a-> ¬s.mem.used (b+i):=λi G h=>E.not_in h GF;have u:0<Z.sz a:=GF
 have M:Le fw (λx=>if x=a then some b else fw x):=λx y h=>by
  by_cases f:x=a
  ·rw[f,hn]at h;cases h
  ·show(if x=a then some b else fw x)=some y;rw[kb f];exact h
 have N: ∀x,s.mem.used x->m.kAt x=s.mem.kAt x/\m.gAt x=s.mem.gAt x:=λx f=>⟨(o.seg _ f.2.1.2.2).2.1,(o.seg _ f.2.1.2.2).1⟩;have ag:m.kAt b=Z.m.kAt a/\m.gAt b=Z.T:=⟨((sm.seg _).2.1).trans E.new.2.2.1,((sm.seg _).1).trans E.new.2.1⟩
 have ak: ∀x,s.mem.used x->s.mem.strong x->m.strong x:=λx f h=>by
  have:=(N x f).1;unfold Mem.strong at*;rw[this];exact h
 have b0:sz b=0:=by
  by_cases h:sz b=0
  ·exact h
  ·rcases t.szn b h with q | ⟨l,q⟩
   ·exact absurd (t.heads.used q) (by simpa using J 0 u)
   ·have G:=(t.img l b q).2;have j:=(t.img l b q).1;exact absurd (by simpa using G.here 0 GF) (by simpa using J 0 u)
 have p: ∀x,sz x≠0-> ∀i:Nat,i<sz x->s.mem.used (x+i):=λx f i G=>by
  rcases t.szn x f with q | ⟨l,q⟩
  ·have e:=t.sz0 x q;rw[e]at f G;exact t.heads.used (S.sound.usedAt f G (λk=>(S.ok.seg k).n.2)).1
  ·obtain⟨j,ay⟩:=t.img l x q;exact ay.here i GF
 have U: ∀l D,fw l=some D->Img Z {s' with mem:=m} l D:=λl D h=>by
  obtain⟨V,j⟩:=t.img l D h;have aj:=(t.olds.mem l ((t.al l).2 ⟨D,h⟩)).1;have am:s.mem.used D:=by simpa using j.here 0 GF
  exact⟨j.fit,λi G=>(B _).2 (.inl (j.here i G)),j.new,(N D am).2.trans j.gen,(N D am).1.trans j.kind,j.out,j.even⟩
 refine⟨⟨?_,?_,t.heads.trans o,λk hk X=>?_,K,⟨c',a5⟩,⟨?_,?_⟩,λx=>?_,λx y h=>?_,λx x' y h h'=>?_,λx y f R aN=>?_,λx f=>?_,λy R=>?_,λx y h=>?_,λx f X h=>?_,λx f=>?_,λx v h=>?_,λx y h=>?_⟩,M,C,o⟩
 ·have aB: ∀v∈s.mem.row a (Z.sz a),aO v:=λv hv=>by
   unfold Mem.row at hv;obtain⟨i,_,rfl⟩:=EZ.1 hv;exact(t.ok.mem.seg _).words _
  have an:=aT.sets b aB;have:=an.withMem (an.mem.set a (w:=b*8+6) ⟨GF,GF⟩) (λk h=>Mem.set_has.2 h) (λk=>⟨((bQ.set _ _ _).seg k).1,((bQ.set _ _ _).seg k).2.1⟩);rw[hm];exact this
 ·exact sm.even (E.even t.even (λhk=>by rcases Q with q | q<;>omega)).1
 ·show(m.seg k).n=_;rw[(sm.seg k).2.2.1];have ah:k≠(b / 64).toNat:=λe=>by rw[e]at X;rw[a1]at X;cases X
  rw[E.others k ah];exact t.oldN k hk X
 ·rw[List.nodup_cons];exact⟨(λh=>by obtain⟨D,ac⟩:=(t.al a).1 h;rw[hn]at ac;cases ac),t.olds.nodup⟩
 ·intro x f;rcases Ew.1 f with rfl | f
  ·exact⟨P,hO⟩
  ·exact t.olds.mem x f
 ·rw[Ew];show x=a\/x∈al ↔ ∃y,(if x=a then some b else fw x)=some y;by_cases d:x=a
  ·rw[ka d];exact⟨λ_=>⟨b,rfl⟩,λ_=> .inl d⟩
  ·rw[kb d,<-t.al x];exact⟨λh=>h.resolve_left d,.inr⟩
 ·have h:(if x=a then some b else fw x)=some y:=h;show(if y=b then Z.sz a else sz y)=_/\_;by_cases d:x=a
  ·rw[ka d]at h;cases h;subst d;refine⟨ka rfl,⟨GF,a0⟩,λi G=>(B _).2 (.inr GF),F,ag.2,ag.1,a1,λhk=>(E.even t.even (λhk=>by rcases Q with q | q<;>omega)).2 hk⟩
  ·rw[kb d]at h
   have Y:y≠b:=λe=>by
    have j:=(t.img x y h).2;have aj:=(t.olds.mem x ((t.al x).2 ⟨y,h⟩)).1;rw[e]at j;exact absurd (by simpa using j.here 0 GF) (by simpa using J 0 u)
   rw[kb Y];exact⟨(t.img x y h).1,U x y h⟩
 ·have h:(if x=a then some b else fw x)=some y:=h;have h':(if x'=a then some b else fw x')=some y:=h'
  have ai: ∀z,fw z=some b->False:=λz hz=>by
   have j:=(t.img z b hz).2;have aj:=(t.olds.mem z ((t.al z).2 ⟨b,hz⟩)).1;exact absurd (by simpa using j.here 0 GF) (by simpa using J 0 u)
  by_cases V:x=a
  ·by_cases j:x'=a
   ·rw[V,j]
   ·rw[ka V]at h;rw[kb j]at h';cases h;exact(ai _ h').elim
  ·by_cases j:x'=a
   ·rw[kb V]at h;rw[ka j]at h';cases h';exact(ai _ h).elim
   ·rw[kb V]at h;rw[kb j]at h';exact t.inj x x' y h h'
 ·have f:(if x=b then Z.sz a else sz x)≠0:=f;have R:(if y=b then Z.sz a else sz y)≠0:=R;show x+((if x=b then Z.sz a else sz x:Nat):Int)<=y;by_cases V:x=b
  ·have j:y≠b:=GF;rw[kb j]at R;rw[ka V];have:=p y R 0 GF;have:=E.not_in (x:=y) (by simpa using this);omega
  ·rw[kb V]at f⊢;by_cases j:y=b
   ·rcases FD b (x+sz x)with b3 | b1
    ·have:=p x f (b-x).toNat GF;rw[show x+((b-x).toNat:Int)=b by omega]at this;exact absurd this (by simpa using J 0 u)
    ·omega
   ·rw[kb j]at R;exact t.apart x y f R aN
 ·show(if x=b then Z.sz a else sz x)=_;have:x≠b:=λe=>absurd f (by rw[e];simpa using F 0 u);rw[kb this];exact t.sz0 x f
 ·have R:(if y=b then Z.sz a else sz y)≠0:=R;by_cases Y:y=b
  ·right;refine⟨a,?_⟩;show(if a=a then some b else _)=_;rw[ka rfl,Y]
  ·rw[kb Y]at R;rcases t.szn y R with q | ⟨l,q⟩
   ·exact .inl q
   ·exact .inr ⟨l,M _ _ q⟩
 ·have h:(if x=a then some b else fw x)=some y:=h;show m.get x=_;by_cases d:x=a
  ·rw[ka d]at h;cases h;rw[d,L a u1.1,ka rfl]
  ·rw[kb d]at h;have aC:=(t.olds.mem x ((t.al x).2 ⟨y,h⟩)).1;rw[C x (t.heads.used (S.sound.used x aC).1) d];exact t.word x y h
 ·have h:(if x=a then some b else fw x)=none:=h;show m.get x=_;by_cases d:x=a
  ·rw[ka d]at h;cases h
  ·rw[kb d]at h;rw[C x (t.heads.used f) d];exact t.keep x f X h
 ·rcases(B x).1 f with q | q
  ·rcases t.cover x q with r | ⟨l,D,i,r1,r2,r3⟩
   ·exact .inl r
   ·exact .inr ⟨l,D,i,M _ _ r1,r2,r3⟩
  ·exact .inr ⟨a,b,(x-b).toNat,ka rfl,GF,GF⟩
 ·have A:Was Z fw x v->m.get x=v\/m.strong x/\Dn Z.O (λx=>if x=a then some b else fw x) v/\m.get x=Fw Z.O (λx=>if x=a then some b else fw x) v:=λhw=>by
   have a7:s.mem.used x/\x≠a:=by
    rcases hw with⟨I,H,_⟩ | ⟨l,D,i,I,H,q3,_⟩
    ·exact⟨t.heads.used I,λe=>by rw[e,hO]at H;cases H⟩
    ·have j:=(t.img l D I).2;refine⟨by rw[q3];exact j.here i H,λe=>?_⟩;have:=j.new i H;rw[<-q3,e]at this;exact this u1
   rw[C x a7.1 a7.2];rcases t.val x v hw with q | ⟨I,H,q3⟩
   ·exact .inl q
   ·exact .inr ⟨ak x a7.1 I,H.mono M,by rw[pU H M];exact q3⟩
  show m.get x=v\/_;rcases h with h | ⟨l,D,i,I,H,q3,q4⟩
  ·exact A (.inl h)
  ·have I:(if l=a then some b else fw l)=some D:=I;by_cases a3:l=a
   ·rw[ka a3]at I;cases I;subst a3;left
    have d:x≠l:=λe=>by
     have:=F i H;rw[<-q3,e]at this;exact this u1
    rw[L x GF,kb d,ka GF,q4];have ab:=S.sound.usedAt P H (λk=>(S.ok.seg k).n.2);rw[show l+(x-b)=l+i by omega];refine t.keep _ ab.1 (by rw[ab.2.1];exact hO) ?_
    cases hf:fw (l+i)with
    | none=>rfl
    | some y=>
     have V:=(t.olds.mem _ ((t.al _).2 ⟨y,hf⟩)).1;rcases Nat.eq_zero_or_pos i with W | W
     ·rw[W]at hf;simp at hf;rw[hn]at hf;cases hf
     ·exact absurd (S.sound.within P W H) V
   ·rw[kb a3]at I;exact A (.inr ⟨l,D,i,I,H,q3,q4⟩)
 ·have h:(if x=a then some b else fw x)=some y:=h;by_cases d:x=a
  ·rw[d];exact hr
  ·rw[kb d]at h;exact t.reach x y h
theorem Tri.visit(S:fK Z g F0)(t:Tri Z F0 fw al s sz){w:Int}(U:aO w)(C:Good Z.m Z.sz w)(Q:aU Z.O w->Reach Z (w / 8)):
  ∃v u A,zL Z F0 fw s w (s.visit Z.O Z.T w).1 (s.visit Z.O Z.T w).2 v u A:=by
 by_cases a:aU Z.O w
 case neg=>
  rw[Sp.visit_no a];exact⟨fw,al,sz,t,Le.refl _,λh=>absurd h a,(km a).symm,λ_ _ _=>rfl,gq.refl _⟩
 obtain⟨y,B,Y,h4⟩:=S.oldWord C a;obtain⟨G,u2⟩:=S.sound.used _ y;have P:=S.lt G
 cases i:fw (w / 8)with
 | some b=>
  obtain⟨_,W⟩:=t.img _ _ i;have k:s.mem.used b:=by simpa using W.here 0 GF
  have D:=t.ok.mem.lim;have M:=k.2.1.2.1;have N:=k.1
  have R:s.mem.fwd w=some (b*8+w % 8):=by
   unfold Mem.fwd;rw[t.word _ _ i,ka ⟨t.heads.used G,⟨GF,GF⟩,GF⟩];congr 2;omega
  rw[Sp.visit_fwd a R];exact⟨fw,al,sz,t,Le.refl _,λ_=>⟨b,i⟩,(jO a i).symm,λ_ _ _=>rfl,gq.refl _⟩
 | none=>
  obtain⟨r,X,F⟩:=t.same_size S U C a i;obtain⟨f,hK⟩:=S.size63 y;obtain⟨c,l⟩:=t.cap;have d:=l.room t.ok S.sound S.ok t.olds S.room;have E:=S.rng;have o:BP Z.T (Z.m.kAt (w / 8)) (Z.sz (w / 8)):=⟨GF,by rcases f with q | q<;>omega⟩;have j:=Sp.alloc_can t.ok o d;have L:s.mem.sizeOf w≠0:=by rw[r];omega
  have n:=Sp.visit_go a X L (T:=Z.T) (by rw[r,F];exact j);rw[r,F]at n;rw[n]
  have z:(Sp.moved s.mem w (s.alloc Z.T (Z.m.kAt (w / 8)) (Z.sz (w / 8)))).mem=((s.alloc Z.T (Z.m.kAt (w / 8)) (Z.sz (w / 8))).1.mem.sets (s.alloc Z.T (Z.m.kAt (w / 8)) (Z.sz (w / 8))).2.1 (s.mem.row (w / 8) (Z.sz (w / 8)))).set (w / 8) ((s.alloc Z.T (Z.m.kAt (w / 8)) (Z.sz (w / 8))).2.1*8+6):=by
   unfold Sp.moved;rw[r,show((Z.sz (w / 8):Int)).toNat=Z.sz (w / 8)by omega]
  obtain⟨H,I,J,K⟩:=t.copy S y B i (Q a) j rfl z;refine⟨_,_,_,H,I,λ_=>⟨_,ka rfl⟩,(jO a (ka rfl)).symm,λx V p=>J x V (λe=>?_),K⟩;rw[e,B]at p;cases p
end
def Done(Z:TZ)(fw:Int->Option Int)(s:Sp)(x:Int):Prop:= ∀v,Was Z fw x v->Dn Z.O fw v/\s.mem.get x=Fw Z.O fw v
section
variable {Z:TZ} {g F0:Int} {fw:Int->Option Int} {al:List Int} {s:Sp} {sz:Int->Nat}
theorem Was.mono{c:Int->Option Int}{x v:Int}(h:Was Z fw x v)(l:Le fw c):Was Z c x v:=by
 rcases h with h | ⟨a,b,i,d,e⟩
 ·exact .inl h
 ·exact .inr ⟨a,b,i,l _ _ d,e⟩
theorem Tri.was_one(t:Tri Z F0 fw al s sz){x v o:Int}(h:Was Z fw x v)(p:Was Z fw x o):v=o:=by
 rcases h with⟨d,l,j⟩ | ⟨a,b,i,d,l,j,r⟩<;>rcases p with⟨e,n,k⟩ | ⟨f,c,m,e,n,k,z⟩
 ·rw[j,k]
 ·exact absurd (k▸d) ((t.img f c e).2.new m n)
 ·exact absurd (j▸e) ((t.img a b d).2.new i l)
 ·have A:=(t.img a b d).1;have B:=(t.img f c e).1
  have w:b=c:=by
   rcases Int.lt_trichotomy b c with q | q | q
   ·have:=t.apart b c GF GF q;omega
   ·exact q
   ·have:=t.apart c b GF GF q;omega
  subst w;have u:=t.inj a f b d e;subst u;have y:i=m:=GF;subst y;rw[r,z]
theorem Tri.was(t:Tri Z F0 fw al s sz){x:Int}(j:s.mem.used x)(f:Z.O (x / 64).toNat=false): ∃v,Was Z fw x v:=by
 rcases t.cover x j with h | ⟨a,b,i,c,d,e⟩
 ·exact⟨_,.inl ⟨h,f,rfl⟩⟩
 ·exact⟨_,.inr ⟨a,b,i,c,d,e,rfl⟩⟩
theorem Tri.usedOf(t:Tri Z F0 fw al s sz){x v:Int}(h:Was Z fw x v):s.mem.used x/\Z.O (x / 64).toNat=false:=by
 rcases h with⟨c,d,_⟩ | ⟨a,b,i,c,d,f,_⟩
 ·exact⟨t.heads.used c,d⟩
 ·have e:=(t.img a b c).2;refine⟨f▸e.here i d,?_⟩;have:=e.fit;rw[f,show(b+i) / 64=b / 64 by omega];exact e.out
theorem Tri.was_good(S:fK Z g F0)(t:Tri Z F0 fw al s sz){x v:Int}(h:Was Z fw x v)(w:s.mem.strong x):aO v/\Good Z.m Z.sz v/\(aU Z.O v->Reach Z (v / 8)):=by
 rcases h with⟨c,p,rfl⟩ | ⟨a,b,i,c,p,z,rfl⟩
 ·have hk:=(t.kAt c).1;have o:Z.m.strong x:=by unfold Mem.strong at*;rw[<-hk];exact w
  exact⟨(S.ok.seg _).words _,S.sound.good x c o.1,λu=> .older c p o u⟩
 ·have y:=(t.img a b c).2;have l:=(t.olds.mem a ((t.al a).2 ⟨b,c⟩)).1;have e:=S.sound.usedAt l p (λk=>(S.ok.seg k).n.2);have B:=y.fit
  have j:s.mem.kAt x=Z.m.kAt (a+i):=by
   unfold Mem.kAt;rw[z,show(b+i) / 64=b / 64 by omega,e.2.1];exact y.kind
  have r:Z.m.kAt (a+i)=Z.m.kAt a:=by unfold Mem.kAt;rw[e.2.1]
  have o:Z.m.strong (a+i):=by
   unfold Mem.strong at*;rw[<-j];refine⟨w.1,?_⟩;by_cases d:s.mem.kAt x=1
   ·right;have A:=w.2.resolve_left (λq=>q d);have f:Z.m.kAt a<=1:=by rw[<-r,<-j,d];decide
    have:=y.even f;have:=(S.sound.two a l f).2;omega
   ·exact .inl d
  exact⟨(S.ok.seg _).words _,S.sound.good _ e.1 o.1,λu=> .step (t.reach a b c) p o u⟩
theorem Tri.set(S:fK Z g F0)(t:Tri Z F0 fw al s sz){x v:Int}(h:Was Z fw x v)(N:s.mem.strong x)(I:Dn Z.O fw v)(P:aO (Fw Z.O fw v)):Tri Z F0 fw al {s with mem:=s.mem.set x (Fw Z.O fw v)} sz/\Done Z fw {s with mem:=s.mem.set x (Fw Z.O fw v)} x:=by
 obtain⟨J,M⟩:=t.usedOf h;have j:=bQ.set s.mem x (Fw Z.O fw v);have d: ∀y,0<=y->(s.mem.set x (Fw Z.O fw v)).get y=if y=x then Fw Z.O fw v else s.mem.get y:=λy m=>Fv y m J.1
 have hk: ∀y,(s.mem.set x (Fw Z.O fw v)).kAt y=s.mem.kAt y/\(s.mem.set x (Fw Z.O fw v)).gAt y=s.mem.gAt y:=λy=>⟨(j.seg _).2.1,(j.seg _).1⟩;have o: ∀y,(s.mem.set x (Fw Z.O fw v)).strong y ↔ s.mem.strong y:=λy=>by unfold Mem.strong;rw[(hk y).1]
 obtain⟨c,f⟩:=t.cap;have z: ∀y,Z.O (y / 64).toNat=true->y≠x:=λy m e=>by rw[e,M]at m;cases m
 refine⟨⟨t.ok.withMem (t.ok.mem.set x P) (λk q=>Mem.set_has.2 q) (λk=>⟨(j.seg k).1,(j.seg k).2.1⟩),j.even t.even,t.heads.trans j.heads,λk C D=>?_,t.curO,⟨c,?_⟩,t.olds,t.al,λa b l=>?_,t.inj,t.apart,t.sz0,t.szn,λa b l=>?_,λy m A G=>?_,λy m=>t.cover y (j.used.1 m),λy u r=>?_,t.reach⟩,λu E=>?_⟩
 ·show((s.mem.set x _).seg k).n=_;rw[(j.seg k).2.2.1];exact t.oldN k C D
 ·refine⟨?_,f.none,λk B=>?_⟩
  ·show(s.mem.set x _).free+_=_;rw[j.free];exact f.free
  ·rw[Sp.fill_same j];exact f.le k B
 ·obtain⟨K,p⟩:=t.img a b l;exact⟨K,p.fit,λi L=>j.used.2 (p.here i L),p.new,(hk b).2.trans p.gen,(hk b).1.trans p.kind,p.out,p.even⟩
 ·have H:=t.olds.mem a ((t.al a).2 ⟨b,l⟩);show(s.mem.set x _).get a=_;rw[d a (S.sound.used a H.1).1.1,kb (z a H.2)];exact t.word a b l
 ·show(s.mem.set x _).get y=_;rw[d y m.1,kb (z y A)];exact t.keep y m A G
 ·show(s.mem.set x _).get y=u\/_;have F:=(t.usedOf r).1.1;rw[d y F];by_cases w:y=x
  ·rw[ka w];subst w;have:=t.was_one h r;subst this;exact .inr ⟨(o y).2 N,I,rfl⟩
  ·rw[kb w];rcases t.val y u r with q | ⟨Q,R,T⟩
   ·exact .inl q
   ·exact .inr ⟨(o y).2 Q,R,T⟩
 ·have:=t.was_one h E;subst this;refine⟨I,?_⟩;show(s.mem.set x _).get x=_;rw[d x J.1,ka rfl]
structure kJ (Z:TZ) (F0:Int) (fw:Int->Option Int) (s s':Sp) (fw':Int->Option Int) (al':List Int) (sz':Int->Nat):Prop where
 tri:Tri Z F0 fw' al' s' sz'
 le:Le fw fw'
 heads:gq s.mem s'.mem
 done: ∀x,s.mem.used x->Z.O (x / 64).toNat=false->Done Z fw s x->Done Z fw' s' x
theorem kJ.refl(t:Tri Z F0 fw al s sz):kJ Z F0 fw s s fw al sz:=⟨t,Le.refl _,gq.refl _,λ_ _ _ h=>h⟩
theorem kJ.trans{l m:Sp}{b c:Int->Option Int}{e a:List Int}{f d:Int->Nat}(h:kJ Z F0 fw s l b e f)(k:kJ Z F0 b l m c a d):kJ Z F0 fw s m c a d:=
 ⟨k.tri,h.le.trans k.le,h.heads.trans k.heads,λx j i n=>k.done x (h.heads.used j) i (h.done x j i n)⟩
theorem Done.keep(t:Tri Z F0 fw al s sz){d:Sp}{a:Int->Option Int}{c:List Int}{e:Int->Nat}(o:Tri Z F0 a c d e)(l:Le fw a){x:Int}(m:s.mem.used x)(k:Z.O (x / 64).toNat=false)(j:d.mem.get x=s.mem.get x)(h:Done Z fw s x):Done Z a d x:=λv n=>by
 obtain⟨p,b⟩:=t.was m k;have:=o.was_one (b.mono l) n;subst this;obtain⟨f,i⟩:=h p b;exact⟨f.mono l,by rw[j,i,pU f l]⟩
theorem Tri.fw_word(S:fK Z g F0)(t:Tri Z F0 fw al s sz){v:Int}(e:aO v):aO (Fw Z.O fw v):=by
 by_cases d:aU Z.O v
 ·cases c:fw (v / 8)with
  | none=>unfold Fw;rw[ka d,c];exact e
  | some b=>
   rw[jO d c];have h:=(t.img _ _ c).2;have f:=(t.olds.mem _ ((t.al _).2 ⟨b,c⟩)).1;have a:s.mem.used b:=by simpa using h.here 0 GF
   have k:=t.ok.mem.lim;have i:=a.2.1.2.1;have j:=a.1;exact⟨GF,GF⟩
 ·rw[km d];exact e
theorem Tri.lookAt(S:fK Z g F0)(t:Tri Z F0 fw al s sz){x:Int}(m:s.mem.used x)(R:Z.O (x / 64).toNat=false)(L:s.mem.strong x): ∃a c f,kJ Z F0 fw s (s.lookAt Z.O Z.T x) a c f/\Done Z a (s.lookAt Z.O Z.T x) x:=by
 obtain⟨v,E⟩:=t.was m R;obtain⟨P,W,X⟩:=t.was_good S E L;have B:s.mem.read x=s.mem.get x:=by unfold Mem.read;rw[ka m]
 have r: ∃(h:Sp) (l:Int) (a:Int->Option Int) (c:List Int) (f:Int->Nat),s.visit Z.O Z.T (s.mem.read x)=(h,l)/\Tri Z F0 a c h f/\Le fw a/\Dn Z.O a v/\l=Fw Z.O a v/\(∀y,s.mem.used y->Z.O (y / 64).toNat=false->h.mem.get y=s.mem.get y)/\gq s.mem h.mem:=by
  rw[B]
  have first:s.mem.get x=v-> ∃(h:Sp) (l:Int) (a:Int->Option Int) (c:List Int) (f:Int->Nat),s.visit Z.O Z.T (s.mem.get x)=(h,l)/\Tri Z F0 a c h f/\Le fw a/\Dn Z.O a v/\l=Fw Z.O a v/\(∀y,s.mem.used y->Z.O (y / 64).toNat=false->h.mem.get y=s.mem.get y)/\gq s.mem h.mem:=λe=>by
   rw[e];obtain⟨a,c,f,V⟩:=t.visit S P W X;exact⟨_,_,a,c,f,rfl,V.tri,V.le,V.dn,V.val,V.rest,V.heads⟩
  rcases t.val x v E with e | ⟨_,I,u⟩
  ·exact first e
  ·by_cases i:aU Z.O v
   ·obtain⟨b,K⟩:=I i;have U:=(t.img _ _ K).2
    have A: ¬aU Z.O (s.mem.get x):=λq=>by
     rw[u,jO i K]at q;have J:=q.2.2;rw[show(b*8+v % 8) / 8=b by omega,U.out]at J;cases J
    exact⟨s,s.mem.get x,fw,al,sz,Sp.visit_no A,t,Le.refl _,I,u,λ_ _ _=>rfl,gq.refl _⟩
   ·exact first (by rw[u,km i])
 obtain⟨h,l,a,c,f,n,M,j,w,F,k,d⟩:=r;have D:=d.used m
 have C:h.mem.strong x:=by
  have:=(d.seg _ m.2.1.2.2).2.1;unfold Mem.strong Mem.kAt at*;rw[this];exact L
 obtain⟨N,H⟩:=M.set S (E.mono j) C w (M.fw_word S P)
 have z:s.lookAt Z.O Z.T x={h with mem:=h.mem.set x (Fw Z.O a v)}:=by
  unfold Sp.lookAt;rw[n];show({h with mem:=h.mem.wr x l}:Sp)=_;unfold Mem.wr;rw[ka D,F]
 rw[z];refine⟨a,c,f,⟨N,j,d.trans (bQ.set _ _ _).heads,λy G o Q=>?_⟩,H⟩;by_cases p:y=x
 ·rw[p];exact H
 ·refine Done.keep t N j G o ?_ Q;show(h.mem.set x _).get y=_;rw[Fv y G.1 m.1,kb p];exact k y G o
theorem Tri.look(S:fK Z g F0)(t:Tri Z F0 fw al s sz){k lo:Int}(hk:0<=k)(u:0<=lo)(v:Z.O k.toNat=false): ∀n:Nat,lo+n<=64->(∀i:Int,lo<=i->i<lo+n->s.mem.used (k*64+i))->
  ∃b j x,kJ Z F0 fw s (s.look Z.O Z.T k (s.mem.seg k.toNat).kind lo n) b j x/\ ∀i:Int,lo<=i->i<lo+n->s.mem.strong (k*64+i)->Done Z b (s.look Z.O Z.T k (s.mem.seg k.toNat).kind lo n) (k*64+i)
 | 0,_,_=>⟨fw,al,sz,kJ.refl t,λi a e=>GF⟩
 | n+1,hn,hu=>by
  obtain⟨p,l,y,L,B⟩:=Tri.look S t hk u v n GF (λi a e=>hu i a GF);have d:=hu (lo+n) GF GF;have D:Z.O ((k*64+(lo+n)) / 64).toNat=false:=by rw[show(k*64+(lo+(n:Int))) / 64=k by omega];exact v
  have E: ∀i:Int,lo<=i->i<lo+(n+1:Nat)->Z.O ((k*64+i) / 64).toNat=false:=λi a e=>by rw[show(k*64+i) / 64=k by omega];exact v
  unfold Sp.look;by_cases h:looks (s.mem.seg k.toNat).kind (lo+n)
  ·rw[ka h];have w:=(oD (m:=s.mem) GF hk).1 h
   have c:(s.look Z.O Z.T k (s.mem.seg k.toNat).kind lo n).mem.strong (k*64+(lo+n)):=by
    have:=(L.heads.seg _ d.2.1.2.2).2.1;unfold Mem.strong Mem.kAt at*;rw[this];exact w
   obtain⟨q,o,z,A,C⟩:=L.tri.lookAt S (L.heads.used d) D c;refine⟨q,o,z,L.trans A,λi a e f=>?_⟩;by_cases r:i=lo+n
   ·rw[r];exact C
   ·exact A.done _ (L.heads.used (hu i a GF)) (E i a GF) (B i a GF f)
  ·rw[kb h];refine⟨p,l,y,L,λi a e f=>?_⟩;by_cases r:i=lo+n
   ·exact absurd ((oD (m:=s.mem) GF hk).2 (r▸f)) h
   ·exact B i a GF f
def yN(Z:TZ)(c:Int×Int):Prop:=Z.m.has c.1/\Z.O c.1.toNat=false/\0<=c.2/\c.2<4
def yO(Z:TZ)(fw:Int->Option Int)(s:Sp)(c:Int×Int):Prop:= ∀i:Int,c.2*16<=i->i< (c.2+1)*16->Z.m.used (c.1*64+i)->s.mem.strong (c.1*64+i)->Done Z fw s (c.1*64+i)
theorem Tri.lookCards(S:fK Z g F0): ∀(l:List (Int×Int)) {fw:Int->Option Int} {al:List Int} {s:Sp} {sz:Int->Nat} (t:Tri Z F0 fw al s sz),(∀c∈l,yN Z c)-> ∃f p z,kJ Z F0 fw s (s.lookCards Z.O Z.T l) f p z/\ ∀c∈l,yO Z f (s.lookCards Z.O Z.T l) c
 | [],fw,al,s,sz,t,_=>⟨fw,al,sz,kJ.refl t,λc M=>by cases M⟩
 | c::l,fw,al,s,sz,t,h=>by
  obtain⟨r,B,P,Q⟩:=h c GH;have j:=t.heads.has r;have v:s.mem.segOr c.1=s.mem.seg c.1.toNat:=by unfold Mem.segOr;rw[ka j]
  have E:=(t.ok.mem.seg c.1.toNat).n
  obtain⟨H,F,N,d,C⟩:=t.look S (k:=c.1) (lo:=c.2*16) r.1 GF B (min (s.mem.seg c.1.toNat).n ((c.2+1)*16)-c.2*16).toNat GF (λi D I=>by
   have m:(c.1*64+i) / 64=c.1:=GF;have u:(c.1*64+i) % 64=i:=GF;have:=r.1;exact⟨GF,by rw[m];exact j,by rw[m,u];omega⟩)
  have e:s.lookCard Z.O Z.T c=s.look Z.O Z.T c.1 (s.mem.seg c.1.toNat).kind (c.2*16) (min (s.mem.seg c.1.toNat).n ((c.2+1)*16)-c.2*16).toNat:=by unfold Sp.lookCard;rw[v]
  rw[<-e]at d C;obtain⟨w,q,A,o,G⟩:=Tri.lookCards S l d.tri (λb a=>h b (by simp[a]));have u:s.lookCards Z.O Z.T (c::l)=(s.lookCard Z.O Z.T c).lookCards Z.O Z.T l:=rfl;rw[u];refine⟨w,q,A,d.trans o,λb a=>?_⟩;rcases Ew.1 a with rfl | a
  ·intro i D I J K;have y:=t.heads.used J
   have R:i< (s.mem.seg b.1.toNat).n:=by
    have:=y.2.2;have m:(b.1*64+i) / 64=b.1:=GF;rw[m]at this;omega
   have x:s.mem.strong (b.1*64+i):=by
    have L:=((d.heads.trans o.heads).seg _ y.2.1.2.2).2.1;unfold Mem.strong Mem.kAt at*;rw[<-L];exact K
   refine o.done _ (d.heads.used y) (by rw[show(b.1*64+i) / 64=b.1 by omega];exact B) (C i D GF x)
  ·exact G b a
def AB(Z:TZ)(fw:Int->Option Int)(s:Sp)(k0 ks:List (Int×Value)):Prop:= ∀k i:Int,0<=k->seenAt k0 k<=i->i<seenAt ks k->Z.O k.toNat=false->s.mem.used (k*64+i)/\(s.mem.strong (k*64+i)->Done Z fw s (k*64+i))
theorem Tri.drains(S:fK Z g F0)(t:Tri Z F0 fw al s sz){C E:List (Int×Value)}{F:Sp}(r:jq C)(h:jg Z.O Z.T s C F E): ∃m w G,kJ Z F0 fw s F m w G/\AB Z m F C E/\jq E:=by
 induction h with
 | refl=>exact⟨fw,al,sz,kJ.refl t,λk i _ v b=>GF,r⟩
 | @step f a k hd hk hg U hn W=>
  obtain⟨Q,M,Y,L,D,j⟩:=W;obtain⟨_,X,q1⟩:=lk j k;have p:=(L.tri.ok.mem.seg k.toNat).n
  have d: ∀i:Int,0<=i->i< (f.mem.seg k.toNat).n->f.mem.used (k*64+i):=λi v b=>by
   have J:(k*64+i) / 64=k:=GF;have P:(k*64+i) % 64=i:=GF;have:=hk.1;exact⟨GF,by rw[J];exact hk,by rw[J,P];omega⟩
  obtain⟨z,y,H,l,N⟩:=L.tri.look S (k:=k) (lo:=seenAt a k) hk.1 X U ((f.mem.seg k.toNat).n-seenAt a k).toNat GF (λi v b=>d i GF GF);refine⟨z,y,H,L.trans l,λe i B v b q=>?_,j.put p⟩;rw[nT]at b
  have c: ∀x,f.mem.used x->(f.look Z.O Z.T k (f.mem.seg k.toNat).kind (seenAt a k) ((f.mem.seg k.toNat).n-seenAt a k).toNat).mem.strong x->f.mem.strong x:=λx V u=>by
   have R:=(l.heads.seg _ V.2.1.2.2).2.1;unfold Mem.strong Mem.kAt at*;rw[<-R];exact u
  have old:i<seenAt a e->_/\_:=λA=>by
   obtain⟨I,u2⟩:=D e i B v A q;obtain⟨_,r0,r1⟩:=lk j e;obtain⟨_,r2,r3⟩:=lk r e;exact⟨l.heads.used I,λu=>l.done _ I (by rw[show(e*64+i) / 64=e by omega];exact q) (u2 (c _ I u))⟩
  by_cases o:e=k
  ·subst o;rw[ka rfl]at b;by_cases A:i<seenAt a e
   ·exact old A
   ·have K:=d i GF b;exact⟨l.heads.used K,λu=>N i GF GF (c _ K u)⟩
  ·rw[kb o]at b;exact old b
end
variable{a:Sp}{b:Tr}
def mD(m:Mem):Prop:= ∀x,m.used x->m.kAt x≠3->(m.genOf (m.get x)).2=true->(m.genOf (m.get x)).1<m.gAt x->(m.seg (x / 64).toNat).cards (x % 64 / 16).toNat<=(m.genOf (m.get x)).1
theorem oU{m:Mem}{w:Int}(c:ic w)(b:w % 8≠6)(a:m.has (w / 8 / 64)):m.genOf w=(m.gAt (w / 8),true):=by
 unfold Mem.genOf;rw[ka ⟨c,b⟩,ka a,zX a]
section
variable {Z:TZ} {g F0:Int}
theorem Tri.begin'(S:fK Z g F0)(n:SpOK a)(hm:a.mem=Z.m)(q:a.mem.free=F0)(t: ∀i j:Nat,(i:Int)<=g->a.cur i j=0):Tri Z F0 (λ_=>none) [] a Z.sz:=by
 have A:=S.rng;refine⟨n,by rw[hm];exact S.even,by rw[hm];exact gq.refl _,λk _ _=>by rw[hm],λk hk o=>?_,⟨λ_=>0,?_,λ_ _ _=>rfl,λk hk=>?_⟩,⟨List.nodup_nil,λB h=>by cases h⟩,λB=>⟨λh=>(by cases h),λ⟨b,h⟩=>(by cases h)⟩,λB b h=>(by cases h),λB w b h=>(by cases h),S.sound.apart,λ_ _=>rfl,λb s=> .inl (S.sound.used b s).1,λB b h=>(by cases h),λx _ _ _=>by rw[hm],λx u=> .inl (by rw[<-hm];exact u),λx v h=>?_,λB b h=>(by cases h)⟩
 ·have r:g<Z.T:=by
   rcases FD g Z.T with h | h
   ·exact h
   ·exact absurd (t Z.T.toNat k GF) o
  rcases n.cur Z.T.toNat k with h | ⟨c,d,f,y⟩
  ·exact absurd h o
  rw[hm]at d f;have z:=S.ok.lim;have l:(a.cur Z.T.toNat k-1).toNat<1024:=by have:=d.2.1;omega
  by_cases p:Z.O (a.cur Z.T.toNat k-1).toNat=true
  ·have:=((S.old _ l).1 p).2;omega
  ·simpa using p
 ·simp;exact q
 ·have:=Sp.fill_rng n Z.T k;have e:Z.uk [] (k:Int)=0:=rfl;rw[e];simp;omega
 ·rcases h with⟨c,d,f⟩ | ⟨B,b,i,c,_⟩
  ·left;rw[f,hm]
  ·cases c
def Fin(Z:TZ)(fw:Int->Option Int)(s:Sp):Prop:= ∀x,s.mem.used x->Z.O (x / 64).toNat=false->s.mem.strong x->Done Z fw s x
theorem jX.cardOf(S:fK Z g F0)(B:jX Z.m g Z.T b): ∀c∈b.cards,yN Z c:=by
 obtain⟨l,a,e⟩:=B.cards;rw[e];intro c f;obtain⟨k,hk,i,o,rfl,j,n⟩:=Mem.mem_dirty.1 f;obtain⟨h,p,q,_⟩:=a.has hk;have a:=S.ok.lim;refine⟨h,?_,by show(0:Int)<=(i:Int);omega,by show(i:Int)<4;omega⟩;show Z.O ((k:Int)).toNat=false;rw[show((k:Nat):Int).toNat=k by omega];by_cases d:Z.O k=true
 ·have:=((S.old k GF).1 d).2;omega
 ·simpa using d
theorem jX.dirty(S:fK Z g F0)(B:jX Z.m g Z.T b)(hm:mD Z.m){x:Int}(d:Z.m.used x)(t:Z.O (x / 64).toNat=false)(hk:Z.m.kAt x≠3)(a:aU Z.O (Z.m.get x))(r:Good Z.m Z.sz (Z.m.get x)):(x / 64,x % 64 / 16)∈b.cards:=by
 obtain⟨l,s,e⟩:=B.cards;obtain⟨o,p,v,w⟩:=S.oldWord r a;obtain⟨n,_⟩:=S.sound.used _ o;have i:=S.lt n;have j:=S.lt d;have c:=oU (m:=Z.m) a.1 a.2.1 n.2.1;have f:Z.m.gAt (Z.m.get x / 8)<=g:=((S.old _ i.1).1 p).2
 have k:g<Z.m.gAt x:=by
  rcases FD g (Z.m.gAt x)with q | q
  ·exact q
  ·have:=(S.old _ j.1).2 ⟨by rw[show(((x / 64).toNat:Nat):Int)=x / 64 by have:=d.1;omega];exact d.2.1,q⟩;rw[t]at this;cases this
 have h:=hm x d hk (by rw[c]) (by rw[c];show Z.m.gAt _<_;omega);rw[c]at h;rw[e,Mem.mem_dirty];have u:=d.1;refine⟨(x / 64).toNat,?_,(x % 64 / 16).toNat,GF,?_,k,Gg h f⟩
 ·rw[s.perm.mem_iff];unfold Mem.takenTo;rw[Fg,ER];have y:=(S.ok.seg (x / 64).toNat).taken;have z:=d.2.1.2.2;refine⟨by have:=d.2.1.2.1;omega,?_⟩;simp only[EF,Ex,EU];exact⟨GF,.inl rfl⟩
 ·rw[show(((x / 64).toNat:Nat):Int)=x / 64 by omega,show(((x % 64 / 16).toNat:Nat):Int)=x % 64 / 16 by omega]
theorem Tri.final{r:Int->Option Int}{G:List Int}{P:Int->Nat}{o:Sp}{U:List (Int×Value)}(S:fK Z g F0)(t:Tri Z F0 r G a P)(hm:mD Z.m)(B:jX Z.m g Z.T b)(hO:b.old=Z.O)(hd:jg Z.O Z.T (a.lookCards Z.O Z.T b.cards) b.seen o U)(J:pT Z.O Z.T o U):
  ∃I V sz,Tri Z F0 I V o sz/\Le r I/\Fin Z I o:=by
 obtain⟨a0,W,aa,D,X⟩:=t.lookCards S b.cards (B.cardOf S);have M:=B.seenOK S.ok;obtain⟨s,H,Q,E,Y,a8⟩:=D.tri.drains S M hd;refine⟨s,H,Q,E.tri,D.le.trans E.le,λx F y R=>?_⟩;have p:=E.tri;have hl:=p.ok.mem.lim;rcases p.cover x F with j | ⟨af,ag,i,h1,h2,h3⟩
 ·have hk:=(p.kAt j).1;have l:Z.m.strong x:=by unfold Mem.strong at*;rw[<-hk];exact R
  have h:Was Z s x (Z.m.get x):=.inl ⟨j,y,rfl⟩;have k:=S.sound.good x j l.1;by_cases c:aU Z.O (Z.m.get x)
  ·have d:=B.dirty S hm j y l.1 c k
   have z:(a.lookCards Z.O Z.T b.cards).mem.strong x:=by
    have h5:=(D.tri.kAt j).1;unfold Mem.strong at*;rw[h5];exact l
   have A:=j.1;have:=X _ d (x % 64) (by show x % 64 / 16*16<=_;omega) (by show _< (x % 64 / 16+1)*16;omega) (by show Z.m.used (x / 64*64+x % 64);rw[show x / 64*64+x % 64=x by omega];exact j) (by show Mem.strong _ (x / 64*64+x % 64);rw[show x / 64*64+x % 64=x by omega];exact z);have e:(x / 64,x % 64 / 16).1*64+x % 64=x:=by show x / 64*64+x % 64=x;omega
   rw[e]at this;exact E.done x (D.tri.heads.used j) y this
  ·intro v hv;have:=p.was_one h hv;subst this;refine⟨λq=>absurd q c,?_⟩;rw[km c];rcases p.val x _ h with q | ⟨_,_,q⟩
   ·exact q
   ·rw[q,km c]
 ·have N:=(p.img af ag h1).2;have hf:=N.fit;have C:x / 64=ag / 64:=GF;have A:=F.1;have u:(o.mem.seg (x / 64).toNat).gen=Z.T:=by rw[C];exact N.gen
  have w:o.mem.has (((x / 64).toNat:Nat):Int):=by rw[show(((x / 64).toNat:Nat):Int)=x / 64 by omega];exact F.2.1
  have hN:=J (x / 64).toNat w u y;rw[show(((x / 64).toNat:Nat):Int)=x / 64 by omega]at hN
  have f:seenAt b.seen (x / 64)<=x % 64:=by
   unfold seenAt;rw[B.seen (x / 64) GF];by_cases L:Z.m.has (x / 64)/\(Z.m.seg (x / 64).toNat).gen=Z.T
   ·rw[ka L];show(Z.m.seg (x / 64).toNat).n<=_;have K: ¬Z.m.used x:=by rw[h3];exact N.new i h2
    rcases FD (x % 64) (Z.m.seg (x / 64).toNat).n with q | q
    ·exact absurd ⟨A,L.1,q⟩ K
    ·exact q
   ·rw[kb L];show(0:Int)<=_;omega
  have:=Y (x / 64) (x % 64) GF f (by have:=F.2.2;omega) y;rw[show x / 64*64+x % 64=x by omega]at this;exact this.2 R
theorem Fin.reach{s:Int->Option Int}{B:List Int}{E:Int->Nat}(S:fK Z g F0)(t:Tri Z F0 s B a E)(f:Fin Z s a)(C: ∀v,Z.V v->Dn Z.O s v){G:Int}(h:Reach Z G): ∃b,s G=some b:=by
 induction h with
 | root h o=>exact C _ h o
 | @older x A hn u o=>
  have d:a.mem.strong x:=by unfold Mem.strong at*;rw[(t.kAt A).1];exact u
  exact(f x (t.heads.used A) hn d _ (.inl ⟨A,hn,rfl⟩)).1 o
 | @step G i h y u o D=>
  obtain⟨b,w⟩:=D;have r:=(t.img G b w).2;have p:=(t.olds.mem G ((t.al G).2 ⟨b,w⟩)).1;have j:=S.sound.usedAt p y (λk=>(S.ok.seg k).n.2);have F:=r.fit;have e:(b+(i:Int)) / 64=b / 64:=GF;have z:a.mem.kAt (b+i)=Z.m.kAt (G+i):=by unfold Mem.kAt;rw[e,j.2.1];exact r.kind
  have l:Z.m.kAt (G+i)=Z.m.kAt G:=by unfold Mem.kAt;rw[j.2.1]
  have d:a.mem.strong (b+i):=by
   unfold Mem.strong at*;rw[z];refine⟨u.1,?_⟩;by_cases c:Z.m.kAt (G+i)=1
   ·right;have:=u.2.resolve_left (λq=>q c);have:=r.even (by rw[<-l,c];decide);have:=(S.sound.two G p (by rw[<-l,c];decide)).2;omega
   ·exact .inl c
  exact(f (b+i) (r.here i y) (by rw[e];exact r.out) d _ (.inr ⟨G,b,i,w,y,rfl,rfl⟩)).1 o
end
variable{a d:Mem}{b:Tr}{i j:Prop}
theorem Sp.give_seg(s:Sp)(k:Int)(i:Nat):(s.give k).mem.seg i=(if s.mem.has k/\(i:Int)=k then Seg.none else s.mem.seg i)/\(s.give k).mem.limit=s.mem.limit:=by
 unfold Sp.give;by_cases h:s.mem.has k
 ·rw[ka h];show(s.mem.give k).seg i=_/\(s.mem.give k).limit=_;unfold Mem.give;rw[ka h];refine⟨?_,rfl⟩;rw[E0];have:=h.1;exact kC ⟨λe=>⟨h,GF⟩,λe=>by have:=e.2;omega⟩ _ _
 ·rw[kb h,kb (λq=>h q.1)];exact⟨rfl,rfl⟩
theorem Sp.gives_seg(s:Sp)(old:Nat->Bool): ∀n:Nat,(s.gives old n).mem.limit=s.mem.limit/\ ∀i:Nat,(s.gives old n).mem.seg i=if i<n/\old i=true/\s.mem.has i then Seg.none else s.mem.seg i
 | 0=>⟨rfl,λi=>by rw[kb GF];rfl⟩
 | n+1=>by
  obtain⟨d,e⟩:=Sp.gives_seg s old n;unfold Sp.gives;by_cases c:old n=true
  ·rw[ka c];refine⟨(Sp.give_seg _ _ 0).2.trans d,λi=>?_⟩;rw[(Sp.give_seg _ _ i).1]
   have f:(s.gives old n).mem.has n ↔ s.mem.has n:=by
    unfold Mem.has;rw[d,show((n:Nat):Int).toNat=n by omega,e n,kb GF]
   rw[e i];by_cases b:i=n
   ·subst b;by_cases a:s.mem.has i
    ·rw[ka ⟨f.2 a,rfl⟩,ka ⟨GF,c,a⟩]
    ·rw[kb (λq=>a (f.1 q.1)),kb (λq=>a q.2.2),kb (λq=>a q.2.2)]
   ·rw[kb (λq=>b GF)];exact kC ⟨λq=>⟨GF,q.2⟩,λq=>⟨GF,q.2⟩⟩ _ _
  ·rw[kb c];refine⟨d,λi=>?_⟩;rw[e i];refine kC ⟨λq=>⟨GF,q.2⟩,λq=>⟨?_,q.2⟩⟩ _ _;by_cases b:i=n
   ·rw[b]at q;exact absurd q.2.1 c
   ·omega
structure Unm (m m':Mem):Prop where
 limit:m'.limit=m.limit
 seg: ∀i,(m'.seg i).gen=(m.seg i).gen/\(m'.seg i).kind=(m.seg i).kind/\(m'.seg i).n=(m.seg i).n/\(m'.seg i).taken=(m.seg i).taken/\(m'.seg i).words=(m.seg i).words
theorem Unm.refl(m:Mem):Unm m m:=⟨rfl,λ_=>⟨rfl,rfl,rfl,rfl,rfl⟩⟩
theorem Unm.trans{a b c:Mem}(h:Unm a b)(k:Unm b c):Unm a c:=⟨k.limit.trans h.limit,λi=>by
 obtain⟨d,e,f,j,l⟩:=h.seg i;obtain⟨m,n,o,p,q⟩:=k.seg i;exact⟨m.trans d,n.trans e,o.trans f,p.trans j,q.trans l⟩⟩
theorem Unm.again(m:Mem)(k c:Int):Unm m (m.again k c):=by
 obtain⟨a,_,_,b⟩:=m.again_seg k c;exact⟨a,b⟩
theorem Unm.has(h:Unm a d){k:Int}:d.has k ↔ a.has k:=by unfold Mem.has;rw[h.limit,(h.seg _).2.2.2.1]
theorem Unm.used{m a:Mem}(h:Unm m a){x:Int}:a.used x ↔ m.used x:=by unfold Mem.used;rw[h.has,(h.seg _).2.2.1]
theorem Unm.get{m a:Mem}(h:Unm m a)(x:Int):a.get x=m.get x:=by unfold Mem.get;rw[(h.seg _).2.2.2.2]
theorem Unm.genOf(h:Unm a d)(w:Int):d.genOf w=a.genOf w:=by
 unfold Mem.genOf;rw[(h.seg _).1];have e:d.has (w / 8 / 64) ↔ a.has (w / 8 / 64):=h.has;by_cases q:ic w/\w % 8≠6
 ·rw[ka q,ka q];by_cases b:a.has (w / 8 / 64)
  ·rw[ka b,ka (e.2 b),zX b,zX (e.2 b)]
  ·rw[kb b,kb (λr=>b (e.1 r)),zQ b,zQ (λr=>b (e.1 r))]
 ·rw[kb q,kb q]
theorem Unm.younger{m a:Mem}(h:Unm m a)(i:Nat)(w b:Int):a.younger (a.seg i) w b=m.younger (m.seg i) w b:=by
 unfold Mem.younger;rw[h.genOf,(h.seg i).1,(h.seg i).2.1]
theorem Unm.markOf{m a:Mem}(h:Unm m a)(k c:Int): ∀n,a.markOf k c n=m.markOf k c n
 | 0=>rfl
 | n+1=>by rw[Mem.markOf_succ,Mem.markOf_succ,h.younger,h.get,Unm.markOf h k c n]
theorem Unm.cardLen(h:Unm a d)(k c:Int):d.cardLen k c=a.cardLen k c:=by unfold Mem.cardLen;rw[(h.seg _).2.2.1]
def Mem.mark1(m:Mem)(k c:Int):Int:=m.markOf k c (m.cardLen k c)
theorem Mem.again_cards(e:bP a)(k c:Int)(i j:Nat):((a.again k c).seg i).cards j=if((i:Int),(j:Int))=(k,c)/\a.has k/\c<4 then a.mark1 k c else(a.seg i).cards j:=by
 unfold Mem.again;by_cases h:a.has k/\0<=c/\c<4
 ·rw[ka h];have l:=Mem.markOf_rng e k c (a.cardLen k c);unfold Mem.mark;rw[kb (λq=>q h.1),kb GF];show((a.upd _ _).seg i).cards j=_;rw[E0];have f:=h.1.1;by_cases b:i=k.toNat
  ·rw[ka b];show(if j=c.toNat then _ else _)=_;by_cases d:j=c.toNat
   ·rw[ka d,ka ⟨by rw[EX];omega,h.1,h.2.2⟩];rfl
   ·rw[kb d,kb (λq=>d (by have:=(Prod.mk.inj q.1).2;omega)),b]
  ·rw[kb b,kb (λq=>b (by have:=(Prod.mk.inj q.1).1;omega))]
 ·rw[kb h,kb (λq=>h ⟨q.2.1,by have:=(Prod.mk.inj q.1).2;omega,q.2.2⟩)]
theorem Sp.agains_spec: ∀(l:List (Int×Int)) {s:Sp} (f:SpOK s),Unm s.mem (s.agains l).mem/\ ∀i j:Nat,((s.agains l).mem.seg i).cards j=if((i:Int),(j:Int))∈l/\s.mem.has i/\j<4 then s.mem.mark1 i j else(s.mem.seg i).cards j
 | [],s,f=>⟨Unm.refl _,λi j=>by rw[kb (λq=>by cases q.1)];rfl⟩
 | c::l,s,f=>by
  have d:=Unm.again s.mem c.1 c.2;obtain⟨u,p⟩:=Sp.agains_spec l (f.again c.1 c.2);have e:s.agains (c::l)=({s with mem:=s.mem.again c.1 c.2}:Sp).agains l:=rfl;rw[e];refine⟨d.trans u,λi j=>?_⟩;rw[p i j];show(if _/\(s.mem.again c.1 c.2).has i/\j<4 then(s.mem.again c.1 c.2).mark1 i j else((s.mem.again c.1 c.2).seg i).cards j)=_;have o:(s.mem.again c.1 c.2).mark1 i j=s.mem.mark1 i j:=by unfold Mem.mark1;rw[d.markOf,d.cardLen]
  rw[o,Mem.again_cards f.mem];by_cases b:((i:Int),(j:Int))∈l/\s.mem.has i/\j<4
  ·rw[ka ⟨b.1,d.has.2 b.2.1,b.2.2⟩,ka ⟨FF _ b.1,b.2⟩]
  ·rw[kb (λq=>b ⟨q.1,d.has.1 q.2.1,q.2.2⟩)];by_cases a:((i:Int),(j:Int))=(c.1,c.2)/\s.mem.has c.1/\c.2<4
   ·obtain⟨h,k⟩:=Prod.mk.inj a.1;rw[ka a,ka ⟨by rw[a.1];exact FT,by rw[h];exact a.2.1,by have:=a.2.2;omega⟩,<-h,<-k]
   ·rw[kb a,kb];rintro⟨r,n,t⟩;rcases Ew.1 r with q | q
    ·have m:((i:Int),(j:Int))=(c.1,c.2):=q;obtain⟨h,k⟩:=Prod.mk.inj m;exact a ⟨m,by rw[<-h];exact n,GF⟩
    ·exact b ⟨q,n,t⟩
theorem Mem.younger_le(m:Mem)(b:Seg)(w a:Int):m.younger b w a<=a:=by unfold Mem.younger;split<;>omega
theorem Mem.markOf_le(m:Mem)(k c:Int): ∀n i:Nat,i<n->(m.genOf (m.get (k*64+c*16+i))).2=true->(m.seg k.toNat).kind≠3->(m.genOf (m.get (k*64+c*16+i))).1< (m.seg k.toNat).gen->m.markOf k c n<=(m.genOf (m.get (k*64+c*16+i))).1
 | n+1,i,hi,h1,h2,h3=>by
  rw[Mem.markOf_succ];by_cases e:i=n
  ·subst e;unfold Mem.younger;rw[ka ⟨h1,h2,h3⟩];omega
  ·exact Gg (Mem.younger_le _ _ _ _) (Mem.markOf_le m k c n i GF h1 h2 h3)
section
variable {Z:TZ} {g F0:Int} {fw:Int->Option Int} {al:List Int} {s:Sp} {sz:Int->Nat}
structure Broke (Z:TZ) (fw:Int->Option Int) (s s':Sp):Prop where
 same:bQ s.mem s'.mem
 cur:s'.cur=s.cur
 ok:SpOK s'
 strong: ∀x,s.mem.used x->Z.O (x / 64).toNat=false-> ¬(s.mem.kAt x=1/\x % 2=0)->s'.mem.get x=s.mem.get x
 weak: ∀x,s.mem.used x->Z.O (x / 64).toNat=false->s.mem.kAt x=1->x % 2=0->s'.mem.get x=44\/ ∀v,Was Z fw x v->Dn Z.O fw v/\s'.mem.get x=Fw Z.O fw v
structure Ended (Z:TZ) (tr:Tr) (s:Sp) (m:Mem):Prop where
 limit:m.limit=s.mem.limit
 seg: ∀k,Z.O k=false->(m.seg k).gen=(s.mem.seg k).gen/\(m.seg k).kind=(s.mem.seg k).kind/\(m.seg k).n=(s.mem.seg k).n/\(m.seg k).taken=(s.mem.seg k).taken/\(m.seg k).words=(s.mem.seg k).words
 gone: ∀k:Nat,k<1024->Z.O k=true->(m.seg k).taken=0
 cards: ∀i j:Nat,Z.O i=false->(m.seg i).cards j=if((i:Int),(j:Int))∈tr.cards/\s.mem.has i/\j<4 then m.mark1 i j else(s.mem.seg i).cards j
theorem Sp.ended_spec{tr:Tr}(t:tr.old=Z.O)(m:SpOK s)(b: ∀k:Nat,k<1024->Z.O k=true->s.mem.has k):Ended Z tr s (s.ended tr).mem/\SpOK (s.ended tr):=by
 have n:=Sp.gives_ok m tr.old 1024;obtain⟨p,r⟩:=Sp.gives_seg s tr.old 1024;obtain⟨u,h⟩:=Sp.agains_spec tr.cards n;have a: ∀k,Z.O k=false->(s.gives tr.old 1024).mem.seg k=s.mem.seg k:=λk hk=>by rw[r k,kb (λq=>by rw[t,hk]at q;cases q.2.1)]
 refine⟨⟨u.limit.trans p,λk hk=>?_,λk d f=>?_,λi j v=>?_⟩,?_⟩
 ·have:=u.seg k;rw[a k hk]at this;exact this
 ·show(((s.gives tr.old 1024).agains tr.cards).mem.seg k).taken=0;rw[(u.seg k).2.2.2.1,r k,ka ⟨d,by rw[t];exact f,b k d f⟩];rfl
 ·show(((s.gives tr.old 1024).agains tr.cards).mem.seg i).cards j=_;rw[h i j];have w:(s.ended tr).mem.mark1 i j=(s.gives tr.old 1024).mem.mark1 i j:=by unfold Mem.mark1 Sp.ended;rw[u.markOf,u.cardLen]
  rw[w,a i v];refine kC ?_ _ _;have e:(s.gives tr.old 1024).mem.has i ↔ s.mem.has i:=by unfold Mem.has;rw[p,show((i:Nat):Int).toNat=i by omega,a i v]
  rw[e]
 ·have o: ∀(l:List (Int×Int)) {s:Sp},SpOK s->SpOK (s.agains l):=λl=>by
   induction l with
   | nil=>intro s m;exact m
   | cons c l x=>intro s m;exact x (m.again c.1 c.2)
  exact o tr.cards n
theorem Ended.used{m:Mem}(S:fK Z g F0)(h:Ended Z b s m)(l:s.mem.limit=Z.m.limit){x:Int}:m.used x ↔ s.mem.used x/\Z.O (x / 64).toNat=false:=by
 have k:=S.ok.lim;constructor
 ·rintro⟨d,a,e⟩;have f:(x / 64).toNat<1024:=by have:=a.2.1;rw[h.limit,l]at this;omega
  have c:Z.O (x / 64).toNat=false:=by
   by_cases q:Z.O (x / 64).toNat=true
   ·exact absurd (h.gone _ f q) a.2.2
   ·simpa using q
  obtain⟨_,_,i,j,_⟩:=h.seg _ c;exact⟨⟨d,⟨a.1,by rw[<-h.limit];exact a.2.1,by rw[<-j];exact a.2.2⟩,by rw[<-i];exact e⟩,c⟩
 ·rintro⟨⟨d,a,e⟩,c⟩;obtain⟨_,_,i,j,_⟩:=h.seg _ c;exact⟨d,⟨a.1,by rw[h.limit];exact a.2.1,by rw[j];exact a.2.2⟩,by rw[i];exact e⟩
theorem Ended.get{m:Mem}(h:Ended Z b s m){x:Int}(a:Z.O (x / 64).toNat=false):m.get x=s.mem.get x/\m.kAt x=s.mem.kAt x/\m.gAt x=s.mem.gAt x:=by
 obtain⟨c,d,_,_,e⟩:=h.seg _ a;exact⟨by unfold Mem.get;rw[e],d,c⟩
def B9(O:Nat->Bool)(sz:Int->Nat)(a:Int):Nat:=if O (a / 64).toNat=true then 0 else sz a
structure fy (Z:TZ) (g F0:Int) (fw:Int->Option Int) (al:List Int) (sz:Int->Nat) (tr:Tr) (s s':Sp) (m:Mem):Prop where
 S:fK Z g F0
 tri:Tri Z F0 fw al s sz
 fin:Fin Z fw s
 roots: ∀v,Z.V v->Dn Z.O fw v
 broke:Broke Z fw s s'
 ended:Ended Z tr s' m
 begun:jX Z.m g Z.T tr
 marked:mD Z.m
theorem fy.used{a:Sp}{m:Mem}(t:fy Z g F0 fw al sz b s a m){x:Int}:m.used x ↔ s.mem.used x/\Z.O (x / 64).toNat=false:=by
 have:=t.ended.used t.S (by rw[t.broke.same.limit,t.tri.heads.limit]) (x:=x);rw[this,t.broke.same.used]
theorem fy.kind{e:Sp}{m:Mem}(t:fy Z g F0 fw al sz b s e m){x:Int}(h:m.used x):m.kAt x=s.mem.kAt x/\m.gAt x=s.mem.gAt x:=by
 obtain⟨_,d⟩:=t.used.1 h;obtain⟨_,a,c⟩:=t.ended.get d;exact⟨a.trans (t.broke.same.seg _).2.1,c.trans (t.broke.same.seg _).1⟩
theorem fy.get{n:Sp}{m:Mem}(t:fy Z g F0 fw al sz b s n m){x v:Int}(d:Was Z fw x v):m.get x=(if s.mem.kAt x=3 then v else Fw Z.O fw v)/\(s.mem.kAt x≠3->Dn Z.O fw v)\/(m.get x=44/\s.mem.kAt x=1/\x % 2=0):=by
 obtain⟨h,e⟩:=t.tri.usedOf d;have j:=(t.ended.get e).1;by_cases a:s.mem.kAt x=1/\x % 2=0
 ·rw[j];rcases t.broke.weak x h e a.1 a.2 with q | q
  ·exact .inr ⟨q,a⟩
  ·left;rw[kb (by rw[a.1];decide)];exact⟨(q v d).2,λ_=>(q v d).1⟩
 ·left;rw[j,t.broke.strong x h e a];by_cases c:s.mem.kAt x=3
  ·rw[ka c];refine⟨?_,λq=>absurd c q⟩;rcases t.tri.val x v d with q | ⟨q,_⟩
   ·exact q
   ·exact absurd c q.1
  ·rw[kb c]
   have f:s.mem.strong x:=⟨c,by
    by_cases i:s.mem.kAt x=1
    ·right;have:=λq=>a ⟨i,q⟩;omega
    ·exact .inl i⟩
   obtain⟨k,l⟩:=t.fin x h e f v d;exact⟨l,λ_=>k⟩
theorem fy.good{C:Sp}(t:fy Z g F0 fw al sz b s C a){v:Int}(F:aO v)(h:Good Z.m Z.sz v)(z:Dn Z.O fw v):Good a (B9 Z.O sz) (Fw Z.O fw v)/\(gf v->a.used (Fw Z.O fw v / 8)/\B9 Z.O sz (Fw Z.O fw v / 8)=Z.sz (v / 8)/\a.kAt (Fw Z.O fw v / 8)=Z.m.kAt (v / 8)/\Z.T<=a.gAt (Fw Z.O fw v / 8))/\Fw Z.O fw v % 8=v % 8:=by
 have S:=t.S;by_cases k:aU Z.O v
 ·obtain⟨H,u⟩:=z k;obtain⟨o,x,D,y⟩:=S.oldWord h k;obtain⟨w,f⟩:=t.tri.img _ _ u;rw[jO k u];have r:(H*8+v % 8) / 8=H:=GF;have n:(H*8+v % 8) % 8=v % 8:=GF;have p:s.mem.used H:=by simpa using f.here 0 GF
  have c:a.used H:=t.used.2 ⟨p,f.out⟩;have hk:=t.kind c;have l:B9 Z.O sz H=Z.sz (v / 8):=by unfold B9;rw[kb (by rw[f.out];decide),w]
  refine⟨⟨by rw[n];exact h.1,λ_=>?_⟩,λ_=>?_,n⟩
  ·rw[r,n,l,hk.1,f.kind];exact⟨o,y⟩
  ·rw[r];exact⟨c,l,by rw[hk.1,f.kind],by rw[hk.2,f.gen];exact EN _⟩
 ·rw[km k]
  have key:gf v->a.used (v / 8)/\B9 Z.O sz (v / 8)=Z.sz (v / 8)/\a.kAt (v / 8)=Z.m.kAt (v / 8)/\Z.T<=a.gAt (v / 8):=λe=>by
   obtain⟨o,x⟩:=h.2 e;obtain⟨m,_⟩:=S.sound.used _ o;have j:=S.lt m
   have d:Z.O (v / 8 / 64).toNat=false:=by
    by_cases q:Z.O (v / 8 / 64).toNat=true
    ·exact absurd ⟨⟨by unfold gf at e;omega,j.2.2⟩,by unfold gf at e;omega,q⟩ k
    ·simpa using q
   have c:a.used (v / 8):=t.used.2 ⟨t.tri.heads.used m,d⟩;have hk:=t.kind c;have i:=t.tri.kAt m;refine⟨c,by unfold B9;rw[kb (by rw[d];decide),t.tri.sz0 _ m],by rw[hk.1,i.1],?_⟩;rw[hk.2,i.2];have E:=S.rng;rcases FD g (Z.m.gAt (v / 8))with q | q
   ·omega
   ·have:=(S.old _ j.1).2 ⟨by rw[show(((v / 8 / 64).toNat:Nat):Int)=v / 8 / 64 by omega];exact m.2.1,q⟩;rw[d]at this;cases this
  refine⟨⟨h.1,λe=>?_⟩,key,rfl⟩;obtain⟨G,A,B,_⟩:=key e;rw[A,B];exact h.2 e
theorem fy.was{e:Sp}(t:fy Z g F0 fw al sz b s e a){x:Int}(h:a.used x): ∃v,Was Z fw x v:=by
 obtain⟨c,d⟩:=t.used.1 h;exact t.tri.was c d
theorem fy.was_good{m:Sp}(t:fy Z g F0 fw al sz b s m a){x v:Int}(l:Was Z fw x v)(hk:s.mem.kAt x≠3):aO v/\Good Z.m Z.sz v:=by
 rcases l with⟨c,f,rfl⟩ | ⟨p,q,i,c,f,j,rfl⟩
 ·exact⟨(t.S.ok.seg _).words _,t.S.sound.good x c (by rw[<-(t.tri.kAt c).1];exact hk)⟩
 ·have h:=(t.tri.img p q c).2;have e:=(t.tri.olds.mem p ((t.tri.al p).2 ⟨q,c⟩)).1;have d:=t.S.sound.usedAt e f (λk=>(t.S.ok.seg k).n.2);have o:=h.fit;refine⟨(t.S.ok.seg _).words _,t.S.sound.good _ d.1 ?_⟩
  have:s.mem.kAt x=Z.m.kAt (p+i):=by
   unfold Mem.kAt;rw[j,show(q+i) / 64=q / 64 by omega,d.2.1];exact h.kind
  rw[<-this];exact hk
end
section
variable {Z:TZ} {g F0:Int} {fw:Int->Option Int} {al:List Int} {s:Sp} {sz:Int->Nat}
theorem pw{x:Int}(h:kA x)(O:Nat->Bool): ¬aU O x:=λq=>by have:=h.1;have:=q.1.1;omega
theorem fy.thing{w:Sp}(t:fy Z g F0 fw al sz b s w a){D:Int}(h:B9 Z.O sz D≠0): ∃C,Z.sz C≠0/\B9 Z.O sz D=Z.sz C/\a.kAt D=Z.m.kAt C/\(D % 64+Z.sz C<=(a.seg (D / 64).toNat).n)/\(∀i:Nat,i<Z.sz C->a.used (D+i)/\Was Z fw (D+i) (Z.m.get (C+i))/\(D+i) / 64=D / 64)/\(Z.m.kAt C<=1->D % 2=0)/\((C=D/\Z.m.used C/\Z.O (C / 64).toNat=false)\/fw C=some D):=by
 have S:=t.S
 have f:Z.O (D / 64).toNat=false:=by
  by_cases q:Z.O (D / 64).toNat=true
  ·exact absurd (by unfold B9;rw[ka q]) h
  ·simpa using q
 have e:B9 Z.O sz D=sz D:=by unfold B9;rw[kb (by rw[f];decide)]
 rw[e]at h⊢;rcases t.tri.szn D h with q | ⟨C,m⟩
 ·have p:=t.tri.sz0 D q;rw[p]at h⊢;obtain⟨o,B⟩:=S.sound.used D h;have d:a.used D:=t.used.2 ⟨t.tri.heads.used o,f⟩;have hk:=t.kind d;have u:=t.tri.kAt o;refine⟨D,h,rfl,by rw[hk.1,u.1],?_,λi j=>?_,λr=>(S.sound.two D h r).2,.inl ⟨rfl,o,f⟩⟩
  ·have x:=(t.ended.seg _ f).2.2.1;have y:=(t.broke.same.seg (D / 64).toNat).2.2.1;have z:=(t.tri.heads.seg _ o.2.1.2.2).2.2.2;omega
  ·have c:=S.sound.usedAt h j (λk=>(S.ok.seg k).n.2);exact⟨t.used.2 ⟨t.tri.heads.used c.1,by rw[c.2.1];exact f⟩,.inl ⟨c.1,by rw[c.2.1];exact f,rfl⟩,c.2.1⟩
 ·obtain⟨p,l⟩:=t.tri.img C D m;have v:=(t.tri.olds.mem C ((t.tri.al C).2 ⟨D,m⟩)).1;have A:=l.fit;have d: ∀i:Nat,i<Z.sz C->a.used (D+i):=λi j=>t.used.2 ⟨l.here i j,by rw[show(D+(i:Int)) / 64=D / 64 by omega];exact l.out⟩;have hk:=t.kind (by simpa using d 0 GF);refine⟨C,v,p,by rw[hk.1,l.kind],?_,λi j=>⟨d i j,.inr ⟨C,D,i,m,j,rfl,rfl⟩,GF⟩,l.even,.inr m⟩;have:=(d (Z.sz C-1) GF).2.2;rw[show(D+((Z.sz C-1:Nat):Int)) / 64=D / 64 by omega]at this;omega
theorem fy.sound{H:Sp}{m:Mem}(t:fy Z g F0 fw al sz b s H m):kE m (B9 Z.O sz):=by
 have S:=t.S;refine⟨λK d=>?_,λa K p d r=>?_,λK d hk=>?_,λK d hk=>?_,λx A hk=>?_⟩
 ·obtain⟨a,l,f,i,o,n,_⟩:=t.thing d;rw[f];exact⟨by simpa using(n 0 GF).1,o⟩
 ·have e: ∀c,B9 Z.O sz c≠0->B9 Z.O sz c=sz c:=λc u=>by
   unfold B9 at u⊢;split
   ·rename_i q;rw[ka q]at u;exact absurd rfl u
   ·rfl
  rw[e a p];exact t.tri.apart a K (by rw[<-e a p];exact p) (by rw[<-e K d];exact d) r
 ·obtain⟨a,l,f,i,o,n,y,_⟩:=t.thing d;rw[i]at hk;exact⟨by rw[f];exact(S.sound.two a l hk).1,y hk⟩
 ·obtain⟨a,l,f,i,o,n,y,_⟩:=t.thing d;rw[i]at hk⊢;obtain⟨B,E,F⟩:=S.sound.obj a l hk;have j:=n 0 GF;have D:Was Z fw K (Z.m.get a):=by simpa using j.2.1
  have w:m.used K:=by simpa using j.1
  have k:m.get K=Z.m.get a:=by
   rcases t.get D with⟨q,_⟩ | ⟨_,q,_⟩
   ·rw[q];split
    ·rfl
    ·exact km (pw B _)
   ·rw[<-(t.kind w).1,i]at q;omega
  rw[k,f];exact⟨B,E,F⟩
 ·obtain⟨v,z⟩:=t.was A;rw[(t.kind A).1]at hk;obtain⟨J,I⟩:=t.was_good z hk;rcases t.get z with⟨C,G⟩ | ⟨q,_⟩
  ·rw[kb hk]at C;rw[C];exact(t.good J I (G hk)).1
  ·rw[q];exact⟨GG,λh=>absurd h GG⟩
theorem fy.young{n:Sp}(t:fy Z g F0 fw al sz b s n a){x v:Int}(f:Was Z fw x v)(hk:s.mem.kAt x≠3)(j:a.gAt x=Z.T): ¬((a.genOf (a.get x)).2=true/\(a.genOf (a.get x)).1<a.gAt x):=by
 obtain⟨p,o⟩:=t.was_good f hk;rcases t.get f with⟨h,m⟩ | ⟨q,_⟩
 ·rw[kb hk]at h;rw[h];obtain⟨_,i,r⟩:=t.good p o (m hk);rintro⟨c,d⟩;unfold Mem.genOf at c d;by_cases e:ic (Fw Z.O fw v)/\Fw Z.O fw v % 8≠6
  ·rw[ka e]at c d;have k:gf v:=by have:=e.1.1;have:=e.2;unfold gf;omega
   obtain⟨l,_,_,u⟩:=i k;simp only[ka l.2.1]at d;rw[j]at d;have w:a.gAt (Fw Z.O fw v / 8)<Z.T:=d;omega
  ·rw[kb e]at c;cases c
 ·rw[q];rintro⟨c,_⟩;unfold Mem.genOf at c;rw[kb GG]at c;cases c
theorem fy.marks{W:Sp}(t:fy Z g F0 fw al sz b s W a):mD a:=by
 have S:=t.S;intro x w hk c o;obtain⟨v,P⟩:=t.was w;have l:=t.kind w;have f:s.mem.kAt x≠3:=by rw[<-l.1];exact hk
 obtain⟨r,u⟩:=t.used.1 w;have x0:=r.1;rcases P with Q | hn
 ·obtain⟨j,_,z3⟩:=Q;have N:=S.lt j;by_cases z:(x / 64,x % 64 / 16)∈b.cards
  ·-- its card was marked anew
   have n:=t.ended.cards (x / 64).toNat (x % 64 / 16).toNat u;rw[show(((x / 64).toNat:Nat):Int)=x / 64 by omega,show(((x % 64 / 16).toNat:Nat):Int)=x % 64 / 16 by omega]at n;rw[ka ⟨z,t.broke.same.has.2 r.2.1,GF⟩]at n;rw[n];unfold Mem.mark1;have e:x / 64*64+x % 64 / 16*16+(((x % 64 % 16).toNat:Nat):Int)=x:=GF;have hN:=w.2.2;have:=Mem.markOf_le a (x / 64) (x % 64 / 16) (a.cardLen (x / 64) (x % 64 / 16)) (x % 64 % 16).toNat (by unfold Mem.cardLen;omega);rw[e]at this;exact this c hk o
  ·-- nothing old stood there
   have n:=t.ended.cards (x / 64).toNat (x % 64 / 16).toNat u
   rw[kb (λq=>z (by
    have:=q.1;rw[show(((x / 64).toNat:Nat):Int)=x / 64 by omega,show(((x % 64 / 16).toNat:Nat):Int)=x % 64 / 16 by omega]at this;exact this))]at n
   have m:Z.m.kAt x≠3:=by rw[<-(t.tri.kAt j).1];exact f
   have B:=S.sound.good x j m;have h: ¬aU Z.O (Z.m.get x):=λq=>z (t.begun.dirty S t.marked j u m q B)
   have d:(a.seg (x / 64).toNat).cards (x % 64 / 16).toNat=(Z.m.seg (x / 64).toNat).cards (x % 64 / 16).toNat:=by
    rw[n,(t.broke.same.seg _).2.2.2.2,t.tri.heads.cards _ j.2.1.2.2]
   rw[d];have X:aO (Z.m.get x):=(S.ok.seg _).words _;rcases t.get (.inl ⟨j,u,rfl⟩:Was Z fw x (Z.m.get x))with⟨J,V⟩ | ⟨q,_⟩
   ·rw[kb f,km h]at J;rw[J]at c o⊢;obtain⟨_,D,_⟩:=t.good X B (V f);rw[km h]at D;by_cases k:ic (Z.m.get x)/\Z.m.get x % 8≠6
    ·have E:gf (Z.m.get x):=by have:=k.1.1;have:=k.2;unfold gf;omega
     obtain⟨G,_,_,_⟩:=D E;obtain⟨L,Y⟩:=B.2 E;obtain⟨K,_⟩:=S.sound.used _ L;have C:=oU k.1 k.2 G.2.1;have y:=oU k.1 k.2 K.2.1;have p:a.gAt (Z.m.get x / 8)=Z.m.gAt (Z.m.get x / 8):=((t.kind G).2).trans (t.tri.kAt K).2;have A:a.gAt x=Z.m.gAt x:=l.2.trans (t.tri.kAt j).2;have:=t.marked x j m (by rw[y]) (by rw[y];rw[C,A,p]at o;exact o);rw[y]at this;rw[C,p];exact this
    ·unfold Mem.genOf at c;rw[kb k]at c;cases c
   ·rw[q]at c;unfold Mem.genOf at c;rw[kb GG]at c;cases c
 ·obtain⟨a4,a5,i,H,R,I,U⟩:=hn;have F:=(t.tri.img a4 a5 H).2;have hf:=F.fit
  have M:a.gAt x=Z.T:=by
   rw[l.2];unfold Mem.gAt;rw[I,show(a5+(i:Int)) / 64=a5 / 64 by omega];exact F.gen
  exact absurd ⟨c,o⟩ (t.young (.inr ⟨a4,a5,i,H,R,I,U⟩:Was Z fw x v) f M)
end
structure Inv (s:Sp) (sz:Int->Nat):Prop where
 ok:SpOK s
 even:s.mem.Even
 sound:kE s.mem sz
 marked:mD s.mem
theorem qR(c: ∀k,d.has k ↔ a.has k)(b: ∀i,(d.seg i).gen=(a.seg i).gen)(w:Int):d.genOf w=a.genOf w:=by
 unfold Mem.genOf;rw[b];by_cases q:ic w/\w % 8≠6
 ·rw[ka q,ka q];have e:=c (w / 8 / 64);by_cases h:a.has (w / 8 / 64)
  ·rw[ka h,ka (e.2 h),zX h,zX (e.2 h)]
  ·rw[kb h,kb (λr=>h (e.1 r)),zQ h,zQ (λr=>h (e.1 r))]
 ·rw[kb q,kb q]
theorem sG{v:Int}(h: ¬gf v):a.genOf v=(0,false):=by
 unfold Mem.genOf;rw[kb (λq=>h (by have:=q.1.1;have:=q.2;unfold gf;omega))]
theorem vN{sz:Int->Nat}(i:kE a sz)(c:gq a d){v:Int}(h:Good a sz v):d.genOf v=a.genOf v:=by
 by_cases e:gf v
 ·obtain⟨f,_⟩:=i.used _ (h.2 e).1;have b:=f.2.1;unfold Mem.genOf;by_cases q:ic v/\v % 8≠6
  ·rw[ka q,ka q,ka b,ka (c.has b),zX b,zX (c.has b),(c.seg _ b.2.2).1]
  ·rw[kb q,kb q]
 ·rw[sG e,sG e]
theorem sH(b:bP a)(v:Int):0<=(a.genOf v).1/\(a.genOf v).1<=4:=by
 unfold Mem.genOf;split
 ·split
  ·exact(b.seg _).gen
  ·exact⟨EN _,by show(0:Int)<=4;decide⟩
 ·exact⟨EN _,by show(0:Int)<=4;decide⟩
theorem vO{s:Sp}{g k n:Int}(h:(s.alloc g k n).2.2=0):BP g k n:=by
 by_cases hm:BP g k n
 ·exact hm
 ·unfold Sp.alloc at h;rw[ka hm]at h;exact absurd h (by show ¬((1:Int)=0);decide)
def Lift(m:Mem)(sz:Int->Nat)(m':Mem)(sz':Int->Nat):Prop:= ∀v,Good m sz v->Good m' sz' v
theorem Lift.refl(m:Mem)(sz:Int->Nat):Lift m sz m sz:=λ_ h=>h
theorem Lift.trans{a b c:Mem}{x y z:Int->Nat}(h:Lift a x b y)(k:Lift b y c z):Lift a x c z:=λv q=>k v (h v q)
def FW(v:Int):Prop:=v % 8=0\/(v % 8=4/\BB v=true)\/gf v
structure Snd (m:Mem) (sz:Int->Nat):Prop where
 cover: ∀x,m.used x-> ∃(a:Int) (i:Nat),sz a≠0/\i<sz a/\x=a+i
 fine: ∀a (i:Nat),sz a≠0->i<sz a->m.kAt a≠3->(2<=m.kAt a->i≠0)->FW (m.get (a+i))
def Dw(m:Mem):Prop:= ∀x,m.used x->m.kAt x≠1
structure Kp (m:Mem) (sz:Int->Nat) (m':Mem) (sz':Int->Nat) (F W:Prop):Prop where
 snd:F->Snd m sz->Snd m' sz'
 nowk:W->Dw m->Dw m'
theorem Kp.refl{sz:Int->Nat}:Kp a sz a sz i j:=⟨λ_ h=>h,λ_ h=>h⟩
theorem Kp.trans{m m1 c:Mem}{sz a b:Int->Nat}(h:Kp m sz m1 a i j)(k:Kp m1 a c b i j):Kp m sz c b i j:=⟨λf q=>k.snd f (h.snd f q),λw q=>k.nowk w (h.nowk w q)⟩
theorem Kp.mono{m m1:Mem}{sz a:Int->Nat}{b c:Prop}(h:Kp m sz m1 a i j)(f:b->i)(w:c->j):Kp m sz m1 a b c:=⟨λq=>h.snd (f q),λq=>h.nowk (w q)⟩
theorem Kp.store{m:Mem}{sz:Int->Nat}{x v:Int}(p:0<=x)(n: ∀a,sz a≠0->m.used a):Kp m sz (m.store x v).1 sz (FW v) True:=by
 by_cases k:m.used x
 case neg=>
  have e:m.store x v=(m,18):=by unfold Mem.store;rw[kb k]
  rw[e];exact .refl
 have b: ∀y,(m.store x v).1.kAt y=m.kAt y:=λy=>(EP _).2.1;refine⟨λl S=>⟨λy c=>S.cover y (FO.1 c),λa i d o j f=>?_⟩,λ_ h y c=>?_⟩
 ·rw[b]at j f;have:=(n a d).1;rw[Fk k _ GF];split
  ·exact l
  ·exact S.fine a i d o j f
 ·rw[b];exact h y (FO.1 c)
theorem Inv.putF{s:Sp}{sz:Int->Nat}(I:Inv s sz){d f:Int}{j:List Int}(b1:0<=d/\d<=3)(ht:f=BQ d)(hw: ∀w∈j,aO w)(hP:d<=1->j.length=2)(hO:2<=d-> ∃R fs,j=R::fs/\kA R/\oN (hk R)=d/\hn R=fs.length)
  (hG:d≠3-> ∀w∈j,Good s.mem sz w):
  ∃M,Inv (s.put d f j).1 M/\Lift s.mem sz (s.put d f j).1.mem M/\((s.put d f j).2.2=0->aO (s.put d f j).2.1/\Good (s.put d f j).1.mem M (s.put d f j).2.1)/\(s.put d f j).1.cf=s.cf/\Kp s.mem sz (s.put d f j).1.mem M (∀(i:Nat) (h:i<j.length),d≠3->(2<=d->i≠0)->FW j[i]) (d≠1):=by
 have ag:f=1\/f=2\/f=3\/f=6:=by
  rw[ht];unfold BQ;split
  ·exact .inl rfl
  split
  ·exact .inr (.inl rfl)
  ·exact .inr (.inr (.inl rfl))
 by_cases hf:(s.alloc 0 d j.length).2.2=0
 case neg=>
  have e:s.put d f j=(s,0,(s.alloc 0 d j.length).2.2):=by unfold Sp.put;rw[kb hf]
  rw[e];exact⟨sz,I,Lift.refl _ _,λh=>absurd h hf,rfl,.refl⟩
 have O:=vO hf;obtain⟨a,e1,F,e2,a3,au,_⟩:=Sp.put_ok I.ok O ag hw hf;obtain⟨kp,N,U⟩:=F.lay I.ok.mem;have L:=bQ.sets j (s.alloc 0 d j.length).1.mem a;obtain⟨ev,a9⟩:=F.even I.even (λh=>by rw[hP h];rfl);have Y:=Sp.alloc_cf s 0 d j.length
 have a0:(s.put d f j).1.cf=s.cf:=by
  unfold Sp.cf at Y⊢;rw[e2,L.count,L.free];exact Y
 rw[e1];generalize (s.put d f j).1=s2 at*;generalize (s.alloc 0 d j.length).1.mem=m1 at*;rw[<-e2]at N U kp L;generalize C:s2.mem=z at*;obtain⟨ba,bb,a2⟩:=F.addr;have b2:1<=j.length/\j.length<=63:=by have:=O.2;omega
 have R:gq s.mem z:=(F.heads GF).trans L.heads;have T: ∀x,z.used x ↔ s.mem.used x\/(a<=x/\x<a+j.length):=λx=>by rw[L.used,F.usedIff GF]
 have o: ∀x,s.mem.used x->z.get x=s.mem.get x:=λx A=>(kp.used x A).2.1;have y: ∀x,s.mem.used x->z.kAt x=s.mem.kAt x/\z.gAt x=s.mem.gAt x:=λx A=>⟨(kp.used x A).2.2.1,(kp.used x A).2.2.2.1⟩
 have u: ∀i:Nat,(h:i<j.length)->z.get (a+i)=j[i]:=λi h=>by
  rw[N _ GF,ka ⟨GF,GF⟩,show(a+(i:Int)-a).toNat=i by omega];simp[h]
 have K: ∀i:Nat,i<j.length->z.kAt (a+i)=d/\z.gAt (a+i)=0:=λi h=>by
  have a8:(a+(i:Int)) / 64=a / 64:=GF;unfold Mem.kAt Mem.gAt;rw[a8,(L.seg _).2.1,(L.seg _).1];exact⟨F.new.2.2.1,F.new.2.1⟩
 have a1: ∀i:Nat,i<j.length-> ¬s.mem.used (a+i):=λi p l=>F.not_in l ⟨GF,GF⟩;have D: ¬s.mem.used a:=by have:=a1 0 GF;simpa using this
 have V: ∀b,sz b≠0->b≠a:=λb t e=>D (e▸(I.sound.used b t).1);have S:=I.sound
 have H: ∀x,z.used x-> ¬s.mem.used x-> ∃i:Nat,i<j.length/\x=a+i:=λx A hn=>by
  rcases(T x).1 A with q | q
  ·exact absurd q hn
  ·exact⟨(x-a).toNat,GF,GF⟩
 have J:z.kAt a=d:=by simpa using(K 0 GF).1
 have ac:z.get a=j[0]' GF:=by simpa using u 0 GF
 have E:Lift s.mem sz z (λx=>if x=a then j.length else sz x):=λv hv=>⟨hv.1,λah=>by
  obtain⟨Q,B⟩:=hv.2 ah;show(if v / 8=a then j.length else sz (v / 8))≠0/\_;rw[kb (V _ Q),(y _ (S.used _ Q).1).1];exact⟨Q,B⟩⟩
 refine⟨λx=>if x=a then j.length else sz x,⟨a3,C▸L.even ev,?_,?_⟩,C▸E,λ_=>⟨⟨by show 0<=a*8+f;omega,by show a*8+f<_;omega⟩,?_⟩,a0,?_⟩
 ·-- sound
  rw[C];refine⟨λb t=>?_,λb P t G ae=>?_,λb t m=>?_,λb t m=>?_,λx A r=>?_⟩
  ·by_cases e:b=a
   ·subst e;rw[ka rfl];refine⟨(T b).2 (.inr ⟨GF,GF⟩),?_⟩;rw[(L.seg _).2.2.1,F.new.2.2.2];omega
   ·rw[kb e]at t⊢;obtain⟨u1,u2⟩:=S.used b t;have:=(kp.used b u1).2.2.2.2;exact⟨(T b).2 (.inl u1),GF⟩
  ·by_cases e:b=a
   ·subst e;rw[ka rfl];rw[kb GF]at G;have:=F.not_in (S.used P G).1;omega
   ·rw[kb e]at t⊢;by_cases e':P=a
    ·subst e';rcases FD P (b+sz b)with q | q
     ·exfalso;have X:=S.usedAt t (i:=(P-b).toNat) GF (λk=>(I.ok.mem.seg k).n.2);rw[show b+(((P-b).toNat:Nat):Int)=P by omega]at X;exact D X.1
     ·exact q
    ·rw[kb e']at G;exact S.apart b P t G ae
  ·by_cases e:b=a
   ·subst e;rw[ka rfl];rw[J]at m;exact⟨hP m,a9 m⟩
   ·rw[kb e]at t⊢;rw[(y b (S.used b t).1).1]at m;exact S.two b t m
  ·by_cases e:b=a
   ·subst e;rw[ka rfl];rw[J]at m⊢;obtain⟨ab,fs,e3,o1,o2,o3⟩:=hO m;have:z.get b=ab:=by rw[ac];simp[e3]
    rw[this];refine⟨o1,o2.symm,?_⟩;rw[e3,o3];simp
   ·rw[kb e]at t⊢;have u1:=(S.used b t).1;rw[(y b u1).1]at m⊢;rw[o b u1];exact S.obj b t m
  ·by_cases l:s.mem.used x
   ·rw[(y x l).1]at r;rw[o x l];exact E _ (S.good x l r)
   ·obtain⟨i,p,rfl⟩:=H x A l;rw[(K i p).1]at r;rw[u i p];exact E _ (hG r _ (Eu p))
 ·-- marked
  rw[C];intro x A r Q B;by_cases l:s.mem.used x
  ·obtain⟨k1,k2⟩:=y x l;rw[o x l]at Q B⊢;rw[k1]at r;have hg:=S.good x l r;have e:=vN S R hg;rw[e]at Q B⊢;rw[k2]at B;rw[R.cards _ l.2.1.2.2];exact I.marked x l r Q B
  ·obtain⟨i,p,rfl⟩:=H x A l;rw[(K i p).2]at B;have:=(sH (C▸a3.mem) (z.get (a+i))).1;omega
 ·-- the new thing
  show Good z _ (a*8+f);have e8:(a*8+f) / 8=a:=GF;have em:(a*8+f) % 8=f:=GF;have h6:f≠6:=by rw[ht];unfold BQ;split<;>(try split)<;>decide
  refine⟨by rw[em];exact h6,λ_=>?_⟩;rw[e8,em,J];show(if a=a then j.length else sz a)≠0/\_;rw[ka rfl];exact⟨GF,ht⟩
 ·-- what audits look for
  refine⟨λhF hS=>⟨λx A=>?_,λc i W p h3 B=>?_⟩,λhW hN x A=>?_⟩
  ·by_cases l:s.mem.used x
   ·obtain⟨c,i,c1,c2,c3⟩:=hS.cover x l;exact⟨c,i,by show(if c=a then j.length else sz c)≠0;rw[kb (V c c1)];exact c1,by show i< (if c=a then j.length else sz c);rw[kb (V c c1)];exact c2,c3⟩
   ·obtain⟨i,p,e⟩:=H x A l;exact⟨a,i,by show(if a=a then j.length else sz a)≠0;rw[ka rfl];omega,by show i< (if a=a then j.length else sz a);rw[ka rfl];exact p,e⟩
  ·replace W:(if c=a then j.length else sz c)≠0:=W;replace p:i< (if c=a then j.length else sz c):=p;by_cases e:c=a
   ·subst e;rw[ka rfl]at p;rw[J]at h3 B;rw[u i p];exact hF i p h3 B
   ·rw[kb e]at W p;have l:=S.usedAt W p (λk=>(I.ok.mem.seg k).n.2);rw[(y c (S.used c W).1).1]at h3 B;rw[o _ l.1];exact hS.fine c i W p h3 B
  ·by_cases l:s.mem.used x
   ·rw[(y x l).1];exact hN x l
   ·obtain⟨i,p,rfl⟩:=H x A l;rw[(K i p).1];exact hW
theorem Inv.put{s:Sp}{sz:Int->Nat}(I:Inv s sz){kind tag:Int}{ws:List Int}(c:0<=kind/\kind<=3)(m:tag=BQ kind)(n: ∀w∈ws,aO w)(l:kind<=1->ws.length=2)(k:2<=kind-> ∃b d,ws=b::d/\kA b/\oN (hk b)=kind/\hn b=d.length)
  (j:kind≠3-> ∀w∈ws,Good s.mem sz w):
  ∃a,Inv (s.put kind tag ws).1 a/\Lift s.mem sz (s.put kind tag ws).1.mem a/\((s.put kind tag ws).2.2=0->aO (s.put kind tag ws).2.1/\Good (s.put kind tag ws).1.mem a (s.put kind tag ws).2.1)/\(s.put kind tag ws).1.cf=s.cf:=by
 obtain⟨a,e,f,h,i,_⟩:=I.putF c m n l k j;exact⟨a,e,f,h,i⟩
theorem Mem.store_cards(h:bP a){x v:Int}(f:a.used x)(l:aO v)(j c:Nat):((a.store x v).1.seg j).cards c=if j=(x / 64).toNat/\c=(x % 64 / 16).toNat then a.younger (a.seg j) v ((a.seg j).cards c)else(a.seg j).cards c:=by
 have t:=f.1;have b:=bQ.set a x v;have n:bP (a.set x v):=h.set x l
 have m:(a.set x v).younger ((a.set x v).seg (x / 64).toNat) v (((a.set x v).seg (x / 64).toNat).cards (x % 64 / 16).toNat)=a.younger (a.seg (x / 64).toNat) v ((a.seg (x / 64).toNat).cards (x % 64 / 16).toNat):=by
  unfold Mem.younger;rw[qR (λk=>b.has) (λi=>(b.seg i).1),(b.seg _).1,(b.seg _).2.1,(b.seg _).2.2.2.2]
 have r:0<=a.younger (a.seg (x / 64).toNat) v ((a.seg (x / 64).toNat).cards (x % 64 / 16).toNat)/\a.younger (a.seg (x / 64).toNat) v ((a.seg (x / 64).toNat).cards (x % 64 / 16).toNat)<=5:=by
  have o:=(h.seg (x / 64).toNat).cards (x % 64 / 16).toNat;have p:=sH h v;unfold Mem.younger;split<;>omega
 unfold Mem.store;rw[ka f,m];unfold Mem.mark;rw[kb (λq=>q (b.has.2 f.2.1)),kb GF];show(((a.set x v).upd _ _).seg j).cards c=_;rw[E0];by_cases d:j=(x / 64).toNat
 ·rw[ka d];show(if c=(x % 64 / 16).toNat then _ else((a.set x v).seg (x / 64).toNat).cards c)=_;by_cases e:c=(x % 64 / 16).toNat
  ·rw[ka e,ka ⟨d,e⟩,d,e]
  ·rw[kb e,kb (λq=>e q.2),d,(b.seg _).2.2.2.2]
 ·rw[kb d,kb (λq=>d q.1),(b.seg _).2.2.2.2]
theorem Inv.store{s:Sp}{sz:Int->Nat}(I:Inv s sz){x v:Int}(t:aO v)(z:Good s.mem sz v)(A: ∀a,sz a≠0->2<=s.mem.kAt a->x≠a):Inv {s with mem:=(s.mem.store x v).1} sz/\Lift s.mem sz (s.mem.store x v).1 sz/\({s with mem:=(s.mem.store x v).1}:Sp).cf=s.cf:=by
 by_cases p:s.mem.used x
 case neg=>
  have e:s.mem.store x v=(s.mem,18):=by unfold Mem.store;rw[kb p]
  rw[e];exact⟨I,Lift.refl _ _,rfl⟩
 have S:=I.sound;have C:=p.1;have c: ∀y,0<=y->(s.mem.store x v).1.get y=if y=x then v else s.mem.get y:=λy j=>Fk p y j
 have d: ∀y,(s.mem.store x v).1.kAt y=s.mem.kAt y:=λy=>(EP _).2.1;have r: ∀y,(s.mem.store x v).1.gAt y=s.mem.gAt y:=λy=>(EP _).1;have o: ∀w,(s.mem.store x v).1.genOf w=s.mem.genOf w:=λw=>qR (λk=>FJ) (λi=>(EP i).1) w;have f:Lift s.mem sz (s.mem.store x v).1 sz:=λw h=>⟨h.1,λB=>by rw[d];exact h.2 B⟩;refine⟨⟨I.ok.store x t,I.even.store x v,?_,?_⟩,f,?_⟩
 ·show kE (s.mem.store x v).1 sz;refine⟨λb n=>?_,S.apart,λb n hk=>S.two b n (by rw[<-d];exact hk),λb n hk=>?_,λy j hk=>?_⟩
  ·rw[FO,(EP _).2.2];exact S.used b n
  ·rw[d]at hk⊢;have u:=(S.used b n).1.1;rw[c b u,kb (λe=>A b n hk e.symm)];exact S.obj b n hk
  ·rw[FO]at j;rw[d]at hk;rw[c y j.1];by_cases e:y=x
   ·rw[ka e];exact f _ z
   ·rw[kb e];exact f _ (S.good y j hk)
 ·show mD (s.mem.store x v).1;intro y j hk m l;rw[FO]at j;rw[d]at hk;rw[o]at m l⊢;rw[r]at l;rw[c y j.1]at m l⊢;rw[Mem.store_cards I.ok.mem p t];by_cases q:(y / 64).toNat=(x / 64).toNat/\(y % 64 / 16).toNat=(x % 64 / 16).toNat
  ·rw[ka q];by_cases e:y=x
   ·rw[ka e]at m l⊢;unfold Mem.younger;rw[ka ⟨m,hk,l⟩];exact Int.min_le_right _ _
   ·rw[kb e]at m l⊢;exact Gg (Mem.younger_le _ _ _ _) (I.marked y j hk m l)
  ·rw[kb q];have e:y≠x:=λe=>q (by rw[e];exact⟨rfl,rfl⟩);rw[kb e]at m l⊢;exact I.marked y j hk m l
 ·unfold Sp.cf;show(s.mem.store x v).1.count+(s.mem.store x v).1.free=_;rw[Mem.store_lim.2.2,Mem.store_lim.2.1]
variable{a b k:Hp}{d:Int}{g i j:List Int}
def JW(x x':Hp)(syl syl' ws:List Int):Prop:=x'.en=x.en/\ ∀sz,Inv x.sp sz->(∀w∈syl,Good x.sp.mem sz w)->
 ∃sz',Inv x'.sp sz'/\Lift x.sp.mem sz x'.sp.mem sz'/\(∀w∈syl',Good x'.sp.mem sz' w)/\(∀w∈ws,Good x'.sp.mem sz' w)/\x'.sp.cf=x.sp.cf
def Imm(w:Int):Prop:=w % 8=0\/w % 8=4
theorem Imm.good(h:Imm d)(m:Mem)(b:Int->Nat):Good m b d:=by
 unfold Imm at h;exact⟨GF,λa=>by unfold gf at a;omega⟩
theorem JW.refl(x:Hp)(a:List Int):JW x x a a []:=⟨rfl,λc I b=>⟨c,I,Lift.refl _ _,b,λw h=>by simp at h,rfl⟩⟩
theorem JW.trans{y z:Hp}{s g i ws c:List Int}(a:JW k y s g ws)(b:JW y z g i c):JW k z s i (ws++c):=⟨b.1.trans a.1,λu I q=>by
 obtain⟨d,j,t,o,v,m⟩:=a.2 u I q;obtain⟨e,l,f,p,x,n⟩:=b.2 d j o;refine⟨e,l,t.trans f,p,λw r=>?_,n.trans m⟩;rcases EH.1 r with h | h
 ·exact f w (v w h)
 ·exact x w h⟩
theorem JW.sub{c:List Int}(r:JW a b g i j)(h: ∀w∈c,w∈j\/w∈i\/Imm w):JW a b g i c:=⟨r.1,λo I l=>by
 obtain⟨d,f,n,e,p,k⟩:=r.2 o I l;refine⟨d,f,n,e,λw m=>?_,k⟩;rcases h w m with q | q | q
 ·exact p w q
 ·exact e w q
 ·exact q.good _ _⟩
theorem JW.imm(e:JW a b g i j)(h:Imm d):JW a b g i [d]:=e.sub λv c=>by
 simp at c;subst c;exact .inr (.inr h)
theorem JW.sym{x y:Hp}{s c:List Int}{w:Int}(a:JW x y s c [w])(v:Value):JW x {y with sy:=v} s (c++[w]) [w]:=⟨a.1,λk I h=>by
 obtain⟨b,e,j,g,d,f⟩:=a.2 k I h;refine⟨b,e,j,λu i=>?_,d,f⟩;rcases EH.1 i with q | q
 ·exact g u q
 ·exact d u q⟩
theorem JW.make{S:Blk}(R:JW a b g i j){kind more:Int}{ws:List Int}(e:1<=kind/\kind<=13)(f:0<=more/\more<281474976710656)(D:ws.length<=62)(G: ∀v∈ws,aO v)
  (l:iT (some (S,b)) kind more ws=(d,0)) (t:js (some (S,b)) kind more ws=some (S,k)) (h:oN kind≠3-> ∀v∈ws,v∈j):JW a k g i [d]:=by
 have z:js (some (S,b)) kind more ws=BV (some (S,b)) (oN kind) 3 ((more*65536+ws.length*256+kind*8+5)::ws):=by
  unfold js;rw[kb (λq=>q ⟨e,f.2⟩),kb GF]
 have A:iT (some (S,b)) kind more ws=BG (some (S,b)) (oN kind) 3 ((more*65536+ws.length*256+kind*8+5)::ws):=by
  unfold iT;rw[kb (λq=>q ⟨e,f.2⟩),kb GF]
 rw[z]at t;rw[A]at l;obtain⟨s,K,L,Q⟩:=qp (kind:=kind) (more:=more) (n:=ws.length) e f D
 have H:k={b with sp:=(b.sp.put (oN kind) 3 ((more*65536+ws.length*256+kind*8+5)::ws)).1}:=by
  have h:some (S,{b with sp:=(b.sp.put (oN kind) 3 ((more*65536+ws.length*256+kind*8+5)::ws)).1})=some (S,k):=t;simp only[EQ,EX,true_and]at h;exact h.symm
 have l:(b.sp.put (oN kind) 3 ((more*65536+ws.length*256+kind*8+5)::ws)).2=(d,0):=l;subst H;refine⟨R.1,λM I E=>?_⟩;obtain⟨N,u,J,B,O,x⟩:=R.2 M I E;have P:oN kind=2\/oN kind=3:=by unfold oN;split<;>omega
 have m: ∀v∈((more*65536+ws.length*256+kind*8+5:Int)::ws),aO v:=λv c=>by
  rcases Ew.1 c with rfl | c
  ·exact⟨GF,GF⟩
  ·exact G v c
 obtain⟨o,w,r,p,y⟩:=u.put (kind:=oN kind) (tag:=3) (ws:=(more*65536+ws.length*256+kind*8+5)::ws) GF (by unfold BQ;rw[kb GF,kb GF]) m (λh=>GF) (λ_=>⟨_,ws,rfl,s,by rw[K],L⟩) (λC v c=>by
  rcases Ew.1 c with rfl | c
  ·have:=s.1;exact⟨GF,λF=>by unfold gf at F;omega⟩
  ·exact O v (h C v c))
 rw[l]at p;exact⟨o,w,J.trans r,λv c=>r v (B v c),λv c=>by simp at c;subst c;exact(p rfl).2,y.trans x⟩
theorem JW.cons{F:Blk}(E:JW a b g i j){v w:Int}(C:aO d)(D:aO v)
  (e:BG (some (F,b)) 0 1 [d,v]=(w,0)) (z:BV (some (F,b)) 0 1 [d,v]=some (F,k)) (h:d∈j/\v∈j):JW a k g i [w]:=by
 have x:k={b with sp:=(b.sp.put 0 1 [d,v]).1}:=by
  have h:some (F,{b with sp:=(b.sp.put 0 1 [d,v]).1})=some (F,k):=z;simp only[EQ,EX,true_and]at h;exact h.symm
 have e:(b.sp.put 0 1 [d,v]).2=(w,0):=e;subst x;refine⟨E.1,λA I u=>?_⟩;obtain⟨B,o,y,s,n,q⟩:=E.2 A I u
 obtain⟨f,p,m,l,r⟩:=o.put (kind:=0) (tag:=1) (ws:=[d,v]) GG rfl (λt c=>by simp at c;rcases c with rfl | rfl<;>assumption) (λ_=>rfl) (λh=>GF) (λ_ t c=>by
  simp at c;rcases c with rfl | rfl
  ·exact n _ h.1
  ·exact n _ h.2)
 rw[e]at l;exact⟨f,p,y.trans m,λt c=>m t (s t c),λt c=>by simp at c;subst c;exact(l rfl).2,r.trans q⟩
variable{a:List Int}
theorem yP(b: ∀x∈a,gK x)(f:wg a<=2):oo [sj a % 4294967296,sj a / 4294967296]=oo a:=by
 have c:=jM b 0;have d:=jM b 1;have e:sj a=a.getD 0 0+4294967296*a.getD 1 0:=rfl;refine qu λi=>?_
 match i with
 | 0=>show sj a % 4294967296=_;omega
 | 1=>show sj a / 4294967296=_;omega
 | i+2=>rw[lY a (i+2) GF,nj _ _ GH]
theorem xn(b: ∀x∈a,gK x)(h:sj a=0)(f:wg a<=2):wg a=0:=by
 have c:=jM b 0;have d:=jM b 1;have e:sj a=a.getD 0 0+4294967296*a.getD 1 0:=rfl;rcases(show wg a=0\/wg a=1\/wg a=2 by omega)with h0 | h0 | h0
 ·exact h0
 ·exact absurd (show a.getD (wg a-1) 0=0 by rw[h0];show a.getD 0 0=0;omega) (lX a _ (by show wg a≠0;omega))
 ·exact absurd (show a.getD (wg a-1) 0=0 by rw[h0];show a.getD 1 0=0;omega) (lX a _ (by show wg a≠0;omega))
theorem yR{neg:Bool}(n: ∀x∈a,gK x)(f: ¬48<wg a)(h:(Bg (eL neg a).1 (oo a)).2=true):
  eL (decide ((Bg (eL neg a).1 (oo a)).1<0)) (Ca (Bg (eL neg a).1 (oo a)).1)=eL neg a:=by
 have b:=lz n;have s:=jM b 0;have t:=jM b 1;have w:sj (oo a)=(oo a).getD 0 0+4294967296*(oo a).getD 1 0:=rfl
 have k:wg a<=2:=by
  rcases EC 2 (wg a)with g | g
  ·unfold Bg at h;rw[mU,ka g]at h;exact absurd h GG
  ·exact g
 have j:(eL neg a).1=(neg && decide (0<wg a)):=by unfold eL;rw[kb f]
 have d: ∀x:Int,(x=sj (oo a)\/x= -sj (oo a))->oo (Ca x)=oo a:=λx m=>by
  have hm:mag x=sj (oo a):=by unfold mag;split<;>omega
  unfold Ca;rw[hm,yP b (by rw[mU];exact k),si]
 have l: ∀x:Int,(x=sj (oo a)\/x= -sj (oo a))->wg (Ca x)=wg a:=λx m=>by rw[<-jU,d x m,jU]
 have i: ∀x:Int,(x=sj (oo a)\/x= -sj (oo a))->(decide (x<0) && decide (0<wg a))=(neg && decide (0<wg a))->eL (decide (x<0)) (Ca x)=eL neg a:=λx m u=>by
  unfold eL;rw[l x m,kb f,kb f,d x m,u]
 have v:wg a≠0->0<sj (oo a):=λo=>by
  have:sj (oo a)≠0:=λe=>o (by have:=xn b e (by rw[mU];exact k);rw[mU]at this;exact this);omega
 unfold Bg at h⊢;rw[mU,kb GF]at h⊢;by_cases g:sj (oo a)>1152921504606846976
 ·rw[ka g]at h;exact absurd h GG
 rw[kb g]at h⊢;by_cases q:sj (oo a)=1152921504606846976/\(eL neg a).1=false
 ·rw[ka q]at h;exact absurd h GG
 rw[kb q]at h⊢;by_cases c:(eL neg a).1=true
 ·rw[ka c];rw[j]at c;simp at c;refine i _ (.inr rfl) ?_;have:=v GF;rw[c.1,zX (p:= -sj (oo a)<0) GF]
 ·rw[kb c];rw[j]at c;refine i _ (.inl rfl) ?_;rw[zQ (p:=sj (oo a)<0) GF];simp at c⊢;intro r;have:=c r;omega
theorem vP{x:Int}(h: -1152921504606846976<=x/\x<1152921504606846976):Cr x % 8=0/\signed (Cr x) / 8=x/\aO (Cr x):=by
 unfold Cr signed;refine⟨GF,?_,GF,GF⟩;split<;>omega
variable{a q:List Int}{b:Blk}{d k:Hp}{g i:Int}{H j o v:zV}{r:ByteArray}{u:List ByteArray}
theorem Live.addSy(L:Live H j b d)(S:SyAt H j b d a): ∀i∈syB d.sy,i<j.size:=λi f=>by
 obtain⟨B,c,e,o,g,h⟩:=S;rw[e]at f;exact o.lt i f
theorem nl(S:SyAt H j b d a)(L:Live H j b d)(e:iO d.sp.mem a){c:Int}(f:Fr b.all j o)(M:tj d k g i c q)(D:Laid d.sp.mem k.sp.mem g (q.length+1)):
  Step H j o b d k a a 1 ((q.length+1:Nat):Int) []:=
 Step.made S L e f M.made.keep M.even M.made.count M.made.free M.rest.1 D
theorem sI(e:Step H j o b d k a q g i u)(f:Fr b.all o v):Step H j v b d k a q g i u:=
 ⟨e.sy.keep rfl f (λh c=> .inl c),e.fr.trans' f (λh c _=>c) (λh c _=>by simp[c]),e.syB,e.keep,e.even,e.count,e.len,e.inv,e.sub,e.words,e.names⟩
def Fell(H0 H H':zV)(k:Blk)(x x':Hp)(syl:List Int)(C:Int):Prop:=x.sp.mem.free<=C/\ ∃(syl':List Int) (c bw:Int) (ns:List ByteArray),Step H0 H H' k x x' syl syl' c bw ns/\c<=C
theorem Fell.le(h:Fell H j o b d k a g)(q:g<=i):Fell H j o b d k a i:=by
 obtain⟨n,e,c,f,m,l,p⟩:=h;exact⟨GF,e,c,f,m,l,GF⟩
theorem Fell.after{e:Hp}{C:Int}(s:Step H j o b d k a q g i u)(h:Fell H o v b k e q C):Fell H j v b d e a (g+C):=by
 obtain⟨p,c,l,f,n,m,r⟩:=h;have:=s.count;exact⟨GF,c,g+l,_,_,s.trans m,GF⟩
theorem Fell.stay(c:Step H j o b d k a q g i u)(f:Fr b.all o v)(h:k.sp.mem.free<1):Fell H j v b d k a g:=by
 have:=c.count;exact⟨GF,q,g,i,u,sI c f,EN _⟩
theorem rx{name:ByteArray}(L:Live H j b d)(Q:d.sp.mem.Even)(S:SyAt H j b d a)(f:iO d.sp.mem a)(hl:a.length<=1000000)(ht:jp name)(J:1<=(cF name).length)
  (l:bK.C name j (λv A'=>v=VT/\Ext j A')) (hc:d.sp.mem.count<1000000000):
  iA.C (some ⟨b.h,0,none⟩) name j (λv H'=> ∃(w e:Int) (x':Hp),v=.tuple #[vu w,vi e]/\Live H H' b x'/\((e=2/\w=0/\Fell H j H' b d x' a 2)\/(e=0/\ ∃p,Step H j H' b d x' a p 2 0 [name]/\w∈p/\l8 x'.sp.mem w name/\JW d x' a p [w]))):=by
 have S0:=S
 have am:name.toList≠(ByteArray.mk #[]).toList:=λh=>by
  have h0:=(mY _).1 h;unfold cF at J;rw[kh GF]at J;simp at J
 have F:=ht.2;obtain⟨B,c,e,o,N,hw⟩:=S;refine Ei λR hR=>iA.link ?_;unfold iA.pt;rw[kb am];refine gc l ?_;rintro _ H1 ⟨rfl,e1⟩;refine⟨_,rfl,?_⟩;rw[ka rfl];refine gc (pm GF) ?_;rintro _ H2 ⟨rfl,e2⟩;refine⟨_,rfl,?_⟩;rw[kb GF];have r:=e1.trans e2;refine gc (uv (L.grow r).view (by rw[show(Addr.mk b.h 0 none).add 1=⟨b.h,1,none⟩from rfl,(L.grow r).at'.syAt,e]) rfl (o.ext r).src hl hw) ?_;rintro _ H3 ⟨rfl,e3⟩;have g:=r.trans e3;rw[show nc (some (b,d))=d.sp.mem from rfl]
 cases hf:jQ d.sp.mem a name with
 | some w=>
  refine⟨_,_,rfl,?_⟩;rw[ka (by rfl)];obtain⟨f1,f2⟩:=f.found hf;have hn:=iW f2 ht;have E:=(Step.refl S0 Q f).grow g;refine hR _ _ ⟨w,0,d,rfl,L.grow g,.inr ⟨rfl,a,⟨E.sy,E.fr,E.syB,E.keep,E.even,GF,⟨GF,λh=>h⟩,E.inv,E.sub,E.words,λt=>?_⟩,f1,f2,(JW.refl d a).sub λv l=>by simp at l;subst l;exact .inr (.inl f1)⟩⟩;constructor
  ·intro h;exact .inl h
  ·intro h;rcases h with h | h
   ·exact h
   ·simp at h;subst h;exact EZ.2 ⟨w,f1,by rw[hn]⟩
 | none=>
  refine⟨_,_,rfl,?_⟩;rw[kb GG,El];refine gc (oh (s:=name) (L.grow g).view (show d.sp.mem.count<_ by omega)) ?_;rintro _ H4 ⟨rfl,V4,f4⟩
  have Z:Cl (some (b,d)) name=iT (some (b,d)) 2 0 (cF name)/\Cw (some (b,d)) name=js (some (b,d)) 2 0 (cF name):=by
   unfold Cl Cw;rw[kb GF,kb GF];exact⟨rfl,rfl⟩
  rw[Z.2]at V4;rw[Z.1];obtain⟨s,es,x1,q1,q2,an⟩:=ow (L.grow g) Q (kind:=2) (more:=0) GG GG F (jf name);have a1:=make_no (L.grow g) Q (kind:=2) (more:=0) GG GG F (jf name);rw[q1]at a1;rw[q2]at V4;rw[q1];have K:=(L.grow g).step V4 f4;refine⟨_,_,rfl,?_⟩;rcases an with⟨rfl,m,D4⟩ | ⟨⟨rfl,rfl⟩,rfl⟩
  case inr=>
   rw[kb GG];exact hR _ _ ⟨0,2,x1,rfl,K,.inl ⟨rfl,rfl,(Fell.stay ((Step.refl S0 Q f).grow g) (FK f4) (a1 rfl)).le GF⟩⟩
  rw[ka rfl];have x:=FK f4;intro c5 H5 hb O;have A:Ext H4 H5:=Eh O;have c1:=m.made.count;refine gc (mi (ws:=[s]) (K.grow A).view (cX (aK hb O) _ 0 0 (λc6 hj=>by simp[Bi])) rfl (by simpa using m.thing.word) GG ⟨GG,GG⟩ (show x1.sp.mem.count<_ by omega) GH) ?_;rintro _ H6 ⟨rfl,V6,f6⟩;obtain⟨w,ew,k,q3,q4,W⟩:=ow (K.grow A) m.even (kind:=4) (more:=0) (ws:=[s]) GG GG GH (by simpa using m.thing.word);have a2:=make_no (K.grow A) m.even (kind:=4) (more:=0) (ws:=[s]) GG GG GH (by simpa using m.thing.word);rw[q3]at a2;rw[q4]at V6;rw[q3];have L6:=(K.grow A).step V6 f6;have y:=FK f6;refine⟨_,_,rfl,?_⟩;rcases W with⟨rfl,z,D6⟩ | ⟨⟨rfl,rfl⟩,rfl⟩
  case inr=>
   rw[kb GG];exact hR _ _ ⟨0,2,k,rfl,L6,.inl ⟨rfl,rfl,(Fell.stay ((((Step.refl S0 Q f).grow g).trans (nl (S0.keep rfl (g.fr (S:=[])) GH) (L.grow g) f x m D4)).grow A) y (a2 rfl)).le GF⟩⟩
  rw[ka rfl];have c2:=z.made.count;have ao:k.sy=vs B a.length c:=z.rest.1.trans (m.rest.1.trans e);refine⟨B,a.length,c,by rw[show(Addr.mk b.h 0 none).add 1=⟨b.h,1,none⟩from rfl,L6.at'.syAt,ao],λb2 H7 aj P=>?_⟩;have e7:Ext H6 H7:=Eh P;have bo:=g.size;have s4:=x.size;have s5:=A.size;have s6:=y.size;have o6:=(((o.ext g).keep x (λi f=>(N i f).1)).ext A).keep y (λi f=>(N i f).1);have aX: ∀i∈l6 B,i<j.size:=λi f=>o.lt i f;refine dE (ys:=Bi [w]) (o6.ext e7) (cX (aK aj P) _ 0 0 (λc6 hj=>GH)) GH (j3 _) rfl GF ?_;intro p' c' H8 o8 f8 U;have L7:=L6.grow e7;have G: ∀i∈b.all,i<j.size:=λi f=>L.lt f;have M:Live H H8 b k:=L7.keep f8 (λi f=>(N i f).2) (λi f=>(N i f).1);obtain⟨c9,h9,f9⟩:=M.at'.putSy (vs p' (a.length+1) c');rw[show(Addr.mk b.h 0 none).add 1=⟨b.h,1,none⟩from rfl];refine⟨c9,λH9 ai=>?_⟩;rw[<-ai]at h9 f9;have L0:=L.ext.size
  have X: ∀i∈l6 p',i∈l6 B\/j.size<=i:=λi f=>by
   rcases U i f with h | h
   ·exact .inl h
   ·have s7:=e7.size;exact .inr GF
  have Y: ∀i∈l6 p',i ∉ b.all/\H.size<=i:=λi f=>by
   rcases X i f with h | h
   ·exact N i h
   ·exact⟨λhk=>by have:=G i hk;omega,GF⟩
  have I:b.h∈b.all:=by simp[Blk.all]
  have hS:syB d.sy=l6 B:=by rw[e];rfl
  have hn: ∀q,(d.sp.mem.seg q).n<=64:=L.n64;have ak: ∀q,(x1.sp.mem.seg q).n<=64:=K.n64;have k2:Keep d.sp.mem k.sp.mem:=m.made.keep.trans z.made.keep;have D:iO k.sp.mem a:=f.keep hn k2;have sa:l8 k.sp.mem w name:=⟨s,z.thing,m.thing.keep ak z.made.keep⟩
  have T:jQ k.sp.mem a name=none:=by
   rw[nS hn k2 name (λv l=>by obtain⟨u,bX,c5,_⟩:=f v l;exact⟨u,bX,c5⟩)];exact hf
  have V:=iW sa ht;obtain⟨k1,k3⟩:=ox hn k2 f;have au:=D4.words [0] (.inr rfl);have av:=D6.words [0] (.inr rfl);refine hR _ _ ⟨w,0,{k with sy:=vs p' (a.length+1) c'},rfl,⟨h9,M.ok,M.ext.fr_trans f9 (λi f=>by simp at f;subst f;exact M.young _ I),M.young⟩,.inr ⟨rfl,a++[w],⟨⟨p',c',GH,?_,Y,λu hu=>?_⟩,?_,λi f=>?_,k2,z.even,?_,?_,D.snoc sa ht T,λv l=>by simp[l],?_,λt=>?_⟩,GH,sa,JW.sym (((JW.refl d a).make GG GG F (jf name) q1 q2 (λh=>absurd rfl h)).make GG GG GH (by simpa using m.thing.word) q3 q4 (λ_ v l=>l)) _⟩⟩
  ·have:=o8.keep f9 (λi f h=>by simp at h;subst h;exact(Y _ f).1 I);simpa[Bi]using this
  ·rcases EH.1 hu with h | h
   ·exact hw u h
   ·simp at h;subst h;exact z.thing.word
  ·rw[hS];exact((((((g.fr (S:=b.all++l6 B)).trans (x.mono (λi f _=>by simp[f]))).trans A.fr).trans (y.mono (λi f _=>by simp[f]))).trans e7.fr).trans (f8.mono (λi f _=>by simp[f]))).trans (f9.mono (λi f _=>by simp at f;subst f;simp[I]))
  ·rw[hS];exact X i f
  ·show k.sp.mem.count<=d.sp.mem.count+2/\d.sp.mem.free<=k.sp.mem.free+2;have:=m.made.free;have:=z.made.free;omega
  ·refine⟨GH,λal=>?_⟩;rw[List.nodup_append];refine⟨al,GH,λu hu v l e=>?_⟩;simp at l;subst l;subst e;have:=D.find hu sa ht;rw[T]at this;cases this
  ·show k.sp.mem.words [0]-lg k.sp.mem (a++[w])=_
   have:lg k.sp.mem (a++[w])=lg d.sp.mem a+(3+((cF name).length:Int)):=by
    rw[<-k1];unfold lg;rw[E4,List.sum_append];simp[V]
   rw[this,av,au];simp;omega
  ·show t∈lF k.sp.mem (a++[w]) ↔ _;unfold lF at k3⊢;rw[E4,k3];simp[V]
mutual
def baseD:Dt->Int
 | .mk k _ neg mag t l=>(if k=4 then(if(Bg neg mag).2=true then 0 else(mag.length:Int)+1)else if k=5 then((cF t).length:Int)+1 else if k=7 then 2 else if k=8 then(l.length:Int)+1 else 0)+jY l
def jY:List Dt->Int
 | []=>0
 | d::r=>baseD d+jY r
end
mutual
def jr:Dt->List ByteArray
 | .mk k _ _ _ t l=>(if k=6 then[t]else[])++iy l
def iy:List Dt->List ByteArray
 | []=> []
 | d::r=>jr d++iy r
end
theorem qS: ∀(l:List Dt) (d:Dt),jY (l++[d])=jY l+baseD d
 | [],d=>by simp[jY]
 | x::r,d=>by simp only[List.cons_append,jY];rw[qS r d];omega
theorem lO: ∀(l:List Dt) (d:Dt),bO (l++[d])=bO l+aY d
 | [],d=>by simp[bO]
 | x::r,d=>by simp only[List.cons_append,bO];rw[lO r d];omega
theorem pz: ∀(l:List Dt) (d:Dt),iy (l++[d])=iy l++jr d
 | [],d=>by simp[iy]
 | x::r,d=>by simp only[List.cons_append,iy];rw[pz r d];simp
def gL(x y:Dt):Dt:=.mk 7 0 false [] tE [x,y]
def ju(cs:List Dt)(r:Dt):Dt:=cs.foldr gL r
theorem jh(c:Dt)(a:List Dt)(r:Dt):ju (c::a) r=gL c (ju a r):=rfl
theorem vQ(x y:Dt):baseD (gL x y)=2+(baseD x+baseD y):=by simp[gL,baseD,jY]
theorem lQ(x y:Dt):aY (gL x y)=1+(aY x+aY y):=by simp[gL,aY,bO]
theorem uG(x y:Dt):jr (gL x y)=jr x++jr y:=by simp[gL,jr,iy]
theorem uH(h:r.size=0):r=tE:=by
 have h:r.data.size=0:=h;exact F1 (by rw[Array.size_eq_zero_iff.1 h];rfl)
theorem vR{neg:Bool}{l:List Dt}(h:Plain (.mk g i neg a r l))(hk:g=7): ∃x y,l=[x,y]/\Dt.mk g i neg a r l=gL x y/\Plain x/\Plain y:=by
 cases h with
 | mk pk m n o q p f s t k j b=>
 subst hk;have c:=k rfl
 match l,c with
 | [x,y],_=>
  have hn:=o GG;have d:=m GG;have e:=uH (p GG GG);subst d e;rw[hn.1,hn.2];exact⟨x,y,rfl,rfl,b x GH,b y GH⟩
theorem uI(n:Nat): ∀d,aY d<=n->Plain d-> ∃a r,d=ju a r/\r.kind≠7/\Plain r/\(∀c∈a,Plain c)/\(d.kind=7->a≠[]):=by
 induction n with
 | zero=>intro d h;have:=cV d;omega
 | succ n u=>
  intro d p g;by_cases b:d.kind=7
  ·cases d with
   | mk k c neg mag t l=>
   obtain⟨x,y,_,e,q,s⟩:=vR g b;rw[e,lQ]at p;have:=cV x;obtain⟨a,r,i,j,m,o,_⟩:=u y GF s;refine⟨x::a,r,by rw[e,i];rfl,j,m,λz f=>?_,λ_=>GH⟩;rcases Ew.1 f with rfl | f
   ·exact q
   ·exact o z f
  ·exact⟨[],d,rfl,b,g,GH,λh=>absurd h b⟩
theorem pA(r:Dt): ∀a:List Dt,aY (ju a r)=a.length+bO a+aY r
 | []=>by simp[ju,bO]
 | c::a=>by rw[jh,lQ,pA r a];simp only[bO,List.length_cons];omega
theorem mZ{neg:Bool}{l:List Dt}(h:gP (.mk g i neg a r l)):r.size<=1000/\a.length<=300/\ ∀x∈l,gP x:=by
 cases h;exact⟨by assumption,by assumption,by assumption⟩
theorem vS{x y:Dt}(h:gP (gL x y)):gP x/\gP y:=by
 have:=(mZ h).2.2;exact⟨this x GH,this y GH⟩
theorem qT{r:Dt}: ∀{a:List Dt},gP (ju a r)->(∀c∈a,gP c)/\gP r
 | [],h=>⟨GH,h⟩
 | c::a,h=>by
  rw[jh]at h;obtain⟨d,e⟩:=vS h;obtain⟨f,g⟩:=qT e;refine⟨λz b=>?_,g⟩;rcases Ew.1 b with rfl | b
  ·exact d
  ·exact f z b
