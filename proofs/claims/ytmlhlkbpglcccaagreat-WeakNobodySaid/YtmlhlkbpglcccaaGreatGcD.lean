/-
 What is copied, and where to; what has become of each word by now. Proves nothing of any one statement.
-/
import Derived.Test.YtmlhlkbpglcccaaGreatGcB
set_option linter.unusedVariables false
set_option linter.unusedSimpArgs false
namespace Go.Proofs.YtmlhlkbpglcccaaGreat
open Go

theorem Grown.usedIff{m m':Mem}{a g k n:Int}(gr:Grown m m' a n g k)(hn:0<=n){x:Int}:m'.used x ↔ m.used x\/(a<=x/\x<a+n):=by
 obtain⟨a0,a1,a2⟩:=gr.addr
 obtain⟨n1,n2,n3,n4⟩:=gr.new
 by_cases hj:(x / 64).toNat=(a / 64).toNat
 ·unfold Mem.used Mem.has
  rw[hj,n4,gr.limit]
  by_cases ht:(m.seg (a / 64).toNat).taken=0
  ·have:=gr.fresh ht
   constructor
   ·rintro⟨h1,h2,h3⟩;exact .inr (by omega)
   ·rintro(⟨h1,⟨_,_,h2⟩,_⟩ | h)
    ·exact absurd ht h2
    ·exact⟨by omega,⟨by omega,by omega,n1⟩,by omega⟩
  ·obtain⟨o1,o2,o3,_⟩:=gr.old ht
   rw[o3]
   constructor
   ·rintro⟨h1,⟨h2,h3,_⟩,h4⟩
    by_cases hx:x % 64<a % 64
    ·exact .inl ⟨h1,⟨h2,h3,ht⟩,hx⟩
    ·exact .inr (by omega)
   ·rintro(⟨h1,⟨h2,h3,_⟩,h4⟩ | h)
    ·exact⟨h1,⟨h2,h3,n1⟩,by omega⟩
    ·exact⟨by omega,⟨by omega,by omega,n1⟩,by omega⟩
 ·have ho:=gr.others _ hj
  unfold Mem.used Mem.has
  rw[ho,gr.limit]
  constructor
  ·intro h;exact .inl h
  ·rintro(h | h)
   ·exact h
   ·exfalso;omega
theorem dS.used{m m':Mem}(h:dS m m'){x:Int}(hu:m.used x):m'.used x:=⟨hu.1,h.has hu.2.1,by have:=(h.seg _ hu.2.1.2.2).2.2.2;have:=hu.2.2;omega⟩

theorem Sp.alloc_curS{s:Sp}(ok:SpOK s){T k n:Int}(h:(s.alloc T k n).2.2=0)(j:Nat)(h0:(s.alloc T k n).1.cur T.toNat j≠0):(s.alloc T k n).1.cur T.toNat j=s.cur T.toNat j\/((s.mem.seg ((s.alloc T k n).1.cur T.toNat j-1).toNat).taken=0/\((s.alloc T k n).1.cur T.toNat j-1).toNat<s.mem.limit):=by
 unfold Sp.alloc at*
 by_cases hm:may T k n
 case neg=>rw[if_pos hm]at h;exact absurd h (by show ¬((1:Int)=0);decide)
 rw[if_neg (λhh=>hh hm)]at h h0⊢
 by_cases hc:s.cur T.toNat k.toNat≠0/\(s.mem.bump (s.cur T.toNat k.toNat-1) n).2.2=0
 ·rw[if_pos hc];exact .inl rfl
 rw[if_neg hc]at h h0⊢
 by_cases ht:(s.mem.take T k).2.2=0
 case neg=>rw[if_neg ht]at h;exact absurd h ht
 rw[if_pos ht]at h0⊢
 have hte:(s.mem.take T k).2.1=(s.mem.first:Int)/\s.mem.free≠0:=by
  unfold Mem.take at ht⊢
  by_cases h1:T<0\/4<T\/k<0\/3<k
  ·rw[if_pos h1]at ht;exact absurd ht (by show ¬((1:Int)=0);decide)
  rw[if_neg h1]at ht⊢
  by_cases hf:s.mem.free=0
  ·rw[if_pos hf]at ht;exact absurd ht (by show ¬((2:Int)=0);decide)
  ·rw[if_neg hf];exact⟨rfl,hf⟩
 obtain⟨hf1,hf0⟩:=Mem.first_spec ok.mem hte.2
 show(if T.toNat=T.toNat/\j=k.toNat then(s.mem.take T k).2.1+1 else s.cur T.toNat j)=_\/((s.mem.seg ((if T.toNat=T.toNat/\j=k.toNat then(s.mem.take T k).2.1+1 else s.cur T.toNat j)-1).toNat).taken=0/\((if T.toNat=T.toNat/\j=k.toNat then(s.mem.take T k).2.1+1 else s.cur T.toNat j)-1).toNat<s.mem.limit)
 by_cases hj:j=k.toNat
 ·right
  rw[if_pos ⟨rfl,hj⟩,hte.1,show((s.mem.first:Int)+1-1).toNat=s.mem.first by omega]
  exact⟨hf0,hf1⟩
 ·left;rw[if_neg (λhh=>hj hh.2)]
theorem Sp.alloc_addr{s:Sp}(ok:SpOK s){T k n:Int}(h:(s.alloc T k n).2.2=0):((s.alloc T k n).2.1 / 64).toNat=((s.alloc T k n).1.cur T.toNat k.toNat-1).toNat/\(s.alloc T k n).1.cur T.toNat k.toNat≠0:=by
 unfold Sp.alloc at*
 by_cases hm:may T k n
 case neg=>rw[if_pos hm]at h;exact absurd h (by show ¬((1:Int)=0);decide)
 rw[if_neg (λhh=>hh hm)]at h⊢
 have hn:1<=n/\n<=63:=by have:=hm.2;omega
 by_cases hc:s.cur T.toNat k.toNat≠0/\(s.mem.bump (s.cur T.toNat k.toNat-1) n).2.2=0
 ·rw[if_pos hc]
  obtain⟨hhas,hd,hf,he⟩:=Mem.bump_ok ok.mem hc.2
  refine⟨?_,hc.1⟩
  show((s.mem.bump _ _).2.1 / 64).toNat=(s.cur T.toNat k.toNat-1).toNat
  rw[he]
  have:=(ok.mem.seg (s.cur T.toNat k.toNat-1).toNat).n
  show(((s.cur T.toNat k.toNat-1)*64+_) / 64).toNat=_
  omega
 rw[if_neg hc]at h⊢
 by_cases ht:(s.mem.take T k).2.2=0
 case neg=>rw[if_neg ht]at h;exact absurd h ht
 rw[if_pos ht]at h⊢
 have hok:=ok.mem.take T k
 simp only at h
 obtain⟨hhas,hd,hf,he⟩:=Mem.bump_ok hok h
 have hn2:=(hok.seg (s.mem.take T k).2.1.toNat).n
 have h0:=hhas.1
 show(((s.mem.take T k).1.bump _ _).2.1 / 64).toNat=((if T.toNat=T.toNat/\k.toNat=k.toNat then(s.mem.take T k).2.1+1 else _)-1).toNat/\(if T.toNat=T.toNat/\k.toNat=k.toNat then(s.mem.take T k).2.1+1 else _)≠0
 rw[if_pos ⟨rfl,rfl⟩,he]
 show(((s.mem.take T k).2.1*64+_) / 64).toNat=_/\_
 exact⟨by omega,by omega⟩

structure dT (Z:TZ) (g F0:Int):Prop where
 ok:bI Z.m
 even:Z.m.Even
 sound:fF Z.m Z.sz
 old: ∀k:Nat,k<1024->(Z.O k=true ↔ Z.m.has k/\(Z.m.seg k).gen<=g)
 rng:0<=g/\g<4/\g<=Z.T/\Z.T<=g+1
 room:2*((Z.yk 0:Int)+Z.yk 1+Z.yk 2+Z.yk 3)+8<=F0
 V: ∀v,Z.V v->aH v/\Good Z.m Z.sz v
def Was(Z:TZ)(fw:Int->Option Int)(x v:Int):Prop:=(Z.m.used x/\Z.O (x / 64).toNat=false/\v=Z.m.get x)\/ ∃(a b:Int) (i:Nat),fw a=some b/\i<Z.sz a/\x=b+i/\v=Z.m.get (a+i)
structure Img (Z:TZ) (s:Sp) (a b:Int):Prop where
 fit:b % 64+Z.sz a<=64/\0<=b
 here: ∀i:Nat,i<Z.sz a->s.mem.used (b+i)
 new: ∀i:Nat,i<Z.sz a-> ¬Z.m.used (b+i)
 gen:s.mem.gAt b=Z.T
 kind:s.mem.kAt b=Z.m.kAt a
 out:Z.O (b / 64).toNat=false
 even:Z.m.kAt a<=1->b % 2=0
structure Tri (Z:TZ) (F0:Int) (fw:Int->Option Int) (al:List Int) (s:Sp) (sz:Int->Nat):Prop where
 ok:SpOK s
 even:s.mem.Even
 heads:dS Z.m s.mem
 oldN: ∀k,k<1024->Z.O k=true->(s.mem.seg k).n=(Z.m.seg k).n
 curO: ∀k,k<4->s.cur Z.T.toNat k≠0->Z.O (s.cur Z.T.toNat k-1).toNat=false
 cap: ∃c,Cap Z F0 al s c
 olds:Olds Z al
 al: ∀a,a∈al ↔ ∃b,fw a=some b
 img: ∀a b,fw a=some b->sz b=Z.sz a/\Img Z s a b
 inj: ∀a a' b,fw a=some b->fw a'=some b->a=a'
 apart: ∀a b,sz a≠0->sz b≠0->a<b->a+sz a<=b
 sz0: ∀a,Z.m.used a->sz a=Z.sz a
 szn: ∀b,sz b≠0->Z.m.used b\/ ∃a,fw a=some b
 word: ∀a b,fw a=some b->s.mem.get a=b*8+6
 keep: ∀x,Z.m.used x->Z.O (x / 64).toNat=true->fw x=none->s.mem.get x=Z.m.get x
 cover: ∀x,s.mem.used x->Z.m.used x\/ ∃(a b:Int) (i:Nat),fw a=some b/\i<Z.sz a/\x=b+i
 val: ∀x v,Was Z fw x v->s.mem.get x=v\/(s.mem.strong x/\Dn Z.O fw v/\s.mem.get x=Fw Z.O fw v)
 reach: ∀a b,fw a=some b->Reach Z a

section
variable {Z:TZ} {g F0:Int} {fw:Int->Option Int} {al:List Int} {s:Sp} {sz:Int->Nat}
theorem Tri.kAt(t:Tri Z F0 fw al s sz){x:Int}(h:Z.m.used x):s.mem.kAt x=Z.m.kAt x/\s.mem.gAt x=Z.m.gAt x:=⟨(t.heads.seg _ h.2.1.2.2).2.1,(t.heads.seg _ h.2.1.2.2).1⟩
theorem dT.lt(S:dT Z g F0){x:Int}(h:Z.m.used x):(x / 64).toNat<1024/\0<=x/\x<65536:=by
 have h1:=h.2.1.2.1
 have h2:=S.ok.lim
 exact⟨by omega,h.1,by have:=h.1;omega⟩
theorem dT.oldWord(S:dT Z g F0){w:Int}(hg:Good Z.m Z.sz w)(ho:aQ Z.O w):Z.sz (w / 8)≠0/\Z.O (w / 8 / 64).toNat=true/\fD w/\w % 8=tagK (Z.m.kAt (w / 8)):=by
 have ht:fD w:=by have:=ho.1.1;have:=ho.2.1;unfold fD;omega
 exact⟨(hg.2 ht).1,ho.2.2,ht,(hg.2 ht).2⟩
theorem Tri.same_size(S:dT Z g F0)(t:Tri Z F0 fw al s sz){w:Int}(hw:aH w)(hg:Good Z.m Z.sz w)(ho:aQ Z.O w)(hn:fw (w / 8)=none):s.mem.sizeOf w=Z.sz (w / 8)/\s.mem.fwd w=none/\s.mem.kindOf w=Z.m.kAt (w / 8):=by
 obtain⟨h1,h2,h3,h4⟩:=S.oldWord hg ho
 obtain⟨u1,u2⟩:=S.sound.used _ h1
 have hlt:=S.lt u1
 have hk:=t.kAt u1
 have hget:=t.keep _ u1 h2 hn
 have hN:=t.oldN _ hlt.1 h2
 refine⟨iK hw h3 (by rw[hk.1];exact h4) hlt.2.2 (t.heads.used u1) (t.ok.mem.seg _).kind (by rw[hk.1];exact S.sound.two _ h1) (λhK=>?_),?_,hk.1⟩
 ·rw[hk.1]at hK⊢
  obtain⟨o1,o2,o3⟩:=S.sound.obj _ h1 hK
  rw[hget]
  exact⟨o1,o2,o3,by rw[hN];exact u2⟩
 ·unfold Mem.fwd
  rw[if_neg]
  rintro⟨_,_,q⟩
  rw[hget]at q
  exact S.sound.noFwd h1 q
theorem dT.size63(S:dT Z g F0){a:Int}(h:Z.sz a≠0):(Z.m.kAt a<=1/\Z.sz a=2\/2<=Z.m.kAt a/\1<=Z.sz a/\Z.sz a<=63)/\0<=Z.m.kAt a/\Z.m.kAt a<=3:=by
 have hk:=(S.ok.seg (a / 64).toNat).kind
 refine⟨?_,hk⟩
 by_cases h1:Z.m.kAt a<=1
 ·exact .inl ⟨h1,(S.sound.two a h h1).1⟩
 ·obtain⟨o1,o2,o3⟩:=S.sound.obj a h (by omega)
  have:=o1.2
  unfold hn at o3
  exact .inr ⟨by omega,by omega,by omega⟩

structure ot (Z:TZ) (F0:Int) (fw:Int->Option Int) (s:Sp) (w:Int) (s':Sp) (v:Int) (fw':Int->Option Int) (al':List Int) (sz':Int->Nat):Prop where
 tri:Tri Z F0 fw' al' s' sz'
 le:Le fw fw'
 dn:Dn Z.O fw' w
 val:v=Fw Z.O fw' w
 rest: ∀x,s.mem.used x->Z.O (x / 64).toNat=false->s'.mem.get x=s.mem.get x
 heads:dS s.mem s'.mem

theorem Tri.copy(S:dT Z g F0)(t:Tri Z F0 fw al s sz){a:Int}(hsz:Z.sz a≠0)(hO:Z.O (a / 64).toNat=true)(hn:fw a=none)(hr:Reach Z a){m:Mem}{b:Int}
  (ha:(s.alloc Z.T (Z.m.kAt a) (Z.sz a)).2.2=0) (hb:(s.alloc Z.T (Z.m.kAt a) (Z.sz a)).2.1=b) (hm:m=((s.alloc Z.T (Z.m.kAt a) (Z.sz a)).1.mem.sets b (s.mem.row a (Z.sz a))).set a (b*8+6)):
  Tri Z F0 (λx=>if x=a then some b else fw x) (a::al) {(s.alloc Z.T (Z.m.kAt a) (Z.sz a)).1 with mem:=m} (λx=>if x=b then Z.sz a else sz x)/\Le fw (λx=>if x=a then some b else fw x)/\
   (∀x,s.mem.used x->x≠a->m.get x=s.mem.get x)/\dS s.mem m:=by
 obtain⟨ok2,gr⟩:=Sp.alloc_ok t.ok ha
 obtain⟨hsz63,hK⟩:=S.size63 hsz
 obtain⟨u1,u2⟩:=S.sound.used a hsz
 have hlt:=S.lt u1
 have hus:=t.heads.used u1
 rw[hb]at gr
 obtain⟨c,hcap⟩:=t.cap
 have sm:aZ (s.alloc Z.T (Z.m.kAt a) (Z.sz a)).1.mem m:=by rw[hm];exact(aZ.sets _ _ _).trans (aZ.set _ _ _)
 obtain⟨c',hcap'⟩:=hcap.step t.ok hK ha sm
 have hcs:=Sp.alloc_curS t.ok ha
 have hab:=Sp.alloc_addr t.ok ha
 rw[hb]at hab
 have hbk:(Z.m.kAt a).toNat<4:=by omega
 have hTn:0<=Z.T:=by have:=S.rng;omega
 generalize hs':(s.alloc Z.T (Z.m.kAt a) (Z.sz a)).1=s' at*
 have hlim:=t.ok.mem.lim
 obtain⟨a0,a1,a2⟩:=gr.addr
 have hheads:dS s.mem m:=(gr.heads (by omega)).trans sm.heads
 have freeO: ∀k:Nat,k<1024->(s.mem.seg k).taken=0->Z.O k=false:=λk hk h0=>by
  by_cases ho:Z.O k=true
  ·have:=((S.old k hk).1 ho).1.2.2
   rw[show((k:Nat):Int).toNat=k by omega]at this
   have h2:=(t.heads.seg k this).2.2.1
   rw[h0]at h2;exact absurd h2.symm this
  ·simpa using ho
 have hcurO: ∀k,k<4->s'.cur Z.T.toNat k≠0->Z.O (s'.cur Z.T.toNat k-1).toNat=false:=λk hk h0=>by
  rcases hcs k h0 with e | ⟨e1,e2⟩
  ·rw[e]at h0⊢;exact t.curO k hk h0
  ·exact freeO _ (by omega) e1
 have hout:Z.O (b / 64).toNat=false:=by
  rw[hab.1];exact hcurO _ hbk hab.2
 have hu': ∀i:Nat,i<Z.sz a->s'.mem.used (b+i):=λi hi=>(gr.usedIff (by omega)).2 (.inr (by omega))
 have hrl:(s.mem.row a (Z.sz a)).length=Z.sz a:=Mem.row_len _ _ _
 have hget: ∀x,0<=x->m.get x=if x=a then b*8+6 else if b<=x/\x<b+Z.sz a then s.mem.get (a+(x-b))else s'.mem.get x:=λx hx=>by
  rw[hm,Mem.set_get x hx u1.1]
  refine ite_congr rfl (λ_=>rfl) (λ_=>?_)
  rw[Mem.sets_get _ x hx a0 (by rw[hrl];exact hu'),hrl]
  refine ite_congr rfl (λh=>?_) (λ_=>rfl)
  have hi:(x-b).toNat<Z.sz a:=by omega
  rw[List.getD_eq_getElem?_getD,List.getElem?_eq_getElem (by rw[hrl];exact hi),Option.getD_some,Mem.row_get _ _ hi]
  congr 2;omega
 have hrest: ∀x,s.mem.used x->x≠a->m.get x=s.mem.get x:=λx hx hxa=>by
  rw[hget x hx.1,if_neg hxa,if_neg (gr.not_in hx),gr.get hx]
 have hmused: ∀x,m.used x ↔ s.mem.used x\/(b<=x/\x<b+Z.sz a):=λx=>(sm.used).trans (gr.usedIff (by omega))
 have hnewZ: ∀i:Nat,i<Z.sz a-> ¬Z.m.used (b+i):=λi hi h=>gr.not_in (t.heads.used h) (by omega)
 have hbs: ∀i:Nat,i<Z.sz a-> ¬s.mem.used (b+i):=λi hi h=>gr.not_in h (by omega)
 have hsz0:0<Z.sz a:=by omega
 have hle:Le fw (λx=>if x=a then some b else fw x):=λx y h=>by
  by_cases hx:x=a
  ·rw[hx,hn]at h;cases h
  ·show(if x=a then some b else fw x)=some y
   rw[if_neg hx];exact h
 have hseg: ∀x,s.mem.used x->m.kAt x=s.mem.kAt x/\m.gAt x=s.mem.gAt x:=λx hx=>⟨(hheads.seg _ hx.2.1.2.2).2.1,(hheads.seg _ hx.2.1.2.2).1⟩
 have hkb:m.kAt b=Z.m.kAt a/\m.gAt b=Z.T:=⟨((sm.seg _).2.1).trans gr.new.2.2.1,((sm.seg _).1).trans gr.new.2.1⟩
 have hstr: ∀x,s.mem.used x->s.mem.strong x->m.strong x:=λx hx h=>by
  have:=(hseg x hx).1
  unfold Mem.strong at*;rw[this];exact h
 have hbsz:sz b=0:=by
  by_cases h:sz b=0
  ·exact h
  ·rcases t.szn b h with q | ⟨a',q⟩
   ·exact absurd (t.heads.used q) (by simpa using hbs 0 hsz0)
   ·have hi:=(t.img a' b q).2
    have h2:=(t.img a' b q).1
    exact absurd (by simpa using hi.here 0 (by omega)) (by simpa using hbs 0 hsz0)
 have hused_all: ∀x,sz x≠0-> ∀i:Nat,i<sz x->s.mem.used (x+i):=λx hx i hi=>by
  rcases t.szn x hx with q | ⟨a',q⟩
  ·have e:=t.sz0 x q
   rw[e]at hx hi
   exact t.heads.used (S.sound.usedAt hx hi (λk=>(S.ok.seg k).n.2)).1
  ·obtain⟨h2,hi2⟩:=t.img a' x q
   exact hi2.here i (by omega)
 have imgKeep: ∀a' b',fw a'=some b'->Img Z {s' with mem:=m} a' b':=λa' b' h=>by
  obtain⟨h1,h2⟩:=t.img a' b' h
  have hsa:=(t.olds.mem a' ((t.al a').2 ⟨b',h⟩)).1
  have hu0:s.mem.used b':=by simpa using h2.here 0 (by omega)
  exact⟨h2.fit,λi hi=>(hmused _).2 (.inl (h2.here i hi)),h2.new,(hseg b' hu0).2.trans h2.gen,(hseg b' hu0).1.trans h2.kind,h2.out,h2.even⟩
 refine⟨⟨?_,?_,t.heads.trans hheads,λk hk ho=>?_,hcurO,⟨c',hcap'⟩,⟨?_,?_⟩,λx=>?_,λx y h=>?_,λx x' y h h'=>?_,λx y hx hy hxy=>?_,λx hx=>?_,λy hy=>?_,λx y h=>?_,λx hx ho h=>?_,λx hx=>?_,λx v h=>?_,λx y h=>?_⟩,hle,hrest,hheads⟩
 ·have hws: ∀v∈s.mem.row a (Z.sz a),aH v:=λv hv=>by
   unfold Mem.row at hv
   obtain⟨i,_,rfl⟩:=List.mem_map.1 hv
   exact(t.ok.mem.seg _).words _
  have ok3:=ok2.sets b hws
  have:=ok3.withMem (ok3.mem.set a (w:=b*8+6) ⟨by omega,by omega⟩) (λk h=>Mem.set_has.2 h) (λk=>⟨((aZ.set _ _ _).seg k).1,((aZ.set _ _ _).seg k).2.1⟩)
  rw[hm];exact this
 ·exact sm.even (gr.even t.even (λhk=>by rcases hsz63 with q | q<;>omega)).1
 ·show(m.seg k).n=_
  rw[(sm.seg k).2.2.1]
  have hkb':k≠(b / 64).toNat:=λe=>by rw[e]at ho;rw[hout]at ho;cases ho
  rw[gr.others k hkb'];exact t.oldN k hk ho
 ·rw[List.nodup_cons];exact⟨(λh=>by obtain⟨b',hb'⟩:=(t.al a).1 h;rw[hn]at hb';cases hb'),t.olds.nodup⟩
 ·intro x hx
  rcases List.mem_cons.1 hx with rfl | hx
  ·exact⟨hsz,hO⟩
  ·exact t.olds.mem x hx
 ·rw[List.mem_cons]
  show x=a\/x∈al ↔ ∃y,(if x=a then some b else fw x)=some y
  by_cases hxa:x=a
  ·rw[if_pos hxa];exact⟨λ_=>⟨b,rfl⟩,λ_=> .inl hxa⟩
  ·rw[if_neg hxa,<-t.al x];exact⟨λh=>h.resolve_left hxa,.inr⟩
 ·have h:(if x=a then some b else fw x)=some y:=h
  show(if y=b then Z.sz a else sz y)=_/\_
  by_cases hxa:x=a
  ·rw[if_pos hxa]at h;cases h;subst hxa
   refine⟨if_pos rfl,⟨by omega,a0⟩,λi hi=>(hmused _).2 (.inr (by omega)),hnewZ,hkb.2,hkb.1,hout,λhk=>(gr.even t.even (λhk=>by rcases hsz63 with q | q<;>omega)).2 hk⟩
  ·rw[if_neg hxa]at h
   have hyb:y≠b:=λe=>by
    have h2:=(t.img x y h).2
    have hsa:=(t.olds.mem x ((t.al x).2 ⟨y,h⟩)).1
    rw[e]at h2
    exact absurd (by simpa using h2.here 0 (by omega)) (by simpa using hbs 0 hsz0)
   rw[if_neg hyb]
   exact⟨(t.img x y h).1,imgKeep x y h⟩
 ·have h:(if x=a then some b else fw x)=some y:=h
  have h':(if x'=a then some b else fw x')=some y:=h'
  have hno: ∀z,fw z=some b->False:=λz hz=>by
   have h2:=(t.img z b hz).2
   have hsa:=(t.olds.mem z ((t.al z).2 ⟨b,hz⟩)).1
   exact absurd (by simpa using h2.here 0 (by omega)) (by simpa using hbs 0 hsz0)
  by_cases h1:x=a
  ·by_cases h2:x'=a
   ·rw[h1,h2]
   ·rw[if_pos h1]at h;rw[if_neg h2]at h';cases h;exact(hno _ h').elim
  ·by_cases h2:x'=a
   ·rw[if_neg h1]at h;rw[if_pos h2]at h';cases h';exact(hno _ h).elim
   ·rw[if_neg h1]at h;rw[if_neg h2]at h';exact t.inj x x' y h h'
 ·have hx:(if x=b then Z.sz a else sz x)≠0:=hx
  have hy:(if y=b then Z.sz a else sz y)≠0:=hy
  show x+((if x=b then Z.sz a else sz x:Nat):Int)<=y
  by_cases h1:x=b
  ·have h2:y≠b:=by omega
   rw[if_neg h2]at hy
   rw[if_pos h1]
   have:=hused_all y hy 0 (by omega)
   have:=gr.not_in (x:=y) (by simpa using this)
   omega
  ·rw[if_neg h1]at hx⊢
   by_cases h2:y=b
   ·rcases Int.lt_or_le b (x+sz x)with hlt' | hle'
    ·have:=hused_all x hx (b-x).toNat (by omega)
     rw[show x+((b-x).toNat:Int)=b by omega]at this
     exact absurd this (by simpa using hbs 0 hsz0)
    ·omega
   ·rw[if_neg h2]at hy
    exact t.apart x y hx hy hxy
 ·show(if x=b then Z.sz a else sz x)=_
  have:x≠b:=λe=>absurd hx (by rw[e];simpa using hnewZ 0 hsz0)
  rw[if_neg this];exact t.sz0 x hx
 ·have hy:(if y=b then Z.sz a else sz y)≠0:=hy
  by_cases hyb:y=b
  ·right;refine⟨a,?_⟩;show(if a=a then some b else _)=_;rw[if_pos rfl,hyb]
  ·rw[if_neg hyb]at hy
   rcases t.szn y hy with q | ⟨a',q⟩
   ·exact .inl q
   ·exact .inr ⟨a',hle _ _ q⟩
 ·have h:(if x=a then some b else fw x)=some y:=h
  show m.get x=_
  by_cases hxa:x=a
  ·rw[if_pos hxa]at h;cases h
   rw[hxa,hget a u1.1,if_pos rfl]
  ·rw[if_neg hxa]at h
   have hxs:=(t.olds.mem x ((t.al x).2 ⟨y,h⟩)).1
   rw[hrest x (t.heads.used (S.sound.used x hxs).1) hxa];exact t.word x y h
 ·have h:(if x=a then some b else fw x)=none:=h
  show m.get x=_
  by_cases hxa:x=a
  ·rw[if_pos hxa]at h;cases h
  ·rw[if_neg hxa]at h
   rw[hrest x (t.heads.used hx) hxa];exact t.keep x hx ho h
 ·rcases(hmused x).1 hx with q | q
  ·rcases t.cover x q with r | ⟨a',b',i,r1,r2,r3⟩
   ·exact .inl r
   ·exact .inr ⟨a',b',i,hle _ _ r1,r2,r3⟩
  ·exact .inr ⟨a,b,(x-b).toNat,if_pos rfl,by omega,by omega⟩
 ·have old_case:Was Z fw x v->m.get x=v\/m.strong x/\Dn Z.O (λx=>if x=a then some b else fw x) v/\m.get x=Fw Z.O (λx=>if x=a then some b else fw x) v:=λhw=>by
   have hxu:s.mem.used x/\x≠a:=by
    rcases hw with⟨q1,q2,_⟩ | ⟨a',b',i,q1,q2,q3,_⟩
    ·exact⟨t.heads.used q1,λe=>by rw[e,hO]at q2;cases q2⟩
    ·have h2:=(t.img a' b' q1).2
     refine⟨by rw[q3];exact h2.here i q2,λe=>?_⟩
     have:=h2.new i q2
     rw[<-q3,e]at this;exact this u1
   rw[hrest x hxu.1 hxu.2]
   rcases t.val x v hw with q | ⟨q1,q2,q3⟩
   ·exact .inl q
   ·exact .inr ⟨hstr x hxu.1 q1,q2.mono hle,by rw[mJ q2 hle];exact q3⟩
  show m.get x=v\/_
  rcases h with h | ⟨a',b',i,q1,q2,q3,q4⟩
  ·exact old_case (.inl h)
  ·have q1:(if a'=a then some b else fw a')=some b':=q1
   by_cases haa:a'=a
   ·rw[if_pos haa]at q1;cases q1
    subst haa
    left
    have hxa:x≠a':=λe=>by
     have:=hnewZ i q2
     rw[<-q3,e]at this;exact this u1
    rw[hget x (by omega),if_neg hxa,if_pos (by omega),q4]
    have hai:=S.sound.usedAt hsz q2 (λk=>(S.ok.seg k).n.2)
    rw[show a'+(x-b)=a'+i by omega]
    refine t.keep _ hai.1 (by rw[hai.2.1];exact hO) ?_
    cases hf:fw (a'+i)with
    | none=>rfl
    | some y=>
     have h1:=(t.olds.mem _ ((t.al _).2 ⟨y,hf⟩)).1
     rcases Nat.eq_zero_or_pos i with h0 | h0
     ·rw[h0]at hf;simp at hf;rw[hn]at hf;cases hf
     ·exact absurd (S.sound.within hsz h0 q2) h1
   ·rw[if_neg haa]at q1
    exact old_case (.inr ⟨a',b',i,q1,q2,q3,q4⟩)
 ·have h:(if x=a then some b else fw x)=some y:=h
  by_cases hxa:x=a
  ·rw[hxa];exact hr
  ·rw[if_neg hxa]at h;exact t.reach x y h

theorem Tri.visit(S:dT Z g F0)(t:Tri Z F0 fw al s sz){w:Int}(hw:aH w)(hg:Good Z.m Z.sz w)(hr:aQ Z.O w->Reach Z (w / 8)):
  ∃fw' al' sz',ot Z F0 fw s w (s.visit Z.O Z.T w).1 (s.visit Z.O Z.T w).2 fw' al' sz':=by
 by_cases ho:aQ Z.O w
 case neg=>
  rw[Sp.visit_no ho]
  exact⟨fw,al,sz,t,Le.refl _,λh=>absurd h ho,(iM ho).symm,λ_ _ _=>rfl,dS.refl _⟩
 obtain⟨h1,h2,h3,h4⟩:=S.oldWord hg ho
 obtain⟨u1,u2⟩:=S.sound.used _ h1
 have hlt:=S.lt u1
 cases hf:fw (w / 8)with
 | some b=>
  obtain⟨_,im⟩:=t.img _ _ hf
  have hb0:s.mem.used b:=by simpa using im.here 0 (by omega)
  have hlim:=t.ok.mem.lim
  have hb1:=hb0.2.1.2.1
  have hb2:=hb0.1
  have hv:s.mem.fwd w=some (b*8+w % 8):=by
   unfold Mem.fwd
   rw[t.word _ _ hf,if_pos ⟨t.heads.used u1,⟨by omega,by omega⟩,by omega⟩]
   congr 2;omega
  rw[Sp.visit_fwd ho hv]
  exact⟨fw,al,sz,t,Le.refl _,λ_=>⟨b,hf⟩,(gu ho hf).symm,λ_ _ _=>rfl,dS.refl _⟩
 | none=>
  obtain⟨q1,q2,q3⟩:=t.same_size S hw hg ho hf
  obtain⟨hsz63,hK⟩:=S.size63 h1
  obtain⟨c,hcap⟩:=t.cap
  have hroom:=hcap.room t.ok S.sound S.ok t.olds S.room
  have hrng:=S.rng
  have hmay:may Z.T (Z.m.kAt (w / 8)) (Z.sz (w / 8)):=⟨by omega,by rcases hsz63 with q | q<;>omega⟩
  have hal:=Sp.alloc_can t.ok hmay hroom
  have h0:s.mem.sizeOf w≠0:=by rw[q1];omega
  have hgo:=Sp.visit_go ho q2 h0 (T:=Z.T) (by rw[q1,q3];exact hal)
  rw[q1,q3]at hgo
  rw[hgo]
  have hmv:(Sp.moved s.mem w (s.alloc Z.T (Z.m.kAt (w / 8)) (Z.sz (w / 8)))).mem=((s.alloc Z.T (Z.m.kAt (w / 8)) (Z.sz (w / 8))).1.mem.sets (s.alloc Z.T (Z.m.kAt (w / 8)) (Z.sz (w / 8))).2.1 (s.mem.row (w / 8) (Z.sz (w / 8)))).set (w / 8) ((s.alloc Z.T (Z.m.kAt (w / 8)) (Z.sz (w / 8))).2.1*8+6):=by
   unfold Sp.moved
   rw[q1,show((Z.sz (w / 8):Int)).toNat=Z.sz (w / 8)by omega]
  obtain⟨c1,c2,c3,c4⟩:=t.copy S h1 h2 hf (hr ho) hal rfl hmv
  refine⟨_,_,_,c1,c2,λ_=>⟨_,if_pos rfl⟩,(gu ho (if_pos rfl)).symm,λx hx hxo=>c3 x hx (λe=>?_),c4⟩
  rw[e,h2]at hxo;cases hxo
end

def Done(Z:TZ)(fw:Int->Option Int)(s:Sp)(x:Int):Prop:= ∀v,Was Z fw x v->Dn Z.O fw v/\s.mem.get x=Fw Z.O fw v
section
variable {Z:TZ} {g F0:Int} {fw:Int->Option Int} {al:List Int} {s:Sp} {sz:Int->Nat}
theorem Was.mono{fw':Int->Option Int}{x v:Int}(h:Was Z fw x v)(l:Le fw fw'):Was Z fw' x v:=by
 rcases h with h | ⟨a,b,i,h1,h2⟩
 ·exact .inl h
 ·exact .inr ⟨a,b,i,l _ _ h1,h2⟩
theorem Tri.was_one(t:Tri Z F0 fw al s sz){x v v':Int}(h:Was Z fw x v)(h':Was Z fw x v'):v=v':=by
 rcases h with⟨h1,h2,h3⟩ | ⟨a,b,i,h1,h2,h3,h4⟩<;>rcases h' with⟨k1,k2,k3⟩ | ⟨a',b',i',k1,k2,k3,k4⟩
 ·rw[h3,k3]
 ·exact absurd (k3▸h1) ((t.img a' b' k1).2.new i' k2)
 ·exact absurd (h3▸k1) ((t.img a b h1).2.new i h2)
 ·have e1:=(t.img a b h1).1
  have e2:=(t.img a' b' k1).1
  have hb:b=b':=by
   rcases Int.lt_trichotomy b b' with q | q | q
   ·have:=t.apart b b' (by omega) (by omega) q;omega
   ·exact q
   ·have:=t.apart b' b (by omega) (by omega) q;omega
  subst hb
  have ha:=t.inj a a' b h1 k1
  subst ha
  have hi:i=i':=by omega
  subst hi
  rw[h4,k4]
theorem Tri.was(t:Tri Z F0 fw al s sz){x:Int}(hu:s.mem.used x)(ho:Z.O (x / 64).toNat=false): ∃v,Was Z fw x v:=by
 rcases t.cover x hu with h | ⟨a,b,i,h1,h2,h3⟩
 ·exact⟨_,.inl ⟨h,ho,rfl⟩⟩
 ·exact⟨_,.inr ⟨a,b,i,h1,h2,h3,rfl⟩⟩
theorem Tri.usedOf(t:Tri Z F0 fw al s sz){x v:Int}(h:Was Z fw x v):s.mem.used x/\Z.O (x / 64).toNat=false:=by
 rcases h with⟨h1,h2,_⟩ | ⟨a,b,i,h1,h2,h3,_⟩
 ·exact⟨t.heads.used h1,h2⟩
 ·have im:=(t.img a b h1).2
  refine⟨h3▸im.here i h2,?_⟩
  have:=im.fit
  rw[h3,show(b+i) / 64=b / 64 by omega];exact im.out
theorem Tri.was_good(S:dT Z g F0)(t:Tri Z F0 fw al s sz){x v:Int}(h:Was Z fw x v)(hs:s.mem.strong x):aH v/\Good Z.m Z.sz v/\(aQ Z.O v->Reach Z (v / 8)):=by
 rcases h with⟨h1,h2,rfl⟩ | ⟨a,b,i,h1,h2,h3,rfl⟩
 ·have hk:=(t.kAt h1).1
  have hz:Z.m.strong x:=by unfold Mem.strong at*;rw[<-hk];exact hs
  exact⟨(S.ok.seg _).words _,S.sound.good x h1 hz.1,λho=> .older h1 h2 hz ho⟩
 ·have im:=(t.img a b h1).2
  have hsa:=(t.olds.mem a ((t.al a).2 ⟨b,h1⟩)).1
  have hai:=S.sound.usedAt hsa h2 (λk=>(S.ok.seg k).n.2)
  have hf:=im.fit
  have hkx:s.mem.kAt x=Z.m.kAt (a+i):=by
   unfold Mem.kAt
   rw[h3,show(b+i) / 64=b / 64 by omega,hai.2.1];exact im.kind
  have hka:Z.m.kAt (a+i)=Z.m.kAt a:=by unfold Mem.kAt;rw[hai.2.1]
  have hz:Z.m.strong (a+i):=by
   unfold Mem.strong at*
   rw[<-hkx]
   refine⟨hs.1,?_⟩
   by_cases h1k:s.mem.kAt x=1
   ·right
    have hx2:=hs.2.resolve_left (λq=>q h1k)
    have hk1:Z.m.kAt a<=1:=by rw[<-hka,<-hkx,h1k];decide
    have:=im.even hk1
    have:=(S.sound.two a hsa hk1).2
    omega
   ·exact .inl h1k
  exact⟨(S.ok.seg _).words _,S.sound.good _ hai.1 hz.1,λho=> .step (t.reach a b h1) h2 hz ho⟩
theorem Tri.set(S:dT Z g F0)(t:Tri Z F0 fw al s sz){x v:Int}(h:Was Z fw x v)(hs:s.mem.strong x)(hd:Dn Z.O fw v)(hw:aH (Fw Z.O fw v)):Tri Z F0 fw al {s with mem:=s.mem.set x (Fw Z.O fw v)} sz/\Done Z fw {s with mem:=s.mem.set x (Fw Z.O fw v)} x:=by
 obtain⟨hu,ho⟩:=t.usedOf h
 have sm:=aZ.set s.mem x (Fw Z.O fw v)
 have hget: ∀y,0<=y->(s.mem.set x (Fw Z.O fw v)).get y=if y=x then Fw Z.O fw v else s.mem.get y:=λy hy=>Mem.set_get y hy hu.1
 have hk: ∀y,(s.mem.set x (Fw Z.O fw v)).kAt y=s.mem.kAt y/\(s.mem.set x (Fw Z.O fw v)).gAt y=s.mem.gAt y:=λy=>⟨(sm.seg _).2.1,(sm.seg _).1⟩
 have hstr: ∀y,(s.mem.set x (Fw Z.O fw v)).strong y ↔ s.mem.strong y:=λy=>by unfold Mem.strong;rw[(hk y).1]
 obtain⟨c,hcap⟩:=t.cap
 have hne: ∀y,Z.O (y / 64).toNat=true->y≠x:=λy hy e=>by rw[e,ho]at hy;cases hy
 refine⟨⟨t.ok.withMem (t.ok.mem.set x hw) (λk q=>Mem.set_has.2 q) (λk=>⟨(sm.seg k).1,(sm.seg k).2.1⟩),sm.even t.even,t.heads.trans sm.heads,λk hk1 hk2=>?_,t.curO,⟨c,?_⟩,t.olds,t.al,λa b hab=>?_,t.inj,t.apart,t.sz0,t.szn,λa b hab=>?_,λy hy hyo hyn=>?_,λy hy=>t.cover y (sm.used.1 hy),λy u hyu=>?_,t.reach⟩,λu hu'=>?_⟩
 ·show((s.mem.set x _).seg k).n=_
  rw[(sm.seg k).2.2.1];exact t.oldN k hk1 hk2
 ·refine⟨?_,hcap.none,λk hk'=>?_⟩
  ·show(s.mem.set x _).free+_=_
   rw[sm.free];exact hcap.free
  ·rw[Sp.fill_same sm];exact hcap.le k hk'
 ·obtain⟨h1,h2⟩:=t.img a b hab
  exact⟨h1,h2.fit,λi hi=>sm.used.2 (h2.here i hi),h2.new,(hk b).2.trans h2.gen,(hk b).1.trans h2.kind,h2.out,h2.even⟩
 ·have ha:=t.olds.mem a ((t.al a).2 ⟨b,hab⟩)
  show(s.mem.set x _).get a=_
  rw[hget a (S.sound.used a ha.1).1.1,if_neg (hne a ha.2)];exact t.word a b hab
 ·show(s.mem.set x _).get y=_
  rw[hget y hy.1,if_neg (hne y hyo)];exact t.keep y hy hyo hyn
 ·show(s.mem.set x _).get y=u\/_
  have hy0:=(t.usedOf hyu).1.1
  rw[hget y hy0]
  by_cases hyx:y=x
  ·rw[if_pos hyx]
   subst hyx
   have:=t.was_one h hyu
   subst this
   exact .inr ⟨(hstr y).2 hs,hd,rfl⟩
  ·rw[if_neg hyx]
   rcases t.val y u hyu with q | ⟨q1,q2,q3⟩
   ·exact .inl q
   ·exact .inr ⟨(hstr y).2 q1,q2,q3⟩
 ·have:=t.was_one h hu'
  subst this
  refine⟨hd,?_⟩
  show(s.mem.set x _).get x=_
  rw[hget x hu.1,if_pos rfl]

structure gP (Z:TZ) (F0:Int) (fw:Int->Option Int) (s s':Sp) (fw':Int->Option Int) (al':List Int) (sz':Int->Nat):Prop where
 tri:Tri Z F0 fw' al' s' sz'
 le:Le fw fw'
 heads:dS s.mem s'.mem
 done: ∀x,s.mem.used x->Z.O (x / 64).toNat=false->Done Z fw s x->Done Z fw' s' x
theorem gP.refl(t:Tri Z F0 fw al s sz):gP Z F0 fw s s fw al sz:=⟨t,Le.refl _,dS.refl _,λ_ _ _ h=>h⟩
theorem gP.trans{s1 s2:Sp}{fw1 fw2:Int->Option Int}{al1 al2:List Int}{sz1 sz2:Int->Nat}(h:gP Z F0 fw s s1 fw1 al1 sz1)(k:gP Z F0 fw1 s1 s2 fw2 al2 sz2):gP Z F0 fw s s2 fw2 al2 sz2:=
 ⟨k.tri,h.le.trans k.le,h.heads.trans k.heads,λx hu ho hd=>k.done x (h.heads.used hu) ho (h.done x hu ho hd)⟩
theorem Done.keep(t:Tri Z F0 fw al s sz){s':Sp}{fw':Int->Option Int}{al':List Int}{sz':Int->Nat}(t':Tri Z F0 fw' al' s' sz')(l:Le fw fw'){x:Int}(hu:s.mem.used x)(ho:Z.O (x / 64).toNat=false)(hg:s'.mem.get x=s.mem.get x)(h:Done Z fw s x):Done Z fw' s' x:=λv hv=>by
 obtain⟨v0,hv0⟩:=t.was hu ho
 have:=t'.was_one (hv0.mono l) hv
 subst this
 obtain⟨h1,h2⟩:=h v0 hv0
 exact⟨h1.mono l,by rw[hg,h2,mJ h1 l]⟩
theorem Tri.fw_word(S:dT Z g F0)(t:Tri Z F0 fw al s sz){v:Int}(hw:aH v):aH (Fw Z.O fw v):=by
 by_cases ho:aQ Z.O v
 ·cases hf:fw (v / 8)with
  | none=>unfold Fw;rw[if_pos ho,hf];exact hw
  | some b=>
   rw[gu ho hf]
   have im:=(t.img _ _ hf).2
   have hsa:=(t.olds.mem _ ((t.al _).2 ⟨b,hf⟩)).1
   have hb0:s.mem.used b:=by simpa using im.here 0 (by omega)
   have hl:=t.ok.mem.lim
   have h1:=hb0.2.1.2.1
   have h2:=hb0.1
   exact⟨by omega,by omega⟩
 ·rw[iM ho];exact hw
theorem Tri.lookAt(S:dT Z g F0)(t:Tri Z F0 fw al s sz){x:Int}(hu:s.mem.used x)(ho:Z.O (x / 64).toNat=false)(hs:s.mem.strong x): ∃fw' al' sz',gP Z F0 fw s (s.lookAt Z.O Z.T x) fw' al' sz'/\Done Z fw' (s.lookAt Z.O Z.T x) x:=by
 obtain⟨v,hv⟩:=t.was hu ho
 obtain⟨vw,vg,vr⟩:=t.was_good S hv hs
 have hrd:s.mem.read x=s.mem.get x:=by unfold Mem.read;rw[if_pos hu]
 have main: ∃(s1:Sp) (v1:Int) (fw':Int->Option Int) (al':List Int) (sz':Int->Nat),s.visit Z.O Z.T (s.mem.read x)=(s1,v1)/\Tri Z F0 fw' al' s1 sz'/\Le fw fw'/\Dn Z.O fw' v/\v1=Fw Z.O fw' v/\(∀y,s.mem.used y->Z.O (y / 64).toNat=false->s1.mem.get y=s.mem.get y)/\dS s.mem s1.mem:=by
  rw[hrd]
  have first:s.mem.get x=v-> ∃(s1:Sp) (v1:Int) (fw':Int->Option Int) (al':List Int) (sz':Int->Nat),s.visit Z.O Z.T (s.mem.get x)=(s1,v1)/\Tri Z F0 fw' al' s1 sz'/\Le fw fw'/\Dn Z.O fw' v/\v1=Fw Z.O fw' v/\(∀y,s.mem.used y->Z.O (y / 64).toNat=false->s1.mem.get y=s.mem.get y)/\dS s.mem s1.mem:=λe=>by
   rw[e]
   obtain⟨fw',al',sz',V⟩:=t.visit S vw vg vr
   exact⟨_,_,fw',al',sz',rfl,V.tri,V.le,V.dn,V.val,V.rest,V.heads⟩
  rcases t.val x v hv with e | ⟨_,e2,e3⟩
  ·exact first e
  ·by_cases hold:aQ Z.O v
   ·obtain⟨b,hb⟩:=e2 hold
    have im:=(t.img _ _ hb).2
    have hno: ¬aQ Z.O (s.mem.get x):=λq=>by
     rw[e3,gu hold hb]at q
     have h3:=q.2.2
     rw[show(b*8+v % 8) / 8=b by omega,im.out]at h3
     cases h3
    exact⟨s,s.mem.get x,fw,al,sz,Sp.visit_no hno,t,Le.refl _,e2,e3,λ_ _ _=>rfl,dS.refl _⟩
   ·exact first (by rw[e3,iM hold])
 obtain⟨s1,v1,fw',al',sz',hvis,t1,hle,hdn,hv1,hrest,hheads⟩:=main
 have hu1:=hheads.used hu
 have hs1:s1.mem.strong x:=by
  have:=(hheads.seg _ hu.2.1.2.2).2.1
  unfold Mem.strong Mem.kAt at*;rw[this];exact hs
 obtain⟨t2,d2⟩:=t1.set S (hv.mono hle) hs1 hdn (t1.fw_word S vw)
 have hla:s.lookAt Z.O Z.T x={s1 with mem:=s1.mem.set x (Fw Z.O fw' v)}:=by
  unfold Sp.lookAt
  rw[hvis]
  show({s1 with mem:=s1.mem.wr x v1}:Sp)=_
  unfold Mem.wr
  rw[if_pos hu1,hv1]
 rw[hla]
 refine⟨fw',al',sz',⟨t2,hle,hheads.trans (aZ.set _ _ _).heads,λy hy hyo hd=>?_⟩,d2⟩
 by_cases hyx:y=x
 ·rw[hyx];exact d2
 ·refine Done.keep t t2 hle hy hyo ?_ hd
  show(s1.mem.set x _).get y=_
  rw[Mem.set_get y hy.1 hu.1,if_neg hyx];exact hrest y hy hyo

theorem Tri.look(S:dT Z g F0)(t:Tri Z F0 fw al s sz){k lo:Int}(hk:0<=k)(hlo:0<=lo)(ho:Z.O k.toNat=false): ∀n:Nat,lo+n<=64->(∀i:Int,lo<=i->i<lo+n->s.mem.used (k*64+i))->
  ∃fw' al' sz',gP Z F0 fw s (s.look Z.O Z.T k (s.mem.seg k.toNat).kind lo n) fw' al' sz'/\ ∀i:Int,lo<=i->i<lo+n->s.mem.strong (k*64+i)->Done Z fw' (s.look Z.O Z.T k (s.mem.seg k.toNat).kind lo n) (k*64+i)
 | 0,_,_=>⟨fw,al,sz,gP.refl t,λi h1 h2=>by omega⟩
 | n+1,hn,hu=>by
  obtain⟨fw1,al1,sz1,L,hd⟩:=Tri.look S t hk hlo ho n (by omega) (λi h1 h2=>hu i h1 (by omega))
  have hun:=hu (lo+n) (by omega) (by omega)
  have eo:Z.O ((k*64+(lo+n)) / 64).toNat=false:=by rw[show(k*64+(lo+(n:Int))) / 64=k by omega];exact ho
  have oo: ∀i:Int,lo<=i->i<lo+(n+1:Nat)->Z.O ((k*64+i) / 64).toNat=false:=λi h1 h2=>by rw[show(k*64+i) / 64=k by omega];exact ho
  unfold Sp.look
  by_cases hl:looks (s.mem.seg k.toNat).kind (lo+n)
  ·rw[if_pos hl]
   have hst:=(iL (m:=s.mem) (by omega) hk).1 hl
   have hst1:(s.look Z.O Z.T k (s.mem.seg k.toNat).kind lo n).mem.strong (k*64+(lo+n)):=by
    have:=(L.heads.seg _ hun.2.1.2.2).2.1
    unfold Mem.strong Mem.kAt at*;rw[this];exact hst
   obtain⟨fw2,al2,sz2,L2,d2⟩:=L.tri.lookAt S (L.heads.used hun) eo hst1
   refine⟨fw2,al2,sz2,L.trans L2,λi h1 h2 h3=>?_⟩
   by_cases hi:i=lo+n
   ·rw[hi];exact d2
   ·exact L2.done _ (L.heads.used (hu i h1 (by omega))) (oo i h1 (by omega)) (hd i h1 (by omega) h3)
  ·rw[if_neg hl]
   refine⟨fw1,al1,sz1,L,λi h1 h2 h3=>?_⟩
   by_cases hi:i=lo+n
   ·exact absurd ((iL (m:=s.mem) (by omega) hk).2 (hi▸h3)) hl
   ·exact hd i h1 (by omega) h3

def oY(Z:TZ)(c:Int×Int):Prop:=Z.m.has c.1/\Z.O c.1.toNat=false/\0<=c.2/\c.2<4
end
