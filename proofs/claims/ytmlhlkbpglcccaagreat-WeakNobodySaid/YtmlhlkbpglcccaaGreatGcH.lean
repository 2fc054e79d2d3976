/-
 Behind a trace a memory is sound again, and its cards are marked. Proves nothing of any one statement.
-/
import Derived.Test.YtmlhlkbpglcccaaGreatGcE
set_option linter.unusedVariables false
set_option linter.unusedSimpArgs false
namespace Go.Proofs.YtmlhlkbpglcccaaGreat
open Go

structure Unm (m m':Mem):Prop where
 limit:m'.limit=m.limit
 seg: ∀i,(m'.seg i).gen=(m.seg i).gen/\(m'.seg i).kind=(m.seg i).kind/\(m'.seg i).n=(m.seg i).n/\(m'.seg i).taken=(m.seg i).taken/\(m'.seg i).words=(m.seg i).words
theorem Unm.refl(m:Mem):Unm m m:=⟨rfl,λ_=>⟨rfl,rfl,rfl,rfl,rfl⟩⟩
theorem Unm.trans{a b c:Mem}(h:Unm a b)(k:Unm b c):Unm a c:=⟨k.limit.trans h.limit,λi=>by
 obtain⟨h1,h2,h3,h4,h5⟩:=h.seg i
 obtain⟨k1,k2,k3,k4,k5⟩:=k.seg i
 exact⟨k1.trans h1,k2.trans h2,k3.trans h3,k4.trans h4,k5.trans h5⟩⟩
theorem Unm.again(m:Mem)(k c:Int):Unm m (m.again k c):=by
 obtain⟨h1,_,_,h2⟩:=m.again_seg k c
 exact⟨h1,h2⟩
theorem Unm.has{m m':Mem}(h:Unm m m'){k:Int}:m'.has k ↔ m.has k:=by unfold Mem.has;rw[h.limit,(h.seg _).2.2.2.1]
theorem Unm.used{m m':Mem}(h:Unm m m'){x:Int}:m'.used x ↔ m.used x:=by unfold Mem.used;rw[h.has,(h.seg _).2.2.1]
theorem Unm.get{m m':Mem}(h:Unm m m')(x:Int):m'.get x=m.get x:=by unfold Mem.get;rw[(h.seg _).2.2.2.2]
theorem Unm.genOf{m m':Mem}(h:Unm m m')(w:Int):m'.genOf w=m.genOf w:=by
 unfold Mem.genOf
 rw[(h.seg _).1]
 have e:m'.has (w / 8 / 64) ↔ m.has (w / 8 / 64):=h.has
 by_cases q:eC w/\w % 8≠6
 ·rw[if_pos q,if_pos q]
  by_cases hh:m.has (w / 8 / 64)
  ·rw[if_pos hh,if_pos (e.2 hh),zX hh,zX (e.2 hh)]
  ·rw[if_neg hh,if_neg (λr=>hh (e.1 r)),zQ hh,zQ (λr=>hh (e.1 r))]
 ·rw[if_neg q,if_neg q]
theorem Unm.younger{m m':Mem}(h:Unm m m')(i:Nat)(w mk:Int):m'.younger (m'.seg i) w mk=m.younger (m.seg i) w mk:=by
 unfold Mem.younger
 rw[h.genOf,(h.seg i).1,(h.seg i).2.1]
theorem Unm.markOf{m m':Mem}(h:Unm m m')(k c:Int): ∀n,m'.markOf k c n=m.markOf k c n
 | 0=>rfl
 | n+1=>by rw[Mem.markOf_succ,Mem.markOf_succ,h.younger,h.get,Unm.markOf h k c n]
theorem Unm.cardLen{m m':Mem}(h:Unm m m')(k c:Int):m'.cardLen k c=m.cardLen k c:=by unfold Mem.cardLen;rw[(h.seg _).2.2.1]
def Mem.mark1(m:Mem)(k c:Int):Int:=m.markOf k c (m.cardLen k c)
theorem Mem.younger_le(m:Mem)(sg:Seg)(w mk:Int):m.younger sg w mk<=mk:=by unfold Mem.younger;split<;>omega
section
variable {Z:TZ} {g F0:Int} {fw:Int->Option Int} {al:List Int} {s:Sp} {sz:Int->Nat}
structure mK (Z:TZ) (fw:Int->Option Int) (s s':Sp):Prop where
 same:aZ s.mem s'.mem
 cur:s'.cur=s.cur
 ok:SpOK s'
 strong: ∀x,s.mem.used x->Z.O (x / 64).toNat=false-> ¬(s.mem.kAt x=1/\x % 2=0)->s'.mem.get x=s.mem.get x
 weak: ∀x,s.mem.used x->Z.O (x / 64).toNat=false->s.mem.kAt x=1->x % 2=0->s'.mem.get x=44\/ ∀v,Was Z fw x v->Dn Z.O fw v/\s'.mem.get x=Fw Z.O fw v
structure Ended (Z:TZ) (tr:Tr) (s:Sp) (m:Mem):Prop where
 limit:m.limit=s.mem.limit
 seg: ∀k,Z.O k=false->(m.seg k).gen=(s.mem.seg k).gen/\(m.seg k).kind=(s.mem.seg k).kind/\(m.seg k).n=(s.mem.seg k).n/\(m.seg k).taken=(s.mem.seg k).taken/\(m.seg k).words=(s.mem.seg k).words
 gone: ∀k:Nat,k<1024->Z.O k=true->(m.seg k).taken=0
 cards: ∀i j:Nat,Z.O i=false->(m.seg i).cards j=if((i:Int),(j:Int))∈tr.cards/\s.mem.has i/\j<4 then m.mark1 i j else(s.mem.seg i).cards j
theorem Ended.used{tr:Tr}{m:Mem}(S:dT Z g F0)(h:Ended Z tr s m)(hl:s.mem.limit=Z.m.limit){x:Int}:m.used x ↔ s.mem.used x/\Z.O (x / 64).toNat=false:=by
 have hlim:=S.ok.lim
 constructor
 ·rintro⟨h1,h2,h3⟩
  have hlt:(x / 64).toNat<1024:=by have:=h2.2.1;rw[h.limit,hl]at this;omega
  have ho:Z.O (x / 64).toNat=false:=by
   by_cases q:Z.O (x / 64).toNat=true
   ·exact absurd (h.gone _ hlt q) h2.2.2
   ·simpa using q
  obtain⟨_,_,q3,q4,_⟩:=h.seg _ ho
  exact⟨⟨h1,⟨h2.1,by rw[<-h.limit];exact h2.2.1,by rw[<-q4];exact h2.2.2⟩,by rw[<-q3];exact h3⟩,ho⟩
 ·rintro⟨⟨h1,h2,h3⟩,ho⟩
  obtain⟨_,_,q3,q4,_⟩:=h.seg _ ho
  exact⟨h1,⟨h2.1,by rw[h.limit];exact h2.2.1,by rw[q4];exact h2.2.2⟩,by rw[q3];exact h3⟩
theorem Ended.get{tr:Tr}{m:Mem}(h:Ended Z tr s m){x:Int}(ho:Z.O (x / 64).toNat=false):m.get x=s.mem.get x/\m.kAt x=s.mem.kAt x/\m.gAt x=s.mem.gAt x:=by
 obtain⟨q1,q2,_,_,q5⟩:=h.seg _ ho
 exact⟨by unfold Mem.get;rw[q5],q2,q1⟩
def szE(O:Nat->Bool)(sz:Int->Nat)(a:Int):Nat:=if O (a / 64).toNat=true then 0 else sz a
structure eR (Z:TZ) (g F0:Int) (fw:Int->Option Int) (al:List Int) (sz:Int->Nat) (tr:Tr) (s s':Sp) (m:Mem):Prop where
 S:dT Z g F0
 tri:Tri Z F0 fw al s sz
 fin:Fin Z fw s
 roots: ∀v,Z.V v->Dn Z.O fw v
 broke:mK Z fw s s'
 ended:Ended Z tr s' m
 begun:gm Z.m g Z.T tr
 marked:iu Z.m
theorem eR.used{tr:Tr}{s':Sp}{m:Mem}(t:eR Z g F0 fw al sz tr s s' m){x:Int}:m.used x ↔ s.mem.used x/\Z.O (x / 64).toNat=false:=by
 have:=t.ended.used t.S (by rw[t.broke.same.limit,t.tri.heads.limit]) (x:=x)
 rw[this,t.broke.same.used]
theorem eR.kind{tr:Tr}{s':Sp}{m:Mem}(t:eR Z g F0 fw al sz tr s s' m){x:Int}(h:m.used x):m.kAt x=s.mem.kAt x/\m.gAt x=s.mem.gAt x:=by
 obtain⟨_,ho⟩:=t.used.1 h
 obtain⟨_,h2,h3⟩:=t.ended.get ho
 exact⟨h2.trans (t.broke.same.seg _).2.1,h3.trans (t.broke.same.seg _).1⟩
theorem eR.get{tr:Tr}{s':Sp}{m:Mem}(t:eR Z g F0 fw al sz tr s s' m){x v:Int}(hw:Was Z fw x v):m.get x=(if s.mem.kAt x=3 then v else Fw Z.O fw v)/\(s.mem.kAt x≠3->Dn Z.O fw v)\/(m.get x=44/\s.mem.kAt x=1/\x % 2=0):=by
 obtain⟨hu,ho⟩:=t.tri.usedOf hw
 have hg:=(t.ended.get ho).1
 by_cases hwk:s.mem.kAt x=1/\x % 2=0
 ·rw[hg]
  rcases t.broke.weak x hu ho hwk.1 hwk.2 with q | q
  ·exact .inr ⟨q,hwk⟩
  ·left
   rw[if_neg (by rw[hwk.1];decide)]
   exact⟨(q v hw).2,λ_=>(q v hw).1⟩
 ·left
  rw[hg,t.broke.strong x hu ho hwk]
  by_cases h3:s.mem.kAt x=3
  ·rw[if_pos h3]
   refine⟨?_,λq=>absurd h3 q⟩
   rcases t.tri.val x v hw with q | ⟨q,_⟩
   ·exact q
   ·exact absurd h3 q.1
  ·rw[if_neg h3]
   have hst:s.mem.strong x:=⟨h3,by
    by_cases h1:s.mem.kAt x=1
    ·right;have:=λq=>hwk ⟨h1,q⟩;omega
    ·exact .inl h1⟩
   obtain⟨q1,q2⟩:=t.fin x hu ho hst v hw
   exact⟨q2,λ_=>q1⟩
theorem eR.good{tr:Tr}{s':Sp}{m:Mem}(t:eR Z g F0 fw al sz tr s s' m){v:Int}(hw:aH v)(hg:Good Z.m Z.sz v)(hd:Dn Z.O fw v):Good m (szE Z.O sz) (Fw Z.O fw v)/\(fD v->m.used (Fw Z.O fw v / 8)/\szE Z.O sz (Fw Z.O fw v / 8)=Z.sz (v / 8)/\m.kAt (Fw Z.O fw v / 8)=Z.m.kAt (v / 8)/\Z.T<=m.gAt (Fw Z.O fw v / 8))/\Fw Z.O fw v % 8=v % 8:=by
 have S:=t.S
 by_cases ho:aQ Z.O v
 ·obtain⟨b,hb⟩:=hd ho
  obtain⟨h1,h2,h3,h4⟩:=S.oldWord hg ho
  obtain⟨e1,im⟩:=t.tri.img _ _ hb
  rw[gu ho hb]
  have e8:(b*8+v % 8) / 8=b:=by omega
  have e9:(b*8+v % 8) % 8=v % 8:=by omega
  have hub:s.mem.used b:=by simpa using im.here 0 (by omega)
  have hum:m.used b:=t.used.2 ⟨hub,im.out⟩
  have hk:=t.kind hum
  have hsz:szE Z.O sz b=Z.sz (v / 8):=by unfold szE;rw[if_neg (by rw[im.out];decide),e1]
  refine⟨⟨by rw[e9];exact hg.1,λ_=>?_⟩,λ_=>?_,e9⟩
  ·rw[e8,e9,hsz,hk.1,im.kind];exact⟨h1,h4⟩
  ·rw[e8];exact⟨hum,hsz,by rw[hk.1,im.kind],by rw[hk.2,im.gen];exact Int.le_refl _⟩
 ·rw[iM ho]
  have key:fD v->m.used (v / 8)/\szE Z.O sz (v / 8)=Z.sz (v / 8)/\m.kAt (v / 8)=Z.m.kAt (v / 8)/\Z.T<=m.gAt (v / 8):=λht=>by
   obtain⟨h1,h2⟩:=hg.2 ht
   obtain⟨u1,_⟩:=S.sound.used _ h1
   have hlt:=S.lt u1
   have hoo:Z.O (v / 8 / 64).toNat=false:=by
    by_cases q:Z.O (v / 8 / 64).toNat=true
    ·exact absurd ⟨⟨by unfold fD at ht;omega,hlt.2.2⟩,by unfold fD at ht;omega,q⟩ ho
    ·simpa using q
   have hum:m.used (v / 8):=t.used.2 ⟨t.tri.heads.used u1,hoo⟩
   have hk:=t.kind hum
   have hk2:=t.tri.kAt u1
   refine⟨hum,by unfold szE;rw[if_neg (by rw[hoo];decide),t.tri.sz0 _ u1],by rw[hk.1,hk2.1],?_⟩
   rw[hk.2,hk2.2]
   have hr:=S.rng
   rcases Int.lt_or_le g (Z.m.gAt (v / 8))with q | q
   ·omega
   ·have:=(S.old _ hlt.1).2 ⟨by rw[show(((v / 8 / 64).toNat:Nat):Int)=v / 8 / 64 by omega];exact u1.2.1,q⟩
    rw[hoo]at this;cases this
  refine⟨⟨hg.1,λht=>?_⟩,key,rfl⟩
  obtain⟨k1,k2,k3,_⟩:=key ht
  rw[k2,k3];exact hg.2 ht
theorem eR.was{tr:Tr}{s':Sp}{m:Mem}(t:eR Z g F0 fw al sz tr s s' m){x:Int}(h:m.used x): ∃v,Was Z fw x v:=by
 obtain⟨h1,h2⟩:=t.used.1 h
 exact t.tri.was h1 h2
theorem eR.was_good{tr:Tr}{s':Sp}{m:Mem}(t:eR Z g F0 fw al sz tr s s' m){x v:Int}(hw:Was Z fw x v)(hk:s.mem.kAt x≠3):aH v/\Good Z.m Z.sz v:=by
 rcases hw with⟨h1,h2,rfl⟩ | ⟨a,b,i,h1,h2,h3,rfl⟩
 ·exact⟨(t.S.ok.seg _).words _,t.S.sound.good x h1 (by rw[<-(t.tri.kAt h1).1];exact hk)⟩
 ·have im:=(t.tri.img a b h1).2
  have hsa:=(t.tri.olds.mem a ((t.tri.al a).2 ⟨b,h1⟩)).1
  have hai:=t.S.sound.usedAt hsa h2 (λk=>(t.S.ok.seg k).n.2)
  have hf:=im.fit
  refine⟨(t.S.ok.seg _).words _,t.S.sound.good _ hai.1 ?_⟩
  have:s.mem.kAt x=Z.m.kAt (a+i):=by
   unfold Mem.kAt
   rw[h3,show(b+i) / 64=b / 64 by omega,hai.2.1];exact im.kind
  rw[<-this];exact hk
end

section
variable {Z:TZ} {g F0:Int} {fw:Int->Option Int} {al:List Int} {s:Sp} {sz:Int->Nat}
theorem lr{x:Int}(h:gk x)(O:Nat->Bool): ¬aQ O x:=λq=>by have:=h.1;have:=q.1.1;omega
theorem eR.thing{tr:Tr}{s':Sp}{m:Mem}(t:eR Z g F0 fw al sz tr s s' m){b:Int}(h:szE Z.O sz b≠0): ∃a,Z.sz a≠0/\szE Z.O sz b=Z.sz a/\m.kAt b=Z.m.kAt a/\(b % 64+Z.sz a<=(m.seg (b / 64).toNat).n)/\(∀i:Nat,i<Z.sz a->m.used (b+i)/\Was Z fw (b+i) (Z.m.get (a+i))/\(b+i) / 64=b / 64)/\(Z.m.kAt a<=1->b % 2=0)/\((a=b/\Z.m.used a/\Z.O (a / 64).toNat=false)\/fw a=some b):=by
 have S:=t.S
 have hO:Z.O (b / 64).toNat=false:=by
  by_cases q:Z.O (b / 64).toNat=true
  ·exact absurd (by unfold szE;rw[if_pos q]) h
  ·simpa using q
 have e:szE Z.O sz b=sz b:=by unfold szE;rw[if_neg (by rw[hO];decide)]
 rw[e]at h⊢
 rcases t.tri.szn b h with q | ⟨a,hb⟩
 ·have e2:=t.tri.sz0 b q
  rw[e2]at h⊢
  obtain⟨u1,u2⟩:=S.sound.used b h
  have hum:m.used b:=t.used.2 ⟨t.tri.heads.used u1,hO⟩
  have hk:=t.kind hum
  have hk2:=t.tri.kAt u1
  refine⟨b,h,rfl,by rw[hk.1,hk2.1],?_,λi hi=>?_,λhk1=>(S.sound.two b h hk1).2,.inl ⟨rfl,u1,hO⟩⟩
  ·have h1:=(t.ended.seg _ hO).2.2.1
   have h2:=(t.broke.same.seg (b / 64).toNat).2.2.1
   have h3:=(t.tri.heads.seg _ u1.2.1.2.2).2.2.2
   omega
  ·have hai:=S.sound.usedAt h hi (λk=>(S.ok.seg k).n.2)
   exact⟨t.used.2 ⟨t.tri.heads.used hai.1,by rw[hai.2.1];exact hO⟩,.inl ⟨hai.1,by rw[hai.2.1];exact hO,rfl⟩,hai.2.1⟩
 ·obtain⟨e2,im⟩:=t.tri.img a b hb
  have hsa:=(t.tri.olds.mem a ((t.tri.al a).2 ⟨b,hb⟩)).1
  have hf:=im.fit
  have hum: ∀i:Nat,i<Z.sz a->m.used (b+i):=λi hi=>t.used.2 ⟨im.here i hi,by rw[show(b+(i:Int)) / 64=b / 64 by omega];exact im.out⟩
  have hk:=t.kind (by simpa using hum 0 (by omega))
  refine⟨a,hsa,e2,by rw[hk.1,im.kind],?_,λi hi=>⟨hum i hi,.inr ⟨a,b,i,hb,hi,rfl,rfl⟩,by omega⟩,im.even,.inr hb⟩
  have:=(hum (Z.sz a-1) (by omega)).2.2
  rw[show(b+((Z.sz a-1:Nat):Int)) / 64=b / 64 by omega]at this
  omega
theorem eR.sound{tr:Tr}{s':Sp}{m:Mem}(t:eR Z g F0 fw al sz tr s s' m):fF m (szE Z.O sz):=by
 have S:=t.S
 refine⟨λb hb=>?_,λa b ha hb hab=>?_,λb hb hk=>?_,λb hb hk=>?_,λx hx hk=>?_⟩
 ·obtain⟨a,h1,h2,h3,h4,h5,_⟩:=t.thing hb
  rw[h2]
  exact⟨by simpa using(h5 0 (by omega)).1,h4⟩
 ·have e: ∀c,szE Z.O sz c≠0->szE Z.O sz c=sz c:=λc hc=>by
   unfold szE at hc⊢
   split
   ·rename_i q;rw[if_pos q]at hc;exact absurd rfl hc
   ·rfl
  rw[e a ha]
  exact t.tri.apart a b (by rw[<-e a ha];exact ha) (by rw[<-e b hb];exact hb) hab
 ·obtain⟨a,h1,h2,h3,h4,h5,h6,_⟩:=t.thing hb
  rw[h3]at hk
  exact⟨by rw[h2];exact(S.sound.two a h1 hk).1,h6 hk⟩
 ·obtain⟨a,h1,h2,h3,h4,h5,h6,_⟩:=t.thing hb
  rw[h3]at hk⊢
  obtain⟨o1,o2,o3⟩:=S.sound.obj a h1 hk
  have h50:=h5 0 (by omega)
  have hw:Was Z fw b (Z.m.get a):=by simpa using h50.2.1
  have hum:m.used b:=by simpa using h50.1
  have hget:m.get b=Z.m.get a:=by
   rcases t.get hw with⟨q,_⟩ | ⟨_,q,_⟩
   ·rw[q]
    split
    ·rfl
    ·exact iM (lr o1 _)
   ·rw[<-(t.kind hum).1,h3]at q;omega
  rw[hget,h2]
  exact⟨o1,o2,o3⟩
 ·obtain⟨v,hv⟩:=t.was hx
  rw[(t.kind hx).1]at hk
  obtain⟨vw,vg⟩:=t.was_good hv hk
  rcases t.get hv with⟨q1,q2⟩ | ⟨q,_⟩
  ·rw[if_neg hk]at q1
   rw[q1]
   exact(t.good vw vg (q2 hk)).1
  ·rw[q]
   exact⟨by decide,λh=>absurd h (by decide)⟩
theorem eR.young{tr:Tr}{s':Sp}{m:Mem}(t:eR Z g F0 fw al sz tr s s' m){x v:Int}(hw:Was Z fw x v)(hk:s.mem.kAt x≠3)(hT:m.gAt x=Z.T): ¬((m.genOf (m.get x)).2=true/\(m.genOf (m.get x)).1<m.gAt x):=by
 obtain⟨vw,vg⟩:=t.was_good hw hk
 rcases t.get hw with⟨q1,q2⟩ | ⟨q,_⟩
 ·rw[if_neg hk]at q1
  rw[q1]
  obtain⟨_,g2,g3⟩:=t.good vw vg (q2 hk)
  rintro⟨r1,r2⟩
  unfold Mem.genOf at r1 r2
  by_cases ha:eC (Fw Z.O fw v)/\Fw Z.O fw v % 8≠6
  ·rw[if_pos ha]at r1 r2
   have ht:fD v:=by have:=ha.1.1;have:=ha.2;unfold fD;omega
   obtain⟨k1,_,_,k4⟩:=g2 ht
   simp only[if_pos k1.2.1]at r2
   rw[hT]at r2
   have r3:m.gAt (Fw Z.O fw v / 8)<Z.T:=r2
   omega
  ·rw[if_neg ha]at r1;cases r1
 ·rw[q]
  rintro⟨r1,_⟩
  unfold Mem.genOf at r1
  rw[if_neg (by decide)]at r1
  cases r1
end

structure Inv (s:Sp) (sz:Int->Nat):Prop where
 ok:SpOK s
 even:s.mem.Even
 sound:fF s.mem sz
 marked:iu s.mem
theorem jV{m m':Mem}(hh: ∀k,m'.has k ↔ m.has k)(hg: ∀i,(m'.seg i).gen=(m.seg i).gen)(w:Int):m'.genOf w=m.genOf w:=by
 unfold Mem.genOf
 rw[hg]
 by_cases q:eC w/\w % 8≠6
 ·rw[if_pos q,if_pos q]
  have e:=hh (w / 8 / 64)
  by_cases h:m.has (w / 8 / 64)
  ·rw[if_pos h,if_pos (e.2 h),zX h,zX (e.2 h)]
  ·rw[if_neg h,if_neg (λr=>h (e.1 r)),zQ h,zQ (λr=>h (e.1 r))]
 ·rw[if_neg q,if_neg q]
theorem kx{m:Mem}{v:Int}(h: ¬fD v):m.genOf v=(0,false):=by
 unfold Mem.genOf
 rw[if_neg (λq=>h (by have:=q.1.1;have:=q.2;unfold fD;omega))]
theorem mf{m m':Mem}{sz:Int->Nat}(hs:fF m sz)(hd:dS m m'){v:Int}(hg:Good m sz v):m'.genOf v=m.genOf v:=by
 by_cases ht:fD v
 ·obtain⟨h1,_⟩:=hs.used _ (hg.2 ht).1
  have hh:=h1.2.1
  unfold Mem.genOf
  by_cases q:eC v/\v % 8≠6
  ·rw[if_pos q,if_pos q,if_pos hh,if_pos (hd.has hh),zX hh,zX (hd.has hh),(hd.seg _ hh.2.2).1]
  ·rw[if_neg q,if_neg q]
 ·rw[kx ht,kx ht]
theorem ky{m:Mem}(ok:bI m)(v:Int):0<=(m.genOf v).1/\(m.genOf v).1<=4:=by
 unfold Mem.genOf
 split
 ·split
  ·exact(ok.seg _).gen
  ·exact⟨Int.le_refl _,by show(0:Int)<=4;decide⟩
 ·exact⟨Int.le_refl _,by show(0:Int)<=4;decide⟩

theorem mg{s:Sp}{g k n:Int}(h:(s.alloc g k n).2.2=0):may g k n:=by
 by_cases hm:may g k n
 ·exact hm
 ·unfold Sp.alloc at h
  rw[if_pos hm]at h
  exact absurd h (by show ¬((1:Int)=0);decide)

def Lift(m:Mem)(sz:Int->Nat)(m':Mem)(sz':Int->Nat):Prop:= ∀v,Good m sz v->Good m' sz' v
theorem Lift.refl(m:Mem)(sz:Int->Nat):Lift m sz m sz:=λ_ h=>h
theorem Lift.trans{a b c:Mem}{x y z:Int->Nat}(h:Lift a x b y)(k:Lift b y c z):Lift a x c z:=λv q=>k v (h v q)
theorem Inv.put{s:Sp}{sz:Int->Nat}(I:Inv s sz){kind tag:Int}{ws:List Int}(hkr:0<=kind/\kind<=3)(ht:tag=tagK kind)(hw: ∀w∈ws,aH w)(hP:kind<=1->ws.length=2)(hO:2<=kind-> ∃hd fs,ws=hd::fs/\gk hd/\rawK (hk hd)=kind/\hn hd=fs.length)
  (hG:kind≠3-> ∀w∈ws,Good s.mem sz w):
  ∃sz',Inv (s.put kind tag ws).1 sz'/\Lift s.mem sz (s.put kind tag ws).1.mem sz'/\((s.put kind tag ws).2.2=0->aH (s.put kind tag ws).2.1/\Good (s.put kind tag ws).1.mem sz' (s.put kind tag ws).2.1)/\(s.put kind tag ws).1.cf=s.cf:=by
 have ht':tag=1\/tag=2\/tag=3\/tag=6:=by
  rw[ht];unfold tagK
  split
  ·exact .inl rfl
  split
  ·exact .inr (.inl rfl)
  ·exact .inr (.inr (.inl rfl))
 by_cases hf:(s.alloc 0 kind ws.length).2.2=0
 case neg=>
  have e:s.put kind tag ws=(s,0,(s.alloc 0 kind ws.length).2.2):=by unfold Sp.put;rw[if_neg hf]
  rw[e]
  exact⟨sz,I,Lift.refl _ _,λh=>absurd h hf,rfl⟩
 have hmay:=mg hf
 obtain⟨a,e1,gr,e2,ok2,a64,_⟩:=Sp.put_ok I.ok hmay ht' hw hf
 obtain⟨kp,hget,hused⟩:=gr.lay I.ok.mem
 have sm:=aZ.sets ws (s.alloc 0 kind ws.length).1.mem a
 obtain⟨ev,ev2⟩:=gr.even I.even (λh=>by rw[hP h];rfl)
 have hcf:=Sp.alloc_cf s 0 kind ws.length
 have hcf2:(s.put kind tag ws).1.cf=s.cf:=by
  unfold Sp.cf at hcf⊢
  rw[e2,sm.count,sm.free];exact hcf
 rw[e1]
 generalize (s.put kind tag ws).1=s2 at*
 generalize (s.alloc 0 kind ws.length).1.mem=m1 at*
 rw[<-e2]at hget hused kp sm
 generalize hm2:s2.mem=m2 at*
 obtain⟨a0,a1,a2⟩:=gr.addr
 have hn1:1<=ws.length/\ws.length<=63:=by have:=hmay.2;omega
 have hd:dS s.mem m2:=(gr.heads (by omega)).trans sm.heads
 have hui: ∀x,m2.used x ↔ s.mem.used x\/(a<=x/\x<a+ws.length):=λx=>by rw[sm.used,gr.usedIff (by omega)]
 have hget0: ∀x,s.mem.used x->m2.get x=s.mem.get x:=λx hx=>(kp.used x hx).2.1
 have hk0: ∀x,s.mem.used x->m2.kAt x=s.mem.kAt x/\m2.gAt x=s.mem.gAt x:=λx hx=>⟨(kp.used x hx).2.2.1,(kp.used x hx).2.2.2.1⟩
 have hgetn: ∀i:Nat,(h:i<ws.length)->m2.get (a+i)=ws[i]:=λi h=>by
  rw[hget _ (by omega),if_pos ⟨by omega,by omega⟩,show(a+(i:Int)-a).toNat=i by omega]
  simp[h]
 have hkn: ∀i:Nat,i<ws.length->m2.kAt (a+i)=kind/\m2.gAt (a+i)=0:=λi h=>by
  have e64:(a+(i:Int)) / 64=a / 64:=by omega
  unfold Mem.kAt Mem.gAt
  rw[e64,(sm.seg _).2.1,(sm.seg _).1]
  exact⟨gr.new.2.2.1,gr.new.2.1⟩
 have hnot: ∀i:Nat,i<ws.length-> ¬s.mem.used (a+i):=λi hi hu=>gr.not_in hu ⟨by omega,by omega⟩
 have hnota: ¬s.mem.used a:=by have:=hnot 0 (by omega);simpa using this
 have hza: ∀b,sz b≠0->b≠a:=λb hb e=>hnota (e▸(I.sound.used b hb).1)
 have S:=I.sound
 have hin: ∀x,m2.used x-> ¬s.mem.used x-> ∃i:Nat,i<ws.length/\x=a+i:=λx hx hn=>by
  rcases(hui x).1 hx with q | q
  ·exact absurd q hn
  ·exact⟨(x-a).toNat,by omega,by omega⟩
 have hkA:m2.kAt a=kind:=by simpa using(hkn 0 (by omega)).1
 have hgA:m2.get a=ws[0]'(by omega):=by simpa using hgetn 0 (by omega)
 have lift:Lift s.mem sz m2 (λx=>if x=a then ws.length else sz x):=λv hv=>⟨hv.1,λhtg=>by
  obtain⟨h1,h2⟩:=hv.2 htg
  show(if v / 8=a then ws.length else sz (v / 8))≠0/\_
  rw[if_neg (hza _ h1),(hk0 _ (S.used _ h1).1).1]
  exact⟨h1,h2⟩⟩
 refine⟨λx=>if x=a then ws.length else sz x,⟨ok2,hm2▸sm.even ev,?_,?_⟩,hm2▸lift,λ_=>⟨⟨by show 0<=a*8+tag;omega,by show a*8+tag<_;omega⟩,?_⟩,hcf2⟩
 ·-- sound
  rw[hm2]
  refine⟨λb hb=>?_,λb b' hb hb' hlt=>?_,λb hb hkb=>?_,λb hb hkb=>?_,λx hx hkx=>?_⟩
  ·by_cases e:b=a
   ·subst e
    rw[if_pos rfl]
    refine⟨(hui b).2 (.inr ⟨by omega,by omega⟩),?_⟩
    rw[(sm.seg _).2.2.1,gr.new.2.2.2];omega
   ·rw[if_neg e]at hb⊢
    obtain⟨u1,u2⟩:=S.used b hb
    have:=(kp.used b u1).2.2.2.2
    exact⟨(hui b).2 (.inl u1),by omega⟩
  ·by_cases e:b=a
   ·subst e
    rw[if_pos rfl]
    rw[if_neg (by omega)]at hb'
    have:=gr.not_in (S.used b' hb').1
    omega
   ·rw[if_neg e]at hb⊢
    by_cases e':b'=a
    ·subst e'
     rcases Int.lt_or_le b' (b+sz b)with q | q
     ·exfalso
      have hai:=S.usedAt hb (i:=(b'-b).toNat) (by omega) (λk=>(I.ok.mem.seg k).n.2)
      rw[show b+(((b'-b).toNat:Nat):Int)=b' by omega]at hai
      exact hnota hai.1
     ·exact q
    ·rw[if_neg e']at hb'
     exact S.apart b b' hb hb' hlt
  ·by_cases e:b=a
   ·subst e
    rw[if_pos rfl]
    rw[hkA]at hkb
    exact⟨hP hkb,ev2 hkb⟩
   ·rw[if_neg e]at hb⊢
    rw[(hk0 b (S.used b hb).1).1]at hkb
    exact S.two b hb hkb
  ·by_cases e:b=a
   ·subst e
    rw[if_pos rfl]
    rw[hkA]at hkb⊢
    obtain⟨hd',fs,e3,o1,o2,o3⟩:=hO hkb
    have:m2.get b=hd':=by rw[hgA];simp[e3]
    rw[this]
    refine⟨o1,o2.symm,?_⟩
    rw[e3,o3];simp
   ·rw[if_neg e]at hb⊢
    have u1:=(S.used b hb).1
    rw[(hk0 b u1).1]at hkb⊢
    rw[hget0 b u1]
    exact S.obj b hb hkb
  ·by_cases hu:s.mem.used x
   ·rw[(hk0 x hu).1]at hkx
    rw[hget0 x hu]
    exact lift _ (S.good x hu hkx)
   ·obtain⟨i,hi,rfl⟩:=hin x hx hu
    rw[(hkn i hi).1]at hkx
    rw[hgetn i hi]
    exact lift _ (hG hkx _ (List.getElem_mem hi))
 ·-- marked
  rw[hm2]
  intro x hx hkx h1 h2
  by_cases hu:s.mem.used x
  ·obtain⟨k1,k2⟩:=hk0 x hu
   rw[hget0 x hu]at h1 h2⊢
   rw[k1]at hkx
   have hg:=S.good x hu hkx
   have e:=mf S hd hg
   rw[e]at h1 h2⊢
   rw[k2]at h2
   rw[hd.cards _ hu.2.1.2.2]
   exact I.marked x hu hkx h1 h2
  ·obtain⟨i,hi,rfl⟩:=hin x hx hu
   rw[(hkn i hi).2]at h2
   have:=(ky (hm2▸ok2.mem) (m2.get (a+i))).1
   omega
 ·-- the new thing
  show Good m2 _ (a*8+tag)
  have e8:(a*8+tag) / 8=a:=by omega
  have em:(a*8+tag) % 8=tag:=by omega
  have h6:tag≠6:=by rw[ht];unfold tagK;split<;>(try split)<;>decide
  refine⟨by rw[em];exact h6,λ_=>?_⟩
  rw[e8,em,hkA]
  show(if a=a then ws.length else sz a)≠0/\_
  rw[if_pos rfl]
  exact⟨by omega,ht⟩

theorem Mem.store_cards{m:Mem}(ok:bI m){x v:Int}(hu:m.used x)(hv:aH v)(j c:Nat):((m.store x v).1.seg j).cards c=if j=(x / 64).toNat/\c=(x % 64 / 16).toNat then m.younger (m.seg j) v ((m.seg j).cards c)else(m.seg j).cards c:=by
 have hx:=hu.1
 have sm:=aZ.set m x v
 have okm:bI (m.set x v):=ok.set x hv
 have hy:(m.set x v).younger ((m.set x v).seg (x / 64).toNat) v (((m.set x v).seg (x / 64).toNat).cards (x % 64 / 16).toNat)=m.younger (m.seg (x / 64).toNat) v ((m.seg (x / 64).toNat).cards (x % 64 / 16).toNat):=by
  unfold Mem.younger
  rw[jV (λk=>sm.has) (λi=>(sm.seg i).1),(sm.seg _).1,(sm.seg _).2.1,(sm.seg _).2.2.2.2]
 have hr:0<=m.younger (m.seg (x / 64).toNat) v ((m.seg (x / 64).toNat).cards (x % 64 / 16).toNat)/\m.younger (m.seg (x / 64).toNat) v ((m.seg (x / 64).toNat).cards (x % 64 / 16).toNat)<=5:=by
  have h1:=(ok.seg (x / 64).toNat).cards (x % 64 / 16).toNat
  have h2:=ky ok v
  unfold Mem.younger
  split<;>omega
 unfold Mem.store
 rw[if_pos hu,hy]
 unfold Mem.mark
 rw[if_neg (λq=>q (sm.has.2 hu.2.1)),if_neg (by omega)]
 show(((m.set x v).upd _ _).seg j).cards c=_
 rw[Mem.upd_seg]
 by_cases hj:j=(x / 64).toNat
 ·rw[if_pos hj]
  show(if c=(x % 64 / 16).toNat then _ else((m.set x v).seg (x / 64).toNat).cards c)=_
  by_cases hc:c=(x % 64 / 16).toNat
  ·rw[if_pos hc,if_pos ⟨hj,hc⟩,hj,hc]
  ·rw[if_neg hc,if_neg (λq=>hc q.2),hj,(sm.seg _).2.2.2.2]
 ·rw[if_neg hj,if_neg (λq=>hj q.1),(sm.seg _).2.2.2.2]
theorem Inv.store{s:Sp}{sz:Int->Nat}(I:Inv s sz){x v:Int}(hv:aH v)(hg:Good s.mem sz v)(hh: ∀a,sz a≠0->2<=s.mem.kAt a->x≠a):Inv {s with mem:=(s.mem.store x v).1} sz/\Lift s.mem sz (s.mem.store x v).1 sz/\({s with mem:=(s.mem.store x v).1}:Sp).cf=s.cf:=by
 by_cases hu:s.mem.used x
 case neg=>
  have e:s.mem.store x v=(s.mem,18):=by unfold Mem.store;rw[if_neg hu]
  rw[e];exact⟨I,Lift.refl _ _,rfl⟩
 have S:=I.sound
 have hx0:=hu.1
 have hget: ∀y,0<=y->(s.mem.store x v).1.get y=if y=x then v else s.mem.get y:=λy hy=>Mem.store_get hu y hy
 have hkA: ∀y,(s.mem.store x v).1.kAt y=s.mem.kAt y:=λy=>(Mem.store_seg _).2.1
 have hgA: ∀y,(s.mem.store x v).1.gAt y=s.mem.gAt y:=λy=>(Mem.store_seg _).1
 have hgen: ∀w,(s.mem.store x v).1.genOf w=s.mem.genOf w:=λw=>jV (λk=>Mem.store_has) (λi=>(Mem.store_seg i).1) w
 have lift:Lift s.mem sz (s.mem.store x v).1 sz:=λw h=>⟨h.1,λht=>by rw[hkA];exact h.2 ht⟩
 refine⟨⟨I.ok.store x hv,I.even.store x v,?_,?_⟩,lift,?_⟩
 ·show fF (s.mem.store x v).1 sz
  refine⟨λb hb=>?_,S.apart,λb hb hk=>S.two b hb (by rw[<-hkA];exact hk),λb hb hk=>?_,λy hy hk=>?_⟩
  ·rw[Mem.store_used,(Mem.store_seg _).2.2];exact S.used b hb
  ·rw[hkA]at hk⊢
   have b0:=(S.used b hb).1.1
   rw[hget b b0,if_neg (λe=>hh b hb hk e.symm)]
   exact S.obj b hb hk
  ·rw[Mem.store_used]at hy
   rw[hkA]at hk
   rw[hget y hy.1]
   by_cases e:y=x
   ·rw[if_pos e];exact lift _ hg
   ·rw[if_neg e];exact lift _ (S.good y hy hk)
 ·show iu (s.mem.store x v).1
  intro y hy hk h1 h2
  rw[Mem.store_used]at hy
  rw[hkA]at hk
  rw[hgen]at h1 h2⊢
  rw[hgA]at h2
  rw[hget y hy.1]at h1 h2⊢
  rw[Mem.store_cards I.ok.mem hu hv]
  by_cases hc:(y / 64).toNat=(x / 64).toNat/\(y % 64 / 16).toNat=(x % 64 / 16).toNat
  ·rw[if_pos hc]
   by_cases e:y=x
   ·rw[if_pos e]at h1 h2⊢
    unfold Mem.younger
    rw[if_pos ⟨h1,hk,h2⟩]
    exact Int.min_le_right _ _
   ·rw[if_neg e]at h1 h2⊢
    exact Int.le_trans (Mem.younger_le _ _ _ _) (I.marked y hy hk h1 h2)
  ·rw[if_neg hc]
   have e:y≠x:=λe=>hc (by rw[e];exact⟨rfl,rfl⟩)
   rw[if_neg e]at h1 h2⊢
   exact I.marked y hy hk h1 h2
 ·unfold Sp.cf
  show(s.mem.store x v).1.count+(s.mem.store x v).1.free=_
  rw[Mem.store_lim.2.2,Mem.store_lim.2.1]
