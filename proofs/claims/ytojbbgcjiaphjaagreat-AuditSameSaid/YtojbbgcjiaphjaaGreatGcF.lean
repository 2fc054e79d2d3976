/-
 Behind a trace a memory is sound again, and its cards are marked. Proves nothing of any one statement.
-/
import Derived.Test.YtojbbgcjiaphjaaGreatGcE
set_option linter.unusedVariables false
set_option linter.unusedSimpArgs false
namespace Go.Proofs.YtojbbgcjiaphjaaGreat
open Go

structure Unm (m m':Mem):Prop where
 limit:m'.limit=m.limit
 seg: ∀i,(m'.seg i).gen=(m.seg i).gen/\(m'.seg i).kind=(m.seg i).kind/\(m'.seg i).n=(m.seg i).n/\(m'.seg i).taken=(m.seg i).taken/\(m'.seg i).words=(m.seg i).words
theorem Unm.refl(m:Mem):Unm m m:=⟨rfl,λ_=>⟨rfl,rfl,rfl,rfl,rfl⟩⟩
theorem Unm.trans{a b c:Mem}(h:Unm a b)(k:Unm b c):Unm a c:=⟨k.limit.trans h.limit,λi=>by
 obtain⟨h1,h2,h3,h4,h5⟩:=h.seg i
 obtain⟨k1,k2,k3,k4,k5⟩:=k.seg i
 exact⟨k1.trans h1,k2.trans h2,k3.trans h3,k4.trans h4,k5.trans h5⟩⟩
theorem Unm.again(m:Mem)(k c:Int):Unm m (m.again k c):=by
 obtain⟨h1,_,_,h2⟩:=m.again_seg k c
 exact⟨h1,h2⟩
theorem Unm.has{m m':Mem}(h:Unm m m'){k:Int}:m'.has k ↔ m.has k:=by unfold Mem.has;rw[h.limit,(h.seg _).2.2.2.1]
theorem Unm.used{m m':Mem}(h:Unm m m'){x:Int}:m'.used x ↔ m.used x:=by unfold Mem.used;rw[h.has,(h.seg _).2.2.1]
theorem Unm.get{m m':Mem}(h:Unm m m')(x:Int):m'.get x=m.get x:=by unfold Mem.get;rw[(h.seg _).2.2.2.2]
theorem Unm.genOf{m m':Mem}(h:Unm m m')(w:Int):m'.genOf w=m.genOf w:=by
 unfold Mem.genOf
 rw[(h.seg _).1]
 have e:m'.has (w / 8 / 64) ↔ m.has (w / 8 / 64):=h.has
 by_cases q:hG w/\w % 8≠6
 ·rw[if_pos q,if_pos q]
  by_cases hh:m.has (w / 8 / 64)
  ·rw[if_pos hh,if_pos (e.2 hh),zX hh,zX (e.2 hh)]
  ·rw[if_neg hh,if_neg (λr=>hh (e.1 r)),zQ hh,zQ (λr=>hh (e.1 r))]
 ·rw[if_neg q,if_neg q]
theorem Unm.younger{m m':Mem}(h:Unm m m')(i:Nat)(w mk:Int):m'.younger (m'.seg i) w mk=m.younger (m.seg i) w mk:=by
 unfold Mem.younger
 rw[h.genOf,(h.seg i).1,(h.seg i).2.1]
theorem Unm.markOf{m m':Mem}(h:Unm m m')(k c:Int): ∀n,m'.markOf k c n=m.markOf k c n
 | 0=>rfl
 | n+1=>by rw[Mem.markOf_succ,Mem.markOf_succ,h.younger,h.get,Unm.markOf h k c n]
theorem Unm.cardLen{m m':Mem}(h:Unm m m')(k c:Int):m'.cardLen k c=m.cardLen k c:=by unfold Mem.cardLen;rw[(h.seg _).2.2.1]
def Mem.mark1(m:Mem)(k c:Int):Int:=m.markOf k c (m.cardLen k c)
theorem Mem.again_cards{m:Mem}(ok:bO m)(k c:Int)(i j:Nat):((m.again k c).seg i).cards j=if((i:Int),(j:Int))=(k,c)/\m.has k/\c<4 then m.mark1 k c else(m.seg i).cards j:=by
 unfold Mem.again
 by_cases h:m.has k/\0<=c/\c<4
 ·rw[if_pos h]
  have hr:=Mem.markOf_rng ok k c (m.cardLen k c)
  unfold Mem.mark
  rw[if_neg (λq=>q h.1),if_neg (by omega)]
  show((m.upd _ _).seg i).cards j=_
  rw[Mem.upd_seg]
  have h0:=h.1.1
  by_cases hi:i=k.toNat
  ·rw[if_pos hi]
   show(if j=c.toNat then _ else _)=_
   by_cases hj:j=c.toNat
   ·rw[if_pos hj,if_pos ⟨by rw[Prod.mk.injEq];omega,h.1,h.2.2⟩];rfl
   ·rw[if_neg hj,if_neg (λq=>hj (by have:=(Prod.mk.inj q.1).2;omega)),hi]
  ·rw[if_neg hi,if_neg (λq=>hi (by have:=(Prod.mk.inj q.1).1;omega))]
 ·rw[if_neg h,if_neg (λq=>h ⟨q.2.1,by have:=(Prod.mk.inj q.1).2;omega,q.2.2⟩)]
section
variable {Z:TZ} {g F0:Int} {fw:Int->Option Int} {al:List Int} {s:Sp} {sz:Int->Nat}
structure qS (Z:TZ) (fw:Int->Option Int) (s s':Sp):Prop where
 same:bY s.mem s'.mem
 cur:s'.cur=s.cur
 ok:SpOK s'
 strong: ∀x,s.mem.used x->Z.O (x / 64).toNat=false-> ¬(s.mem.kAt x=1/\x % 2=0)->s'.mem.get x=s.mem.get x
 weak: ∀x,s.mem.used x->Z.O (x / 64).toNat=false->s.mem.kAt x=1->x % 2=0->s'.mem.get x=44\/ ∀v,Was Z fw x v->Dn Z.O fw v/\s'.mem.get x=Fw Z.O fw v
structure nm (Z:TZ) (tr:Tr) (s:Sp) (m:Mem):Prop where
 limit:m.limit=s.mem.limit
 seg: ∀k,Z.O k=false->(m.seg k).gen=(s.mem.seg k).gen/\(m.seg k).kind=(s.mem.seg k).kind/\(m.seg k).n=(s.mem.seg k).n/\(m.seg k).taken=(s.mem.seg k).taken/\(m.seg k).words=(s.mem.seg k).words
 gone: ∀k:Nat,k<1024->Z.O k=true->(m.seg k).taken=0
 cards: ∀i j:Nat,Z.O i=false->(m.seg i).cards j=if((i:Int),(j:Int))∈tr.cards/\s.mem.has i/\j<4 then m.mark1 i j else(s.mem.seg i).cards j
theorem nm.used{tr:Tr}{m:Mem}(S:gt Z g F0)(h:nm Z tr s m)(hl:s.mem.limit=Z.m.limit){x:Int}:m.used x ↔ s.mem.used x/\Z.O (x / 64).toNat=false:=by
 have hlim:=S.ok.lim
 constructor
 ·rintro⟨h1,h2,h3⟩
  have hlt:(x / 64).toNat<1024:=by have:=h2.2.1;rw[h.limit,hl]at this;omega
  have ho:Z.O (x / 64).toNat=false:=by
   by_cases q:Z.O (x / 64).toNat=true
   ·exact absurd (h.gone _ hlt q) h2.2.2
   ·simpa using q
  obtain⟨_,_,q3,q4,_⟩:=h.seg _ ho
  exact⟨⟨h1,⟨h2.1,by rw[<-h.limit];exact h2.2.1,by rw[<-q4];exact h2.2.2⟩,by rw[<-q3];exact h3⟩,ho⟩
 ·rintro⟨⟨h1,h2,h3⟩,ho⟩
  obtain⟨_,_,q3,q4,_⟩:=h.seg _ ho
  exact⟨h1,⟨h2.1,by rw[h.limit];exact h2.2.1,by rw[q4];exact h2.2.2⟩,by rw[q3];exact h3⟩
theorem nm.get{tr:Tr}{m:Mem}(h:nm Z tr s m){x:Int}(ho:Z.O (x / 64).toNat=false):m.get x=s.mem.get x/\m.kAt x=s.mem.kAt x/\m.gAt x=s.mem.gAt x:=by
 obtain⟨q1,q2,_,_,q5⟩:=h.seg _ ho
 exact⟨by unfold Mem.get;rw[q5],q2,q1⟩
def szE(O:Nat->Bool)(sz:Int->Nat)(a:Int):Nat:=if O (a / 64).toNat=true then 0 else sz a
structure iF (Z:TZ) (g F0:Int) (fw:Int->Option Int) (al:List Int) (sz:Int->Nat) (tr:Tr) (s s':Sp) (m:Mem):Prop where
 S:gt Z g F0
 tri:Tri Z F0 fw al s sz
 fin:Fin Z fw s
 roots: ∀v,Z.V v->Dn Z.O fw v
 broke:qS Z fw s s'
 ended:nm Z tr s' m
 begun:qR Z.m g Z.T tr
 marked:qH Z.m
theorem iF.used{tr:Tr}{s':Sp}{m:Mem}(t:iF Z g F0 fw al sz tr s s' m){x:Int}:m.used x ↔ s.mem.used x/\Z.O (x / 64).toNat=false:=by
 have:=t.ended.used t.S (by rw[t.broke.same.limit,t.tri.heads.limit]) (x:=x)
 rw[this,t.broke.same.used]
theorem iF.kind{tr:Tr}{s':Sp}{m:Mem}(t:iF Z g F0 fw al sz tr s s' m){x:Int}(h:m.used x):m.kAt x=s.mem.kAt x/\m.gAt x=s.mem.gAt x:=by
 obtain⟨_,ho⟩:=t.used.1 h
 obtain⟨_,h2,h3⟩:=t.ended.get ho
 exact⟨h2.trans (t.broke.same.seg _).2.1,h3.trans (t.broke.same.seg _).1⟩
theorem iF.get{tr:Tr}{s':Sp}{m:Mem}(t:iF Z g F0 fw al sz tr s s' m){x v:Int}(hw:Was Z fw x v):m.get x=(if s.mem.kAt x=3 then v else Fw Z.O fw v)/\(s.mem.kAt x≠3->Dn Z.O fw v)\/(m.get x=44/\s.mem.kAt x=1/\x % 2=0):=by
 obtain⟨hu,ho⟩:=t.tri.usedOf hw
 have hg:=(t.ended.get ho).1
 by_cases hwk:s.mem.kAt x=1/\x % 2=0
 ·rw[hg]
  rcases t.broke.weak x hu ho hwk.1 hwk.2 with q | q
  ·exact .inr ⟨q,hwk⟩
  ·left
   rw[if_neg (by rw[hwk.1];decide)]
   exact⟨(q v hw).2,λ_=>(q v hw).1⟩
 ·left
  rw[hg,t.broke.strong x hu ho hwk]
  by_cases h3:s.mem.kAt x=3
  ·rw[if_pos h3]
   refine⟨?_,λq=>absurd h3 q⟩
   rcases t.tri.val x v hw with q | ⟨q,_⟩
   ·exact q
   ·exact absurd h3 q.1
  ·rw[if_neg h3]
   have hst:s.mem.strong x:=⟨h3,by
    by_cases h1:s.mem.kAt x=1
    ·right;have:=λq=>hwk ⟨h1,q⟩;omega
    ·exact .inl h1⟩
   obtain⟨q1,q2⟩:=t.fin x hu ho hst v hw
   exact⟨q2,λ_=>q1⟩
theorem iF.good{tr:Tr}{s':Sp}{m:Mem}(t:iF Z g F0 fw al sz tr s s' m){v:Int}(hw:aP v)(hg:Good Z.m Z.sz v)(hd:Dn Z.O fw v):Good m (szE Z.O sz) (Fw Z.O fw v)/\(ju v->m.used (Fw Z.O fw v / 8)/\szE Z.O sz (Fw Z.O fw v / 8)=Z.sz (v / 8)/\m.kAt (Fw Z.O fw v / 8)=Z.m.kAt (v / 8)/\Z.T<=m.gAt (Fw Z.O fw v / 8))/\Fw Z.O fw v % 8=v % 8:=by
 have S:=t.S
 by_cases ho:eV Z.O v
 ·obtain⟨b,hb⟩:=hd ho
  obtain⟨h1,h2,h3,h4⟩:=S.oldWord hg ho
  obtain⟨e1,im⟩:=t.tri.img _ _ hb
  rw[jJ ho hb]
  have e8:(b*8+v % 8) / 8=b:=by omega
  have e9:(b*8+v % 8) % 8=v % 8:=by omega
  have hub:s.mem.used b:=by simpa using im.here 0 (by omega)
  have hum:m.used b:=t.used.2 ⟨hub,im.out⟩
  have hk:=t.kind hum
  have hsz:szE Z.O sz b=Z.sz (v / 8):=by unfold szE;rw[if_neg (by rw[im.out];decide),e1]
  refine⟨⟨by rw[e9];exact hg.1,λ_=>?_⟩,λ_=>?_,e9⟩
  ·rw[e8,e9,hsz,hk.1,im.kind];exact⟨h1,h4⟩
  ·rw[e8];exact⟨hum,hsz,by rw[hk.1,im.kind],by rw[hk.2,im.gen];exact Int.le_refl _⟩
 ·rw[mj ho]
  have key:ju v->m.used (v / 8)/\szE Z.O sz (v / 8)=Z.sz (v / 8)/\m.kAt (v / 8)=Z.m.kAt (v / 8)/\Z.T<=m.gAt (v / 8):=λht=>by
   obtain⟨h1,h2⟩:=hg.2 ht
   obtain⟨u1,_⟩:=S.sound.used _ h1
   have hlt:=S.lt u1
   have hoo:Z.O (v / 8 / 64).toNat=false:=by
    by_cases q:Z.O (v / 8 / 64).toNat=true
    ·exact absurd ⟨⟨by unfold ju at ht;omega,hlt.2.2⟩,by unfold ju at ht;omega,q⟩ ho
    ·simpa using q
   have hum:m.used (v / 8):=t.used.2 ⟨t.tri.heads.used u1,hoo⟩
   have hk:=t.kind hum
   have hk2:=t.tri.kAt u1
   refine⟨hum,by unfold szE;rw[if_neg (by rw[hoo];decide),t.tri.sz0 _ u1],by rw[hk.1,hk2.1],?_⟩
   rw[hk.2,hk2.2]
   have hr:=S.rng
   rcases Int.lt_or_le g (Z.m.gAt (v / 8))with q | q
   ·omega
   ·have:=(S.old _ hlt.1).2 ⟨by rw[show(((v / 8 / 64).toNat:Nat):Int)=v / 8 / 64 by omega];exact u1.2.1,q⟩
    rw[hoo]at this;cases this
  refine⟨⟨hg.1,λht=>?_⟩,key,rfl⟩
  obtain⟨k1,k2,k3,_⟩:=key ht
  rw[k2,k3];exact hg.2 ht
theorem iF.was{tr:Tr}{s':Sp}{m:Mem}(t:iF Z g F0 fw al sz tr s s' m){x:Int}(h:m.used x): ∃v,Was Z fw x v:=by
 obtain⟨h1,h2⟩:=t.used.1 h
 exact t.tri.was h1 h2
theorem iF.was_good{tr:Tr}{s':Sp}{m:Mem}(t:iF Z g F0 fw al sz tr s s' m){x v:Int}(hw:Was Z fw x v)(hk:s.mem.kAt x≠3):aP v/\Good Z.m Z.sz v:=by
 rcases hw with⟨h1,h2,rfl⟩ | ⟨a,b,i,h1,h2,h3,rfl⟩
 ·exact⟨(t.S.ok.seg _).words _,t.S.sound.good x h1 (by rw[<-(t.tri.kAt h1).1];exact hk)⟩
 ·have im:=(t.tri.img a b h1).2
  have hsa:=(t.tri.olds.mem a ((t.tri.al a).2 ⟨b,h1⟩)).1
  have hai:=t.S.sound.usedAt hsa h2 (λk=>(t.S.ok.seg k).n.2)
  have hf:=im.fit
  refine⟨(t.S.ok.seg _).words _,t.S.sound.good _ hai.1 ?_⟩
  have:s.mem.kAt x=Z.m.kAt (a+i):=by
   unfold Mem.kAt
   rw[h3,show(b+i) / 64=b / 64 by omega,hai.2.1];exact im.kind
  rw[<-this];exact hk
end
