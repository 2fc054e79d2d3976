/-
 A trace begins over a sound memory whose cards are marked, and comes to its end. Proves nothing of any one statement.
-/
import Derived.Test.YtmlhlkbpglcccaaGreatGcD
set_option linter.unusedVariables false
set_option linter.unusedSimpArgs false
namespace Go.Proofs.YtmlhlkbpglcccaaGreat
open Go

def iu(m:Mem):Prop:= ∀x,m.used x->m.kAt x≠3->(m.genOf (m.get x)).2=true->(m.genOf (m.get x)).1<m.gAt x->(m.seg (x / 64).toNat).cards (x % 64 / 16).toNat<=(m.genOf (m.get x)).1
theorem na{m:Mem}{w:Int}(ha:eC w)(h6:w % 8≠6)(hh:m.has (w / 8 / 64)):m.genOf w=(m.gAt (w / 8),true):=by
 unfold Mem.genOf
 rw[if_pos ⟨ha,h6⟩,if_pos hh,zX hh]
section
variable {Z:TZ} {g F0:Int}
def Fin(Z:TZ)(fw:Int->Option Int)(s:Sp):Prop:= ∀x,s.mem.used x->Z.O (x / 64).toNat=false->s.mem.strong x->Done Z fw s x
theorem gm.cardOf{tr:Tr}(S:dT Z g F0)(B:gm Z.m g Z.T tr): ∀c∈tr.cards,oY Z c:=by
 obtain⟨l,hl,e⟩:=B.cards
 rw[e]
 intro c hc
 obtain⟨k,hk,i,hi,rfl,h1,h2⟩:=Mem.mem_dirty.1 hc
 obtain⟨q1,q2,q3,_⟩:=hl.has hk
 have hl:=S.ok.lim
 refine⟨q1,?_,by show(0:Int)<=(i:Int);omega,by show(i:Int)<4;omega⟩
 show Z.O ((k:Int)).toNat=false
 rw[show((k:Nat):Int).toNat=k by omega]
 by_cases ho:Z.O k=true
 ·have:=((S.old k (by omega)).1 ho).2;omega
 ·simpa using ho
theorem gm.dirty{tr:Tr}(S:dT Z g F0)(B:gm Z.m g Z.T tr)(hm:iu Z.m){x:Int}(hu:Z.m.used x)(ho:Z.O (x / 64).toNat=false)(hk:Z.m.kAt x≠3)(hold:aQ Z.O (Z.m.get x))(hg:Good Z.m Z.sz (Z.m.get x)):(x / 64,x % 64 / 16)∈tr.cards:=by
 obtain⟨l,hl,e⟩:=B.cards
 obtain⟨h1,h2,h3,h4⟩:=S.oldWord hg hold
 obtain⟨u1,_⟩:=S.sound.used _ h1
 have hlt:=S.lt u1
 have hlx:=S.lt hu
 have hgo:=na (m:=Z.m) hold.1 hold.2.1 u1.2.1
 have hgen:Z.m.gAt (Z.m.get x / 8)<=g:=((S.old _ hlt.1).1 h2).2
 have hxg:g<Z.m.gAt x:=by
  rcases Int.lt_or_le g (Z.m.gAt x)with q | q
  ·exact q
  ·have:=(S.old _ hlx.1).2 ⟨by rw[show(((x / 64).toNat:Nat):Int)=x / 64 by have:=hu.1;omega];exact hu.2.1,q⟩
   rw[ho]at this;cases this
 have hmk:=hm x hu hk (by rw[hgo]) (by rw[hgo];show Z.m.gAt _<_;omega)
 rw[hgo]at hmk
 rw[e,Mem.mem_dirty]
 have hx0:=hu.1
 refine⟨(x / 64).toNat,?_,(x % 64 / 16).toNat,by omega,?_,hxg,Int.le_trans hmk hgen⟩
 ·rw[hl.perm.mem_iff]
  unfold Mem.takenTo
  rw[List.mem_filter,List.mem_range]
  have h5:=(S.ok.seg (x / 64).toNat).taken
  have h6:=hu.2.1.2.2
  refine⟨by have:=hu.2.1.2.1;omega,?_⟩
  simp only[Bool.and_eq_true,decide_eq_true_eq,Bool.or_eq_true]
  exact⟨by omega,.inl rfl⟩
 ·rw[show(((x / 64).toNat:Nat):Int)=x / 64 by omega,show(((x % 64 / 16).toNat:Nat):Int)=x % 64 / 16 by omega]
theorem Fin.reach{fw:Int->Option Int}{al:List Int}{s:Sp}{sz:Int->Nat}(S:dT Z g F0)(t:Tri Z F0 fw al s sz)(f:Fin Z fw s)(hV: ∀v,Z.V v->Dn Z.O fw v){a:Int}(h:Reach Z a): ∃b,fw a=some b:=by
 induction h with
 | root h ho=>exact hV _ h ho
 | @older x hu hn hs ho=>
  have hst:s.mem.strong x:=by unfold Mem.strong at*;rw[(t.kAt hu).1];exact hs
  exact(f x (t.heads.used hu) hn hst _ (.inl ⟨hu,hn,rfl⟩)).1 ho
 | @step a i h hi hs ho ih=>
  obtain⟨b,hb⟩:=ih
  have im:=(t.img a b hb).2
  have hsa:=(t.olds.mem a ((t.al a).2 ⟨b,hb⟩)).1
  have hai:=S.sound.usedAt hsa hi (λk=>(S.ok.seg k).n.2)
  have hf:=im.fit
  have e64:(b+(i:Int)) / 64=b / 64:=by omega
  have hkb:s.mem.kAt (b+i)=Z.m.kAt (a+i):=by unfold Mem.kAt;rw[e64,hai.2.1];exact im.kind
  have hka:Z.m.kAt (a+i)=Z.m.kAt a:=by unfold Mem.kAt;rw[hai.2.1]
  have hst:s.mem.strong (b+i):=by
   unfold Mem.strong at*
   rw[hkb]
   refine⟨hs.1,?_⟩
   by_cases h1k:Z.m.kAt (a+i)=1
   ·right
    have:=hs.2.resolve_left (λq=>q h1k)
    have:=im.even (by rw[<-hka,h1k];decide)
    have:=(S.sound.two a hsa (by rw[<-hka,h1k];decide)).2
    omega
   ·exact .inl h1k
  exact(f (b+i) (im.here i hi) (by rw[e64];exact im.out) hst _ (.inr ⟨a,b,i,hb,hi,rfl,rfl⟩)).1 ho
end
