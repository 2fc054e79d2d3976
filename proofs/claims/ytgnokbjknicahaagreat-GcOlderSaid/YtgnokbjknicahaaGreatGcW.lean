/-
 How many words are used behind a trace. Proves nothing of any one statement.
-/
import Derived.Test.YtgnokbjknicahaaGreatCnt
import Derived.Test.YtgnokbjknicahaaGreatGcH
set_option linter.unusedVariables false
set_option linter.unusedSimpArgs false
namespace Go.Proofs.YtgnokbjknicahaaGreat
open Go

section
variable {Z:TZ} {g F0:Int} {fw:Int->Option Int} {al:List Int} {s:Sp} {sz:Int->Nat}
theorem Traced.words{tr:Tr}{s':Sp}{m:Mem}(t:Traced Z g F0 fw al sz tr s s' m)(ok:MemOK m):m.words []=(Z.m.above g:Int)+((al.map Z.sz).sum:Nat):=by
 have S:=t.S
 have htp:=tops_eq
 rw[Mem.words_cnt ok]
 have hb: ∀a∈al,∃b,fw a=some b:=λa ha=>(t.tri.al a).1 ha
 let bs:=al.filterMap fw
 have hbs: ∀b,b∈bs ↔ ∃a,fw a=some b:=λb=>by
  show b∈al.filterMap fw ↔ _
  rw[List.mem_filterMap]
  constructor
  ·rintro⟨a,_,h⟩;exact⟨a,h⟩
  ·rintro⟨a,h⟩;exact⟨a,(t.tri.al a).2 ⟨b,h⟩,h⟩
 have hsum: ∀l:List Int,(∀a∈l,∃b,fw a=some b)->((l.filterMap fw).map sz).sum=(l.map Z.sz).sum:=λl=>by
  induction l with
  | nil=>intro _;rfl
  | cons a l ih=>
   intro h
   obtain⟨b,hb⟩:=h a (by simp)
   rw[List.filterMap_cons_some hb]
   simp only[List.map_cons,List.sum_cons,ih (λx hx=>h x (by simp[hx])),(t.tri.img a b hb).1]
 have hnd: ∀l:List Int,l.Nodup->(l.filterMap fw).Nodup:=λl=>by
  induction l with
  | nil=>intro _;exact List.nodup_nil
  | cons a l ih=>
   intro h
   rw[List.nodup_cons]at h
   cases hf:fw a with
   | none=>rw[List.filterMap_cons_none hf];exact ih h.2
   | some b=>
    rw[List.filterMap_cons_some hf,List.nodup_cons]
    refine⟨λq=>?_,ih h.2⟩
    rw[List.mem_filterMap]at q
    obtain⟨a',q1,q2⟩:=q
    have:=t.tri.inj a a' b hf q2
    exact h.1 (this▸q1)
 have hbu: ∀b∈bs,sz b≠0/\ ∀i:Nat,i<sz b->s.mem.used (b+i)/\ ¬Z.m.used (b+i)/\Z.O ((b+(i:Int)) / 64).toNat=false:=λb hbm=>by
  obtain⟨a,ha⟩:=(hbs b).1 hbm
  obtain⟨e,im⟩:=t.tri.img a b ha
  have hza:=(t.tri.olds.mem a ((t.tri.al a).2 ⟨b,ha⟩)).1
  refine⟨by rw[e];exact hza,λi hi=>?_⟩
  rw[e]at hi
  have hf:=im.fit
  exact⟨im.here i hi,im.new i hi,by rw[show(b+(i:Int)) / 64=b / 64 by omega];exact im.out⟩
 have hin: ∀b∈bs,∀x:Nat,inR b (sz b) x=true-> ∃i:Nat,i<sz b/\(x:Int)=b+i:=λb hbm x hx=>by
  unfold inR at hx
  rw[decide_eq_true_eq]at hx
  exact⟨((x:Int)-b).toNat,by omega,by omega⟩
 rw[<-hsum al hb,sum_cover sz tops (al.filterMap fw) (hnd al t.tri.olds.nodup) (λb hbm=>?_) (λa ha b hbm hab=>t.tri.apart a b (hbu a ha).1 (hbu b hbm).1 hab)]
 ·unfold Mem.above Mem.cnt
  rw[<-Int.natCast_add,<-countP_two]
  ·congr 1
   refine List.countP_congr λx hx=>?_
   rw[List.mem_range]at hx
   simp only[Bool.and_eq_true,Bool.or_eq_true,decide_eq_true_eq,true_or,and_true]
   rw[t.used]
   constructor
   ·rintro⟨hu,hO⟩
    rcases t.tri.cover x hu with hz | ⟨a,b,i,h1,h2,h3⟩
    ·left
     refine⟨hz,?_⟩
     have hlx:=S.lt hz
     rcases Int.lt_or_le g (Z.m.gAt x)with q | q
     ·exact q
     ·have:=(S.old _ hlx.1).2 ⟨by rw[show((((x:Int) / 64).toNat:Nat):Int)=(x:Int) / 64 by omega];exact hz.2.1,q⟩
      rw[hO]at this;cases this
    ·right
     rw[List.any_eq_true]
     refine⟨b,(hbs b).2 ⟨a,h1⟩,?_⟩
     unfold inR
     rw[decide_eq_true_eq,(t.tri.img a b h1).1]
     omega
   ·rintro(⟨hz,hg⟩ | hany)
    ·have hlx:=S.lt hz
     refine⟨t.tri.heads.used hz,?_⟩
     by_cases q:Z.O ((x:Int) / 64).toNat=true
     ·have:=((S.old _ hlx.1).1 q).2
      have:g< (Z.m.seg ((x:Int) / 64).toNat).gen:=hg
      omega
     ·simpa using q
    ·rw[List.any_eq_true]at hany
     obtain⟨b,hbm,hx2⟩:=hany
     obtain⟨i,hi,e⟩:=hin b hbm x hx2
     obtain⟨u1,u2,u3⟩:=(hbu b hbm).2 i hi
     rw[e];exact⟨u1,u3⟩
  ·intro x _ h1 h2
   simp only[Bool.and_eq_true,decide_eq_true_eq]at h1
   rw[List.any_eq_true]at h2
   obtain⟨b,hbm,hx2⟩:=h2
   obtain⟨i,hi,e⟩:=hin b hbm x hx2
   have:=((hbu b hbm).2 i hi).2.1
   rw[<-e]at this
   exact this h1.1
 ·obtain⟨hz,hu⟩:=hbu b hbm
  have h0:=(hu 0 (by omega)).1
  have hl:=(hu (sz b-1) (by omega)).1
  have hlim:=t.tri.ok.mem.lim
  have h1:=h0.1
  have h2:=hl.2.1.2.1
  exact⟨by omega,by omega⟩
theorem Traced.empty{tr:Tr}{s':Sp}{m:Mem}(t:Traced Z g F0 fw al sz tr s s' m)(ok:MemOK m){k:Int}(hk:k<=g)(hT:k≠Z.T):m.words [k]=0:=by
 have S:=t.S
 rw[Mem.words_cnt ok]
 unfold Mem.cnt
 have:(List.range tops).countP (λx:Nat=>decide (m.used x) && decide ([k]=[]\/m.gAt x∈[k]))=0:=by
  rw[List.countP_eq_zero]
  intro x _
  simp only[Bool.and_eq_true,decide_eq_true_eq,List.mem_singleton,List.cons_ne_self,false_or,reduceCtorEq]
  rintro⟨hu,hg⟩
  have hg2:=(t.kind hu).2
  obtain⟨hus,hO⟩:=t.used.1 hu
  rcases t.tri.cover x hus with hz | ⟨a,b,i,h1,h2,h3⟩
  ·have hlx:=S.lt hz
   have:=(S.old _ hlx.1).2 ⟨by rw[show((((x:Int) / 64).toNat:Nat):Int)=(x:Int) / 64 by omega];exact hz.2.1,by
    have e:=(t.tri.kAt hz).2
    have:(Z.m.seg ((x:Int) / 64).toNat).gen=k:=by
     have e2:Z.m.gAt x=k:=by rw[<-e,<-hg2];exact hg
     exact e2
    omega⟩
   rw[hO]at this;cases this
  ·have im:=(t.tri.img a b h1).2
   have hf:=im.fit
   have:s.mem.gAt x=Z.T:=by
    unfold Mem.gAt
    rw[h3,show(b+(i:Int)) / 64=b / 64 by omega];exact im.gen
   rw[hg2,this]at hg
   exact hT hg.symm
 rw[this];rfl
end
end Go.Proofs.YtgnokbjknicahaaGreat
