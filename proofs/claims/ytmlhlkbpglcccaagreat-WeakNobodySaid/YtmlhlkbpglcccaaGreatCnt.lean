/-
 How many words are used of a memory of which something holds. Proves nothing of any one statement.
-/
import Derived.Test.YtmlhlkbpglcccaaGreatGcB
set_option linter.unusedVariables false
set_option linter.unusedSimpArgs false
namespace Go.Proofs.YtmlhlkbpglcccaaGreat
open Go

theorem dP.all{m:Mem}{l:List Nat}(h:dP m [] l)(ok:bI m){k:Int}(hk:m.has k):k.toNat∈l:=by
 refine h.perm.mem_iff.2 ?_
 unfold Mem.takenTo
 rw[List.mem_filter,List.mem_range]
 obtain⟨h1,h2,h3⟩:=hk
 have:=(ok.seg k.toNat).taken
 refine⟨by omega,?_⟩
 simp
 omega

structure Alls (m:Mem) (all:List Int):Prop where
 nodup:all.Nodup
 good: ∀w∈all,aH w/\m.sizeOf w≠0
theorem ng{m:Mem}{w:Int}(h:m.sizeOf w≠0):eC w:=by
 unfold Mem.sizeOf at h
 by_cases hp:m.isPair w
 ·rcases hp.1 with q | q<;>exact q.1
 ·rw[if_neg hp]at h
  by_cases ho:m.isObj w
  ·exact ho.1.1
  ·rw[if_neg ho]at h;exact absurd rfl h
theorem Alls.len{m:Mem}{all:List Int}(h:Alls m all):all.length<=524288:=by
 have h1:=iV (λ_=>1) 524288 all h.nodup (λa ha=>by
  obtain⟨q1,q2⟩:=h.good a ha
  have:=(ng q2).2
  exact⟨q1.1,by show a+1<=524288;omega⟩) (λa _ b _ hab=>by show a+1<=b;omega)
 have h2:(all.map λ_=>1).sum=all.length:=by
  induction all with
  | nil=>rfl
  | cons a l _=>simp[List.map_const'];omega
 rw[h2]at h1
 rw[h1]
 exact Nat.le_trans List.countP_le_length (by rw[List.length_range];exact Nat.le_refl _)
