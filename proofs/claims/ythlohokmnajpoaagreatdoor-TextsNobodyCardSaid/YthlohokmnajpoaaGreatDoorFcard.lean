/-
 Written by a program of mine (gen.py): for functions of this translation a predicate transformer over heaps (.pt), and the proof that it is sound for the call (.link).
-/
import Derived.Test.YthlohokmnajpoaaGreatDoorFnsC
set_option linter.unusedSimpArgs false
set_option linter.unusedVariables false
set_option maxHeartbeats 1000000
noncomputable section
namespace Go.Proofs.YthlohokmnajpoaaGreatDoor
open Go
/-! moraine/card.New -/
namespace card_New
def kk0 := Func.code Tryz.f35
def kk1 := Code.fa kk0
def kk2 := Code.fb kk0
def kk3 := Code.fa kk2
def kk4 := Code.fb kk2
def kk5 := Code.fa kk4
def kk6 := Code.fb kk4
def kk7 := Code.fa kk5
def kk8 := Code.fb kk5
def kk9 := Code.fa kk8
def kk10 := Code.fb kk8
def kk11 := Code.fa kk6
def kk12 := Code.fb kk6
def kk13 := Code.fa kk9
def kk14 := Code.fb kk9
end card_New
def card_New.pt (limit : Int) (H : Array Obj) (R : Value → Array Obj → Prop) : Prop :=
 space_New.C limit H (fun v H1 => ∃ ra : Option Addr, ∃ rb : Int, v = .tuple #[.pointer ra, .int .i64 rb] ∧ 
 if rb = 0 then (
 ∀ (b : Nat) (H2 : Array Obj), b = H1.size → H2 = H1.push (.cells #[.pointer ra] 54) →
 R (.tuple #[.pointer (some (Addr.mk b 0 none)), .int .i64 0]) H2)
 else
 R (.tuple #[.pointer none, .int .i64 rb]) H1)
namespace card_New
set_option maxRecDepth 100000 in
theorem link {limit : Int} {H : Array Obj} {R : Value → Array Obj → Prop} (h : pt limit H R) : C limit H R := by
 refine S_enter (fn := Tryz.f35) (c := kk0) 17 Tryz.func35 (by kernel_rfl) (by kernel_rfl) (Nat.le_of_ble_eq_true (by kernel_rfl)) ?_
 intro w0 Q hQ
 unfold pt at h
 refine T_su [(0, vi limit)] ?_
 refine T_sr 0 kk1 kk2 ?_
 refine T_ne 2 [(0, vi limit)] ?_
 refine T_sr 1 kk3 kk4 ?_
 refine T_n 1 [(7, vi limit)] ?_
 refine N_call (some 8) 76 #[vi limit] (fun _=>by kernel_rfl) h ?_; clear h
 rintro v H1 ⟨ra, rb, rfl, h⟩
 refine ⟨[(8, .tuple #[vp ra, vi rb])], pk, ?_⟩
 refine T_ne 5 [(4, vp ra), (5, vi rb)] ?_
 refine T_s kk5 kk6 ?_
 refine T_sr 2 kk7 kk8 ?_
 refine T_ne 2 [(4, vp ra), (5, vi rb), (12, .bool (rb != 0))] ?_
 by_cases c1 : rb = 0
 ·rw [if_pos c1] at h
  have b2 : (rb != 0) = false := bne_eq_false_iff_eq.mpr c1
  refine S_env [(4, vp ra), (5, vi rb), (12, .bool false)] (by simp only [b2, Bool.not_true, Bool.not_false]) ?_
  clear b2
  refine T_f 12 kk9 kk10 ?_
  refine T_kt ?_
  refine T_sr 4 kk11 kk12 ?_
  refine T_n 2 [(15, .agg #[vp ra])] ?_
  refine N_new (some 16) (fun b => vp (pa b)) (.cells #[vp ra] 54) (fun _=>by kernel_rfl) ?_
  intro b H2 e3 e4
  replace h := h b H2 e3 e4
  refine ⟨[(16, vp (pa b))], pk, ?_⟩
  refine T_ne 2 [(2, vp (pa b)), (3, vi 0)] ?_
  refine S_ret (by kernel_rfl) ?_
  show At _ _ _ _ _ (Q .ret)
  exact S_done (fn := Tryz.f35) [vp (pa b), vi 0] hQ (show ResOK _ _ _ [.tmp 2, .tmp 3] _ from .tmp (by kernel_rfl) (.tmp (by kernel_rfl) (.nil))) h
 ·rw [if_neg c1] at h
  have b2 : (rb != 0) = true := bne_iff_ne.mpr c1
  refine S_env [(4, vp ra), (5, vi rb), (12, .bool true)] (by simp only [b2, Bool.not_true, Bool.not_false]) ?_
  clear b2
  refine T_t 12 kk9 kk10 ?_
  refine T_sr 3 kk13 kk14 ?_
  refine T_ne 3 [(2, vp none), (3, vi rb)] ?_
  refine S_ret (by kernel_rfl) ?_
  show At _ _ _ _ _ (Q .ret)
  exact S_done (fn := Tryz.f35) [vp none, vi rb] hQ (show ResOK _ _ _ [.tmp 2, .tmp 3] _ from .tmp (by kernel_rfl) (.tmp (by kernel_rfl) (.nil))) h
end card_New

/-! (*moraine/card.Cards).Store -/
end Go.Proofs.YthlohokmnajpoaaGreatDoor
