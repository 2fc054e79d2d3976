/-
  Written by a program of mine (gen.py): for functions of this translation a predicate transformer over heaps (.pt), and the proof that it is sound for the call (.link).
-/
import Derived.Test.YtfohlkiikppefaaFnsC
set_option linter.unusedSimpArgs false
set_option linter.unusedVariables false
set_option maxHeartbeats 1000000
noncomputable section
namespace Go.Proofs.Ytfohlkiikppefaa
open Go
/-! moraine/morainelaw10.word -/
namespace morainelaw10_word
def kk0 := Func.code Try.f25
def kk1 := Code.fa kk0
def kk2 := Code.fb kk0
def kk3 := Code.fa kk2
def kk4 := Code.fb kk2
def kk5 := Code.fa kk3
def kk6 := Code.fb kk3
def kk7 := Code.fa kk6
def kk8 := Code.fb kk6
def kk9 := Code.fa kk7
def kk10 := Code.fb kk7
def kk11 := Code.fa kk4
def kk12 := Code.fb kk4
end morainelaw10_word
def morainelaw10_word.pt (vW : Int) (vOf : Int) (madeB : Option Addr) (madeN : Nat) (madeC : Nat) (H : Array Obj) (R : Value → Array Obj → Prop) : Prop :=
 ∀ (b : Nat) (H1 : Array Obj), b = H.size → H1 = H.push (.cells #[.int .u64 vW, .int .i64 vOf] 67) →
 ∃ x : Int, hat H1 ((Addr.mk b 0 none).add 1) = some (.int .i64 x) ∧
 if ((decide (x > 0)) && (decide ((madeN : Int) > 0))) = true then (
  ∃ x_2 : Int, hat H1 ((Addr.mk b 0 none).add 1) = some (.int .i64 x_2) ∧
  ((madeN : Int) ≠ 0) ∧
  ∃ madeBA : Addr, madeB = some madeBA ∧
  ((0 : Int) ≤ (Int.tmod (IntKind.wrap .i64 (x_2 - 1)) (madeN : Int)) ∧ (Int.tmod (IntKind.wrap .i64 (x_2 - 1)) (madeN : Int)) < (madeN : Int)) ∧
  ∃ x_3 : Int, hat H1 (madeBA.add (Int.toNat (Int.tmod (IntKind.wrap .i64 (x_2 - 1)) (madeN : Int)) * 1)) = some (.int .u64 x_3) ∧
  R (.int .u64 x_3) H1)
 else
 ∃ x_4 : Int, hat H1 (Addr.mk b 0 none) = some (.int .u64 x_4) ∧
 R (.int .u64 x_4) H1
namespace morainelaw10_word
set_option maxRecDepth 100000 in
theorem link {vW : Int} {vOf : Int} {madeB : Option Addr} {madeN : Nat} {madeC : Nat} {H : Array Obj} {R : Value → Array Obj → Prop} (h : pt vW vOf madeB madeN madeC H R) : C vW vOf madeB madeN madeC H R := by
  refine S_enter (fn := Try.f25) (c := kk0) 24 Try.func25 (by kernel_rfl) (by kernel_rfl) (Nat.le_of_ble_eq_true (by kernel_rfl)) ?_
  intro w0 Q hQ
  unfold pt at h
  refine S_sub [(0, .agg #[.int .u64 vW, .int .i64 vOf]), (1, .slice madeB madeN madeC)] (sb (by kernel_rfl)) ?_
  refine S_seq kk1 kk2 (by kernel_rfl) ?_
  refine S_region 0 (Code.ops kk1) (by kernel_rfl) ?_
  refine N_new (some 2) (fun b => .pointer (some (Addr.mk b 0 none))) (.cells #[.int .u64 vW, .int .i64 vOf] 67) (fun w => by kernel_rfl) ?_
  intro b H1 e1 e2
  replace h := h b H1 e1 e2
  refine ⟨[(1, .slice madeB madeN madeC), (2, .pointer (some (Addr.mk b 0 none)))], ps (by kernel_rfl), ?_⟩
  refine N_run 1 [(1, .slice madeB madeN madeC), (2, .pointer (some (Addr.mk b 0 none)))] (fun w => by kernel_rfl) ?_
  refine N_end (by kernel_rfl) ?_
  refine S_then ?_
  refine S_seq kk3 kk4 (by kernel_rfl) ?_
  refine S_seq kk5 kk6 (by kernel_rfl) ?_
  refine S_region 1 (Code.ops kk5) (by kernel_rfl) ?_
  refine N_run 1 [(1, .slice madeB madeN madeC), (2, .pointer (some (Addr.mk b 0 none))), (5, .pointer (some ((Addr.mk b 0 none).add 1)))] (fun w => by kernel_rfl) ?_
  obtain ⟨x, q3, h⟩ := h
  refine N_val (some 6) (loadN 3 (.pointer (some ((Addr.mk b 0 none).add 1)))) (.int .i64 x) (fun w => by kernel_rfl) (loadN_run (loadOK_one (fun w => by kernel_rfl) q3)) [(1, .slice madeB madeN madeC), (2, .pointer (some (Addr.mk b 0 none))), (6, .int .i64 x)] (ps (by kernel_rfl)) ?_
  refine N_run 2 [(1, .slice madeB madeN madeC), (2, .pointer (some (Addr.mk b 0 none))), (8, .bool (decide (x > 0)))] (fun w => by kernel_rfl) ?_
  refine N_cut [(1, .slice madeB madeN madeC), (2, .pointer (some (Addr.mk b 0 none))), (12, .bool ((decide (x > 0)) && (decide ((madeN : Int) > 0))))] ?_ ?_
  · refine S_then ?_
    by_cases c6 : ((decide (x > 0)) && (decide ((madeN : Int) > 0))) = true
    · rw [if_pos c6] at h
      have b7 : ((decide (x > 0)) && (decide ((madeN : Int) > 0))) = true := c6
      refine S_env [(1, .slice madeB madeN madeC), (2, .pointer (some (Addr.mk b 0 none))), (12, .bool true)] (by simp only [b7, Bool.not_true, Bool.not_false]) ?_
      clear b7
      refine S_condT (.tmp 12) kk7 kk8 (by kernel_rfl) (by kernel_rfl) ?_
      refine S_seq kk9 kk10 (by kernel_rfl) ?_
      refine S_region 2 (Code.ops kk9) (by kernel_rfl) ?_
      refine N_run 2 [(1, .slice madeB madeN madeC), (13, .slice madeB madeN madeC), (14, .pointer (some ((Addr.mk b 0 none).add 1)))] (fun w => by kernel_rfl) ?_
      obtain ⟨x_2, q8, h⟩ := h
      refine N_val (some 15) (loadN 3 (.pointer (some ((Addr.mk b 0 none).add 1)))) (.int .i64 x_2) (fun w => by kernel_rfl) (loadN_run (loadOK_one (fun w => by kernel_rfl) q8)) [(1, .slice madeB madeN madeC), (13, .slice madeB madeN madeC), (15, .int .i64 x_2)] (ps (by kernel_rfl)) ?_
      refine N_run 3 [(13, .slice madeB madeN madeC), (16, .int .i64 (IntKind.wrap .i64 (x_2 - 1))), (18, .int .i64 (madeN : Int))] (fun w => by kernel_rfl) ?_
      obtain ⟨q9, h⟩ := h
      refine N_val (some 19) (binN .rem 3 (.int .i64 (IntKind.wrap .i64 (x_2 - 1))) (.int .i64 (madeN : Int))) (.int .i64 (Int.tmod (IntKind.wrap .i64 (x_2 - 1)) (madeN : Int))) (fun w => by kernel_rfl) (fun w _ => rem_run (P := Try.prog) (t := 3) (k := .i64) (x := (IntKind.wrap .i64 (x_2 - 1))) (y := (madeN : Int)) q9 w) [(13, .slice madeB madeN madeC), (19, .int .i64 (Int.tmod (IntKind.wrap .i64 (x_2 - 1)) (madeN : Int)))] (ps (by kernel_rfl)) ?_
      obtain ⟨madeBA, rfl, h⟩ := h
      obtain ⟨q10, h⟩ := h
      refine N_val (some 20) (indexAtN 39 (.slice (some madeBA) madeN madeC) (.int .i64 (Int.tmod (IntKind.wrap .i64 (x_2 - 1)) (madeN : Int)))) (.pointer (some (madeBA.add (Int.toNat (Int.tmod (IntKind.wrap .i64 (x_2 - 1)) (madeN : Int)) * 1)))) (fun w => by kernel_rfl) (fun w _ => indexAt_run (P := Try.prog) (t := 39) (elem := 29) (sz := 1) (a := madeBA) (len := madeN) (cap := madeC) (k := .i64) (i := (Int.tmod (IntKind.wrap .i64 (x_2 - 1)) (madeN : Int))) Try.underlying39 (fun w => by kernel_rfl) q10.1 q10.2 w) [(20, .pointer (some (madeBA.add (Int.toNat (Int.tmod (IntKind.wrap .i64 (x_2 - 1)) (madeN : Int)) * 1))))] (ps (by kernel_rfl)) ?_
      obtain ⟨x_3, q11, h⟩ := h
      refine N_val (some 21) (loadN 29 (.pointer (some (madeBA.add (Int.toNat (Int.tmod (IntKind.wrap .i64 (x_2 - 1)) (madeN : Int)) * 1))))) (.int .u64 x_3) (fun w => by kernel_rfl) (loadN_run (loadOK_one (fun w => by kernel_rfl) q11)) [(21, .int .u64 x_3)] (ps (by kernel_rfl)) ?_
      refine N_run 1 [(4, .int .u64 x_3)] (fun w => by kernel_rfl) ?_
      refine N_end (by kernel_rfl) ?_
      refine S_then ?_
      refine S_ret (by kernel_rfl) ?_
      show At _ _ _ _ _ (Q .ret)
      exact S_done (fn := Try.f25) [.int .u64 x_3] hQ (show ResOK _ _ _ [.tmp 4] _ from .tmp (by kernel_rfl) (.nil)) h
    · rw [if_neg c6] at h
      have b7 : ((decide (x > 0)) && (decide ((madeN : Int) > 0))) = false := eq_false_of_ne_true c6
      refine S_env [(1, .slice madeB madeN madeC), (2, .pointer (some (Addr.mk b 0 none))), (12, .bool false)] (by simp only [b7, Bool.not_true, Bool.not_false]) ?_
      clear b7
      refine S_condF (.tmp 12) kk7 kk8 (by kernel_rfl) (by kernel_rfl) ?_
      refine S_skip (by kernel_rfl) ?_
      refine S_then ?_
      refine S_seq kk11 kk12 (by kernel_rfl) ?_
      refine S_region 3 (Code.ops kk11) (by kernel_rfl) ?_
      refine N_run 1 [(22, .pointer (some (Addr.mk b 0 none)))] (fun w => by kernel_rfl) ?_
      obtain ⟨x_4, q12, h⟩ := h
      refine N_val (some 23) (loadN 29 (.pointer (some (Addr.mk b 0 none)))) (.int .u64 x_4) (fun w => by kernel_rfl) (loadN_run (loadOK_one (fun w => by kernel_rfl) q12)) [(23, .int .u64 x_4)] (ps (by kernel_rfl)) ?_
      refine N_run 1 [(4, .int .u64 x_4)] (fun w => by kernel_rfl) ?_
      refine N_end (by kernel_rfl) ?_
      refine S_then ?_
      refine S_ret (by kernel_rfl) ?_
      show At _ _ _ _ _ (Q .ret)
      exact S_done (fn := Try.f25) [.int .u64 x_4] hQ (show ResOK _ _ _ [.tmp 4] _ from .tmp (by kernel_rfl) (.nil)) h
  · intro hk
    refine N_sub [(1, .slice madeB madeN madeC), (2, .pointer (some (Addr.mk b 0 none))), (8, .bool (decide (x > 0)))] (sb (by kernel_rfl)) ?_
    by_cases c4 : x > 0
    · have b5 : (decide (x > 0)) = true := decide_eq_true c4
      refine N_env [(1, .slice madeB madeN madeC), (2, .pointer (some (Addr.mk b 0 none))), (8, .bool true)] (by simp only [b5, Bool.not_true, Bool.not_false]) ?_
      refine N_run 4 [(1, .slice madeB madeN madeC), (2, .pointer (some (Addr.mk b 0 none))), (12, .bool (decide ((madeN : Int) > 0)))] (fun w => by kernel_rfl) ?_
      refine N_end (by kernel_rfl) ?_
      refine S_env [(1, .slice madeB madeN madeC), (2, .pointer (some (Addr.mk b 0 none))), (12, .bool ((decide (x > 0)) && (decide ((madeN : Int) > 0))))] (by simp only [b5, Bool.true_or, Bool.false_or, Bool.or_true, Bool.or_false, Bool.true_and, Bool.false_and, Bool.and_true, Bool.and_false, Bool.not_true, Bool.not_false, cond_true, cond_false]) ?_
      exact hk
    · have b5 : (decide (x > 0)) = false := decide_eq_false c4
      refine N_env [(1, .slice madeB madeN madeC), (2, .pointer (some (Addr.mk b 0 none))), (8, .bool false)] (by simp only [b5, Bool.not_true, Bool.not_false]) ?_
      refine N_run 4 [(1, .slice madeB madeN madeC), (2, .pointer (some (Addr.mk b 0 none))), (12, .bool false)] (fun w => by kernel_rfl) ?_
      refine N_end (by kernel_rfl) ?_
      refine S_env [(1, .slice madeB madeN madeC), (2, .pointer (some (Addr.mk b 0 none))), (12, .bool ((decide (x > 0)) && (decide ((madeN : Int) > 0))))] (by simp only [b5, Bool.true_or, Bool.false_or, Bool.or_true, Bool.or_false, Bool.true_and, Bool.false_and, Bool.and_true, Bool.and_false, Bool.not_true, Bool.not_false, cond_true, cond_false]) ?_
      exact hk
end morainelaw10_word

end Go.Proofs.Ytfohlkiikppefaa
