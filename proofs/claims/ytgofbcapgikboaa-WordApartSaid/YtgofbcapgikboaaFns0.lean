/-
  Written by a program of mine (gen.py): for functions of this translation a predicate transformer over heaps (.pt), and the proof that it is sound for the call (.link).
-/
import Derived.Test.YtgofbcapgikboaaFnsC
set_option linter.unusedSimpArgs false
set_option linter.unusedVariables false
namespace Go.Proofs.Ytgofbcapgikboaa
open Go
/-! moraine/word.Fix -/
noncomputable def word_Fix.k0 : Code := Func.code Try.f9
noncomputable def word_Fix.k1 : Code := Code.fa word_Fix.k0
noncomputable def word_Fix.k2 : Code := Code.fb word_Fix.k0
noncomputable def word_Fix.k3 : Code := Code.fa word_Fix.k2
noncomputable def word_Fix.k4 : Code := Code.fb word_Fix.k2
noncomputable def word_Fix.k5 : Code := Code.fa word_Fix.k3
noncomputable def word_Fix.k6 : Code := Code.fb word_Fix.k3
noncomputable def word_Fix.k7 : Code := Code.fa word_Fix.k6
noncomputable def word_Fix.k8 : Code := Code.fb word_Fix.k6
noncomputable def word_Fix.k9 : Code := Code.fa word_Fix.k7
noncomputable def word_Fix.k10 : Code := Code.fb word_Fix.k7
noncomputable def word_Fix.k11 : Code := Code.fa word_Fix.k4
noncomputable def word_Fix.k12 : Code := Code.fb word_Fix.k4
def word_Fix.pt (x : Int) (H : Array Obj) (R : Value → Array Obj → Prop) : Prop :=
 if ((decide (x < (-1152921504606846976))) || (decide (x ≥ 1152921504606846976))) = true then (
  R (.tuple #[.int .u64 0, .int .i64 4]) H)
 else
 R (.tuple #[.int .u64 (IntKind.wrap .u64 (ishl .i64 x 3)), .int .i64 0]) H
set_option maxRecDepth 100000 in
theorem word_Fix.link {x : Int} {H : Array Obj} {R : Value → Array Obj → Prop} (h : word_Fix.pt x H R) : word_Fix.C x H R := by
  refine S_enter (fn := Try.f9) (c := word_Fix.k0) 13 Try.func9 (by kernel_rfl) (by kernel_rfl) (Nat.le_of_ble_eq_true (by kernel_rfl)) ?_
  intro w0 Q hQ
  unfold word_Fix.pt at h
  refine S_sub [(0, .int .i64 x)] (sb (by kernel_rfl)) ?_
  refine S_seq word_Fix.k1 word_Fix.k2 (by kernel_rfl) ?_
  refine S_region 0 (Code.ops word_Fix.k1) (by kernel_rfl) ?_
  refine N_run 2 [(0, .int .i64 x)] (fun w => by kernel_rfl) ?_
  refine N_end (by kernel_rfl) ?_
  refine S_then ?_
  refine S_seq word_Fix.k3 word_Fix.k4 (by kernel_rfl) ?_
  refine S_seq word_Fix.k5 word_Fix.k6 (by kernel_rfl) ?_
  refine S_region 1 (Code.ops word_Fix.k5) (by kernel_rfl) ?_
  refine N_cut [(0, .int .i64 x), (9, .bool ((decide (x < (-1152921504606846976))) || (decide (x ≥ 1152921504606846976))))] ?_ ?_
  · refine S_then ?_
    by_cases c3 : ((decide (x < (-1152921504606846976))) || (decide (x ≥ 1152921504606846976))) = true
    · rw [if_pos c3] at h
      have b4 : ((decide (x < (-1152921504606846976))) || (decide (x ≥ 1152921504606846976))) = true := c3
      refine S_env [(0, .int .i64 x), (9, .bool true)] (by simp only [b4, Bool.not_true, Bool.not_false]) ?_
      clear b4
      refine S_condT (.tmp 9) word_Fix.k7 word_Fix.k8 (by kernel_rfl) (by kernel_rfl) ?_
      refine S_seq word_Fix.k9 word_Fix.k10 (by kernel_rfl) ?_
      refine S_region 2 (Code.ops word_Fix.k9) (by kernel_rfl) ?_
      refine N_run 2 [(2, .int .u64 0), (3, .int .i64 4)] (fun w => by kernel_rfl) ?_
      refine N_end (by kernel_rfl) ?_
      refine S_then ?_
      refine S_ret (by kernel_rfl) ?_
      show At _ _ _ _ (Q .ret)
      exact S_done (fn := Try.f9) [.int .u64 0, .int .i64 4] hQ (show ResOK _ _ _ [.tmp 2, .tmp 3] _ from .tmp (by kernel_rfl) (.tmp (by kernel_rfl) (.nil))) h
    · rw [if_neg c3] at h
      have b4 : ((decide (x < (-1152921504606846976))) || (decide (x ≥ 1152921504606846976))) = false := eq_false_of_ne_true c3
      refine S_env [(0, .int .i64 x), (9, .bool false)] (by simp only [b4, Bool.not_true, Bool.not_false]) ?_
      clear b4
      refine S_condF (.tmp 9) word_Fix.k7 word_Fix.k8 (by kernel_rfl) (by kernel_rfl) ?_
      refine S_skip (by kernel_rfl) ?_
      refine S_then ?_
      refine S_seq word_Fix.k11 word_Fix.k12 (by kernel_rfl) ?_
      refine S_region 3 (Code.ops word_Fix.k11) (by kernel_rfl) ?_
      refine N_run 5 [(2, .int .u64 (IntKind.wrap .u64 (ishl .i64 x 3))), (3, .int .i64 0)] (fun w => by kernel_rfl) ?_
      refine N_end (by kernel_rfl) ?_
      refine S_then ?_
      refine S_ret (by kernel_rfl) ?_
      show At _ _ _ _ (Q .ret)
      exact S_done (fn := Try.f9) [.int .u64 (IntKind.wrap .u64 (ishl .i64 x 3)), .int .i64 0] hQ (show ResOK _ _ _ [.tmp 2, .tmp 3] _ from .tmp (by kernel_rfl) (.tmp (by kernel_rfl) (.nil))) h
  · intro hk
    refine N_run 3 [(0, .int .i64 x), (6, .bool (decide (x < (-1152921504606846976))))] (fun w => by kernel_rfl) ?_
    by_cases c1 : x < (-1152921504606846976)
    · have b2 : (decide (x < (-1152921504606846976))) = true := decide_eq_true c1
      refine N_env [(0, .int .i64 x), (6, .bool true)] (by simp only [b2, Bool.not_true, Bool.not_false]) ?_
      refine N_run 3 [(0, .int .i64 x), (9, .bool true)] (fun w => by kernel_rfl) ?_
      refine N_end (by kernel_rfl) ?_
      refine S_env [(0, .int .i64 x), (9, .bool ((decide (x < (-1152921504606846976))) || (decide (x ≥ 1152921504606846976))))] (by simp only [b2, Bool.true_or, Bool.false_or, Bool.or_true, Bool.or_false, Bool.true_and, Bool.false_and, Bool.and_true, Bool.and_false, Bool.not_true, Bool.not_false, cond_true, cond_false]) ?_
      exact hk
    · have b2 : (decide (x < (-1152921504606846976))) = false := decide_eq_false c1
      refine N_env [(0, .int .i64 x), (6, .bool false)] (by simp only [b2, Bool.not_true, Bool.not_false]) ?_
      refine N_run 3 [(0, .int .i64 x), (9, .bool (decide (x ≥ 1152921504606846976)))] (fun w => by kernel_rfl) ?_
      refine N_end (by kernel_rfl) ?_
      refine S_env [(0, .int .i64 x), (9, .bool ((decide (x < (-1152921504606846976))) || (decide (x ≥ 1152921504606846976))))] (by simp only [b2, Bool.true_or, Bool.false_or, Bool.or_true, Bool.or_false, Bool.true_and, Bool.false_and, Bool.and_true, Bool.and_false, Bool.not_true, Bool.not_false, cond_true, cond_false]) ?_
      exact hk

/-! moraine/moraineref01.Fixes -/
noncomputable def moraineref01_Fixes.k0 : Code := Func.code Try.f10
noncomputable def moraineref01_Fixes.k1 : Code := Code.fa moraineref01_Fixes.k0
noncomputable def moraineref01_Fixes.k2 : Code := Code.fb moraineref01_Fixes.k0
noncomputable def moraineref01_Fixes.k3 : Code := Code.fa moraineref01_Fixes.k2
noncomputable def moraineref01_Fixes.k4 : Code := Code.fb moraineref01_Fixes.k2
def moraineref01_Fixes.pt (x : Int) (H : Array Obj) (R : Value → Array Obj → Prop) : Prop :=
 moraineref01_power.C 60 H (fun v H1 => ∃ x_2 : Int, v = .int .u64 x_2 ∧ 
  if x ≥ (IntKind.wrap .i64 (0 - (IntKind.wrap .i64 x_2))) then (
   moraineref01_power.C 60 H1 (fun v_2 H2 => ∃ x_3 : Int, v_2 = .int .u64 x_3 ∧ 
    R (.bool (decide (x < (IntKind.wrap .i64 x_3)))) H2))
  else
  R (.bool false) H1)
set_option maxRecDepth 100000 in
theorem moraineref01_Fixes.link {x : Int} {H : Array Obj} {R : Value → Array Obj → Prop} (h : moraineref01_Fixes.pt x H R) : moraineref01_Fixes.C x H R := by
  refine S_enter (fn := Try.f10) (c := moraineref01_Fixes.k0) 14 Try.func10 (by kernel_rfl) (by kernel_rfl) (Nat.le_of_ble_eq_true (by kernel_rfl)) ?_
  intro w0 Q hQ
  unfold moraineref01_Fixes.pt at h
  refine S_sub [(0, .int .i64 x)] (sb (by kernel_rfl)) ?_
  refine S_seq moraineref01_Fixes.k1 moraineref01_Fixes.k2 (by kernel_rfl) ?_
  refine S_region 0 (Code.ops moraineref01_Fixes.k1) (by kernel_rfl) ?_
  refine N_run 1 [(0, .int .i64 x)] (fun w => by kernel_rfl) ?_
  refine N_end (by kernel_rfl) ?_
  refine S_then ?_
  refine S_seq moraineref01_Fixes.k3 moraineref01_Fixes.k4 (by kernel_rfl) ?_
  refine S_region 1 (Code.ops moraineref01_Fixes.k3) (by kernel_rfl) ?_
  refine N_run 1 [(0, .int .i64 x), (3, .int .i64 x)] (fun w => by kernel_rfl) ?_
  refine N_call (some 4) 26 #[.int .i64 60] (fun w => by kernel_rfl) h ?_
  rintro v H1 ⟨x_2, rfl, h⟩
  refine ⟨[(0, .int .i64 x), (3, .int .i64 x), (4, .int .u64 x_2)], ps (by kernel_rfl), ?_⟩
  refine N_run 4 [(0, .int .i64 x), (8, .bool (decide (x ≥ (IntKind.wrap .i64 (0 - (IntKind.wrap .i64 x_2))))))] (fun w => by kernel_rfl) ?_
  by_cases c1 : x ≥ (IntKind.wrap .i64 (0 - (IntKind.wrap .i64 x_2)))
  · rw [if_pos c1] at h
    have b2 : (decide (x ≥ (IntKind.wrap .i64 (0 - (IntKind.wrap .i64 x_2))))) = true := decide_eq_true c1
    refine N_env [(0, .int .i64 x), (8, .bool true)] (by simp only [b2, Bool.not_true, Bool.not_false]) ?_
    clear b2
    refine N_run 1 [(8, .bool true), (9, .int .i64 x)] (fun w => by kernel_rfl) ?_
    refine N_call (some 10) 26 #[.int .i64 60] (fun w => by kernel_rfl) h ?_
    rintro v_2 H2 ⟨x_3, rfl, h⟩
    refine ⟨[(8, .bool true), (9, .int .i64 x), (10, .int .u64 x_3)], ps (by kernel_rfl), ?_⟩
    refine N_run 4 [(2, .bool (decide (x < (IntKind.wrap .i64 x_3))))] (fun w => by kernel_rfl) ?_
    refine N_end (by kernel_rfl) ?_
    refine S_then ?_
    refine S_ret (by kernel_rfl) ?_
    show At _ _ _ _ (Q .ret)
    exact S_done (fn := Try.f10) [.bool (decide (x < (IntKind.wrap .i64 x_3)))] hQ (show ResOK _ _ _ [.tmp 2] _ from .tmp (by kernel_rfl) (.nil)) h
  · rw [if_neg c1] at h
    have b2 : (decide (x ≥ (IntKind.wrap .i64 (0 - (IntKind.wrap .i64 x_2))))) = false := decide_eq_false c1
    refine N_env [(0, .int .i64 x), (8, .bool false)] (by simp only [b2, Bool.not_true, Bool.not_false]) ?_
    clear b2
    refine N_run 6 [(2, .bool false)] (fun w => by kernel_rfl) ?_
    refine N_end (by kernel_rfl) ?_
    refine S_then ?_
    refine S_ret (by kernel_rfl) ?_
    show At _ _ _ _ (Q .ret)
    exact S_done (fn := Try.f10) [.bool false] hQ (show ResOK _ _ _ [.tmp 2] _ from .tmp (by kernel_rfl) (.nil)) h

/-! moraine/moraineref01.Word -/
noncomputable def moraineref01_Word.k0 : Code := Func.code Try.f11
noncomputable def moraineref01_Word.k1 : Code := Code.fa moraineref01_Word.k0
noncomputable def moraineref01_Word.k2 : Code := Code.fb moraineref01_Word.k0
noncomputable def moraineref01_Word.k3 : Code := Code.fa moraineref01_Word.k2
noncomputable def moraineref01_Word.k4 : Code := Code.fb moraineref01_Word.k2
noncomputable def moraineref01_Word.k5 : Code := Code.fa moraineref01_Word.k3
noncomputable def moraineref01_Word.k6 : Code := Code.fb moraineref01_Word.k3
noncomputable def moraineref01_Word.k7 : Code := Code.fa moraineref01_Word.k6
noncomputable def moraineref01_Word.k8 : Code := Code.fa moraineref01_Word.k7
noncomputable def moraineref01_Word.k9 : Code := Code.fb moraineref01_Word.k7
noncomputable def moraineref01_Word.k10 : Code := Code.fa moraineref01_Word.k9
noncomputable def moraineref01_Word.k11 : Code := Code.fb moraineref01_Word.k9
noncomputable def moraineref01_Word.k12 : Code := Code.fa moraineref01_Word.k10
noncomputable def moraineref01_Word.k13 : Code := Code.fb moraineref01_Word.k10
noncomputable def moraineref01_Word.k14 : Code := Code.fa moraineref01_Word.k13
noncomputable def moraineref01_Word.k15 : Code := Code.fb moraineref01_Word.k13
noncomputable def moraineref01_Word.k16 : Code := Code.fa moraineref01_Word.k14
noncomputable def moraineref01_Word.k17 : Code := Code.fb moraineref01_Word.k14
noncomputable def moraineref01_Word.k18 : Code := Code.fa moraineref01_Word.k17
noncomputable def moraineref01_Word.k19 : Code := Code.fb moraineref01_Word.k17
noncomputable def moraineref01_Word.k20 : Code := Code.fa moraineref01_Word.k15
noncomputable def moraineref01_Word.k21 : Code := Code.fb moraineref01_Word.k15
noncomputable def moraineref01_Word.k22 : Code := Code.fa moraineref01_Word.k11
noncomputable def moraineref01_Word.k23 : Code := Code.fb moraineref01_Word.k11
noncomputable def moraineref01_Word.k24 : Code := Code.fa moraineref01_Word.k23
noncomputable def moraineref01_Word.k25 : Code := Code.fb moraineref01_Word.k23
noncomputable def moraineref01_Word.k26 : Code := Code.fa moraineref01_Word.k24
noncomputable def moraineref01_Word.k27 : Code := Code.fb moraineref01_Word.k24
noncomputable def moraineref01_Word.k28 : Code := Code.fa moraineref01_Word.k25
noncomputable def moraineref01_Word.k29 : Code := Code.fb moraineref01_Word.k25
noncomputable def moraineref01_Word.k30 : Code := Code.fa moraineref01_Word.k29
noncomputable def moraineref01_Word.k31 : Code := Code.fb moraineref01_Word.k29
noncomputable def moraineref01_Word.k32 : Code := Code.fa moraineref01_Word.k30
noncomputable def moraineref01_Word.k33 : Code := Code.fb moraineref01_Word.k30
noncomputable def moraineref01_Word.k34 : Code := Code.fa moraineref01_Word.k31
noncomputable def moraineref01_Word.k35 : Code := Code.fb moraineref01_Word.k31
noncomputable def moraineref01_Word.k36 : Code := Code.fa moraineref01_Word.k35
noncomputable def moraineref01_Word.k37 : Code := Code.fb moraineref01_Word.k35
noncomputable def moraineref01_Word.k38 : Code := Code.fa moraineref01_Word.k36
noncomputable def moraineref01_Word.k39 : Code := Code.fb moraineref01_Word.k36
noncomputable def moraineref01_Word.k40 : Code := Code.fa moraineref01_Word.k4
noncomputable def moraineref01_Word.k41 : Code := Code.fb moraineref01_Word.k4
def moraineref01_Word.pt (tKind : Int) (tTag : Int) (tA : Int) (tX : Int) (tMore : Int) (H : Array Obj) (R : Value → Array Obj → Prop) : Prop :=
 ∀ (b : Nat) (H1 : Array Obj), b = H.size → H1 = H.push (.cells #[.int .i64 tKind, .int .i64 tTag, .int .i64 tA, .int .i64 tX, .int .u64 tMore] 30) →
 ∃ x : Int, hat H1 (Addr.mk b 0 none) = some (.int .i64 x) ∧
 if x = 1 then (
  ∃ x_2 : Int, hat H1 ((Addr.mk b 0 none).add 3) = some (.int .i64 x_2) ∧
  ∃ x_3 : Int, hat H1 ((Addr.mk b 0 none).add 3) = some (.int .i64 x_3) ∧
  if x_3 < 0 then (
   ∃ x_4 : Int, hat H1 ((Addr.mk b 0 none).add 3) = some (.int .i64 x_4) ∧
   moraineref01_power.C 61 H1 (fun v H2 => ∃ x_5 : Int, v = .int .u64 x_5 ∧ RowAt H2 ((Addr.mk b 0 none).add 3) 0 [.int .i64 x_4] ∧ 
    R (.int .u64 (IntKind.wrap .u64 ((IntKind.wrap .u64 (x_5 - (IntKind.wrap .u64 (IntKind.wrap .i64 (0 - x_4))))) * 8))) H2))
  else
  R (.int .u64 (IntKind.wrap .u64 ((IntKind.wrap .u64 x_2) * 8))) H1)
 else
 if x = 2 then (
  ∃ x_6 : Int, hat H1 ((Addr.mk b 0 none).add 2) = some (.int .i64 x_6) ∧
  ∃ x_7 : Int, hat H1 ((Addr.mk b 0 none).add 1) = some (.int .i64 x_7) ∧
  R (.int .u64 (IntKind.wrap .u64 ((IntKind.wrap .u64 ((IntKind.wrap .u64 x_6) * 8)) + (IntKind.wrap .u64 x_7)))) H1)
 else
 if x = 3 then (
  ∃ x_8 : Int, hat H1 ((Addr.mk b 0 none).add 2) = some (.int .i64 x_8) ∧
  R (.int .u64 (IntKind.wrap .u64 ((IntKind.wrap .u64 ((IntKind.wrap .u64 x_8) * 8)) + 4))) H1)
 else
 if x = 4 then (
  ∃ x_9 : Int, hat H1 ((Addr.mk b 0 none).add 2) = some (.int .i64 x_9) ∧
  R (.int .u64 (IntKind.wrap .u64 ((IntKind.wrap .u64 ((IntKind.wrap .u64 ((IntKind.wrap .u64 x_9) * 256)) + 56)) + 4))) H1)
 else
 ∃ x_10 : Int, hat H1 ((Addr.mk b 0 none).add 4) = some (.int .u64 x_10) ∧
 ∃ x_11 : Int, hat H1 ((Addr.mk b 0 none).add 2) = some (.int .i64 x_11) ∧
 ∃ x_12 : Int, hat H1 ((Addr.mk b 0 none).add 1) = some (.int .i64 x_12) ∧
 moraineref01_power.C 16 H1 (fun v_2 H3 => ∃ x_13 : Int, v_2 = .int .u64 x_13 ∧ RowAt H3 ((Addr.mk b 0 none).add 4) 0 [.int .u64 x_10] ∧ RowAt H3 ((Addr.mk b 0 none).add 2) 0 [.int .i64 x_11] ∧ RowAt H3 ((Addr.mk b 0 none).add 1) 0 [.int .i64 x_12] ∧ 
  R (.int .u64 (IntKind.wrap .u64 ((IntKind.wrap .u64 ((IntKind.wrap .u64 ((IntKind.wrap .u64 (x_10 * x_13)) + (IntKind.wrap .u64 ((IntKind.wrap .u64 x_11) * 256)))) + (IntKind.wrap .u64 ((IntKind.wrap .u64 x_12) * 8)))) + 5))) H3)
set_option maxRecDepth 100000 in
theorem moraineref01_Word.link {tKind : Int} {tTag : Int} {tA : Int} {tX : Int} {tMore : Int} {H : Array Obj} {R : Value → Array Obj → Prop} (h : moraineref01_Word.pt tKind tTag tA tX tMore H R) : moraineref01_Word.C tKind tTag tA tX tMore H R := by
  refine S_enter (fn := Try.f11) (c := moraineref01_Word.k0) 62 Try.func11 (by kernel_rfl) (by kernel_rfl) (Nat.le_of_ble_eq_true (by kernel_rfl)) ?_
  intro w0 Q hQ
  unfold moraineref01_Word.pt at h
  refine S_sub [(0, .agg #[.int .i64 tKind, .int .i64 tTag, .int .i64 tA, .int .i64 tX, .int .u64 tMore])] (sb (by kernel_rfl)) ?_
  refine S_seq moraineref01_Word.k1 moraineref01_Word.k2 (by kernel_rfl) ?_
  refine S_region 0 (Code.ops moraineref01_Word.k1) (by kernel_rfl) ?_
  refine N_new (some 1) (fun b => .pointer (some (Addr.mk b 0 none))) (.cells #[.int .i64 tKind, .int .i64 tTag, .int .i64 tA, .int .i64 tX, .int .u64 tMore] 30) (fun w => by kernel_rfl) ?_
  intro b H1 e1 e2
  replace h := h b H1 e1 e2
  refine ⟨[(1, .pointer (some (Addr.mk b 0 none)))], ps (by kernel_rfl), ?_⟩
  refine N_run 1 [(1, .pointer (some (Addr.mk b 0 none)))] (fun w => by kernel_rfl) ?_
  refine N_end (by kernel_rfl) ?_
  refine S_then ?_
  refine S_seq moraineref01_Word.k3 moraineref01_Word.k4 (by kernel_rfl) ?_
  refine S_seq moraineref01_Word.k5 moraineref01_Word.k6 (by kernel_rfl) ?_
  refine S_region 1 (Code.ops moraineref01_Word.k5) (by kernel_rfl) ?_
  refine N_run 1 [(1, .pointer (some (Addr.mk b 0 none))), (4, .pointer (some (Addr.mk b 0 none)))] (fun w => by kernel_rfl) ?_
  obtain ⟨x, q3, h⟩ := h
  refine N_val (some 5) (loadN 3 (.pointer (some (Addr.mk b 0 none)))) (.int .i64 x) (fun w => by kernel_rfl) (loadN_run (loadOK_one (fun w => by kernel_rfl) q3)) [(1, .pointer (some (Addr.mk b 0 none))), (5, .int .i64 x)] (ps (by kernel_rfl)) ?_
  refine N_end (by kernel_rfl) ?_
  refine S_then ?_
  refine S_block 0 moraineref01_Word.k7 (by kernel_rfl) ?_
  refine S_seq moraineref01_Word.k8 moraineref01_Word.k9 (by kernel_rfl) ?_
  refine S_region 2 (Code.ops moraineref01_Word.k8) (by kernel_rfl) ?_
  refine N_run 2 [(1, .pointer (some (Addr.mk b 0 none))), (5, .int .i64 x), (6, .bool (x == 1))] (fun w => by kernel_rfl) ?_
  refine N_end (by kernel_rfl) ?_
  refine S_then ?_
  by_cases c4 : x = 1
  · rw [if_pos c4] at h
    have b5 : (x == 1) = true := beq_iff_eq.mpr c4
    refine S_env [(1, .pointer (some (Addr.mk b 0 none))), (5, .int .i64 x), (6, .bool true)] (by simp only [b5, Bool.not_true, Bool.not_false]) ?_
    clear b5
    refine S_condT (.tmp 6) moraineref01_Word.k10 moraineref01_Word.k11 (by kernel_rfl) (by kernel_rfl) ?_
    refine S_seq moraineref01_Word.k12 moraineref01_Word.k13 (by kernel_rfl) ?_
    refine S_region 3 (Code.ops moraineref01_Word.k12) (by kernel_rfl) ?_
    refine N_run 1 [(1, .pointer (some (Addr.mk b 0 none))), (8, .pointer (some ((Addr.mk b 0 none).add 3)))] (fun w => by kernel_rfl) ?_
    obtain ⟨x_2, q6, h⟩ := h
    refine N_val (some 9) (loadN 2 (.pointer (some ((Addr.mk b 0 none).add 3)))) (.int .i64 x_2) (fun w => by kernel_rfl) (loadN_run (loadOK_one (fun w => by kernel_rfl) q6)) [(1, .pointer (some (Addr.mk b 0 none))), (9, .int .i64 x_2)] (ps (by kernel_rfl)) ?_
    refine N_run 2 [(1, .pointer (some (Addr.mk b 0 none))), (3, .int .u64 (IntKind.wrap .u64 x_2))] (fun w => by kernel_rfl) ?_
    refine N_end (by kernel_rfl) ?_
    refine S_then ?_
    refine S_seq moraineref01_Word.k14 moraineref01_Word.k15 (by kernel_rfl) ?_
    refine S_seq moraineref01_Word.k16 moraineref01_Word.k17 (by kernel_rfl) ?_
    refine S_region 4 (Code.ops moraineref01_Word.k16) (by kernel_rfl) ?_
    refine N_run 1 [(1, .pointer (some (Addr.mk b 0 none))), (3, .int .u64 (IntKind.wrap .u64 x_2)), (11, .pointer (some ((Addr.mk b 0 none).add 3)))] (fun w => by kernel_rfl) ?_
    obtain ⟨x_3, q7, h⟩ := h
    refine N_val (some 12) (loadN 2 (.pointer (some ((Addr.mk b 0 none).add 3)))) (.int .i64 x_3) (fun w => by kernel_rfl) (loadN_run (loadOK_one (fun w => by kernel_rfl) q7)) [(1, .pointer (some (Addr.mk b 0 none))), (3, .int .u64 (IntKind.wrap .u64 x_2)), (12, .int .i64 x_3)] (ps (by kernel_rfl)) ?_
    refine N_run 1 [(1, .pointer (some (Addr.mk b 0 none))), (3, .int .u64 (IntKind.wrap .u64 x_2)), (13, .bool (decide (x_3 < 0)))] (fun w => by kernel_rfl) ?_
    refine N_end (by kernel_rfl) ?_
    refine S_then ?_
    by_cases c8 : x_3 < 0
    · rw [if_pos c8] at h
      have b9 : (decide (x_3 < 0)) = true := decide_eq_true c8
      refine S_env [(1, .pointer (some (Addr.mk b 0 none))), (3, .int .u64 (IntKind.wrap .u64 x_2)), (13, .bool true)] (by simp only [b9, Bool.not_true, Bool.not_false]) ?_
      clear b9
      refine S_condT (.tmp 13) moraineref01_Word.k18 moraineref01_Word.k19 (by kernel_rfl) (by kernel_rfl) ?_
      obtain ⟨x_4, q10, h⟩ := h
      refine S_regionG 5 (Code.ops moraineref01_Word.k18) [(7, ((Addr.mk b 0 none).add 3), [.int .i64 x_4])] 7 #[false, false, false, false, false, false, false] (by kernel_rfl) (by kernel_rfl) (by kernel_rfl) (by kernel_rfl) (by kernel_rfl) (show FactsAt _ _ _ from ⟨⟨q10, trivial⟩, trivial⟩) ?_
      refine G_take 1 (some 15) (.pointer (some ((Addr.mk b 0 none).add 3))) #[false, true, false, false, false, false, false] [(3, .int .u64 (IntKind.wrap .u64 x_2)), (15, .pointer (some ((Addr.mk b 0 none).add 3)))] ((pure (.value (.pointer (some ((Addr.mk b 0 none).add 3)))) : Sem Next)) (fun w => by kernel_rfl) (fun _ _ _ _ _ => rfl) (by kernel_rfl) (by kernel_rfl) (by kernel_rfl) (by kernel_rfl) (by kernel_rfl) (ps (by kernel_rfl)) ?_
      refine G_take 2 (some 16) (.int .i64 x_4) #[false, true, true, false, false, false, false] [(3, .int .u64 (IntKind.wrap .u64 x_2)), (16, .int .i64 x_4)] (loadN 2 (.pointer (some ((Addr.mk b 0 none).add 3)))) (fun w => by kernel_rfl) (held_one 7 (fun w => by kernel_rfl) (List.Mem.head _) (.inr (by kernel_rfl))) (by kernel_rfl) (by kernel_rfl) (by kernel_rfl) (by kernel_rfl) (by kernel_rfl) (ps (by kernel_rfl)) ?_
      refine G_take 3 (some 17) (.int .i64 (IntKind.wrap .i64 (0 - x_4))) #[false, true, true, true, false, false, false] [(3, .int .u64 (IntKind.wrap .u64 x_2)), (17, .int .i64 (IntKind.wrap .i64 (0 - x_4)))] ((pure (.value (.int .i64 (IntKind.wrap .i64 (0 - x_4)))) : Sem Next)) (fun w => by kernel_rfl) (fun _ _ _ _ _ => rfl) (by kernel_rfl) (by kernel_rfl) (by kernel_rfl) (by kernel_rfl) (by kernel_rfl) (ps (by kernel_rfl)) ?_
      refine G_take 4 (some 18) (.int .u64 (IntKind.wrap .u64 (IntKind.wrap .i64 (0 - x_4)))) #[false, true, true, true, true, false, false] [(3, .int .u64 (IntKind.wrap .u64 x_2)), (18, .int .u64 (IntKind.wrap .u64 (IntKind.wrap .i64 (0 - x_4))))] ((pure (.value (.int .u64 (IntKind.wrap .u64 (IntKind.wrap .i64 (0 - x_4))))) : Sem Next)) (fun w => by kernel_rfl) (fun _ _ _ _ _ => rfl) (by kernel_rfl) (by kernel_rfl) (by kernel_rfl) (by kernel_rfl) (by kernel_rfl) (ps (by kernel_rfl)) ?_
      refine G_call 0 (some 14) #[true, true, true, true, true, false, false] 26 #[.int .i64 61] (by kernel_rfl) (fun w => by kernel_rfl) h (by kernel_rfl) ?_
      rintro v H2 ⟨x_5, rfl, h⟩
      obtain ⟨f11, h⟩ := h
      refine ⟨[(3, .int .u64 (IntKind.wrap .u64 x_2)), (14, .int .u64 x_5), (18, .int .u64 (IntKind.wrap .u64 (IntKind.wrap .i64 (0 - x_4))))], ps (by kernel_rfl), (show FactsAt _ _ _ from ⟨f11, trivial⟩), ?_⟩
      refine G_take 5 (some 19) (.int .u64 (IntKind.wrap .u64 (x_5 - (IntKind.wrap .u64 (IntKind.wrap .i64 (0 - x_4)))))) #[true, true, true, true, true, true, false] [(3, .int .u64 (IntKind.wrap .u64 x_2)), (19, .int .u64 (IntKind.wrap .u64 (x_5 - (IntKind.wrap .u64 (IntKind.wrap .i64 (0 - x_4))))))] (pure (.value (.int .u64 (IntKind.wrap .u64 (x_5 - (IntKind.wrap .u64 (IntKind.wrap .i64 (0 - x_4))))))) : Sem Next) (fun w => by kernel_rfl) (fun _ _ _ _ _ => rfl) (by kernel_rfl) (by kernel_rfl) (by kernel_rfl) (by kernel_rfl) (by kernel_rfl) (ps (by kernel_rfl)) ?_
      refine G_take 6 (some 3) (.int .u64 (IntKind.wrap .u64 (x_5 - (IntKind.wrap .u64 (IntKind.wrap .i64 (0 - x_4)))))) #[true, true, true, true, true, true, true] [(3, .int .u64 (IntKind.wrap .u64 (x_5 - (IntKind.wrap .u64 (IntKind.wrap .i64 (0 - x_4))))))] (pure (.value (.int .u64 (IntKind.wrap .u64 (x_5 - (IntKind.wrap .u64 (IntKind.wrap .i64 (0 - x_4))))))) : Sem Next) (fun w => by kernel_rfl) (fun _ _ _ _ _ => rfl) (by kernel_rfl) (by kernel_rfl) (by kernel_rfl) (by kernel_rfl) (by kernel_rfl) (ps (by kernel_rfl)) ?_
      refine G_sub [(3, .int .u64 (IntKind.wrap .u64 (x_5 - (IntKind.wrap .u64 (IntKind.wrap .i64 (0 - x_4))))))] (sb (by kernel_rfl)) ?_
      refine G_end (by kernel_rfl) ?_
      refine S_then ?_
      refine S_seq moraineref01_Word.k20 moraineref01_Word.k21 (by kernel_rfl) ?_
      refine S_region 6 (Code.ops moraineref01_Word.k20) (by kernel_rfl) ?_
      refine N_run 3 [(2, .int .u64 (IntKind.wrap .u64 ((IntKind.wrap .u64 (x_5 - (IntKind.wrap .u64 (IntKind.wrap .i64 (0 - x_4))))) * 8)))] (fun w => by kernel_rfl) ?_
      refine N_end (by kernel_rfl) ?_
      refine S_then ?_
      refine S_ret (by kernel_rfl) ?_
      show At _ _ _ _ (Q .ret)
      exact S_done (fn := Try.f11) [.int .u64 (IntKind.wrap .u64 ((IntKind.wrap .u64 (x_5 - (IntKind.wrap .u64 (IntKind.wrap .i64 (0 - x_4))))) * 8))] hQ (show ResOK _ _ _ [.tmp 2] _ from .tmp (by kernel_rfl) (.nil)) h
    · rw [if_neg c8] at h
      have b9 : (decide (x_3 < 0)) = false := decide_eq_false c8
      refine S_env [(1, .pointer (some (Addr.mk b 0 none))), (3, .int .u64 (IntKind.wrap .u64 x_2)), (13, .bool false)] (by simp only [b9, Bool.not_true, Bool.not_false]) ?_
      clear b9
      refine S_condF (.tmp 13) moraineref01_Word.k18 moraineref01_Word.k19 (by kernel_rfl) (by kernel_rfl) ?_
      refine S_skip (by kernel_rfl) ?_
      refine S_then ?_
      refine S_seq moraineref01_Word.k20 moraineref01_Word.k21 (by kernel_rfl) ?_
      refine S_region 6 (Code.ops moraineref01_Word.k20) (by kernel_rfl) ?_
      refine N_run 3 [(2, .int .u64 (IntKind.wrap .u64 ((IntKind.wrap .u64 x_2) * 8)))] (fun w => by kernel_rfl) ?_
      refine N_end (by kernel_rfl) ?_
      refine S_then ?_
      refine S_ret (by kernel_rfl) ?_
      show At _ _ _ _ (Q .ret)
      exact S_done (fn := Try.f11) [.int .u64 (IntKind.wrap .u64 ((IntKind.wrap .u64 x_2) * 8))] hQ (show ResOK _ _ _ [.tmp 2] _ from .tmp (by kernel_rfl) (.nil)) h
  · rw [if_neg c4] at h
    have b5 : (x == 1) = false := beq_eq_false_iff_ne.mpr c4
    refine S_env [(1, .pointer (some (Addr.mk b 0 none))), (5, .int .i64 x), (6, .bool false)] (by simp only [b5, Bool.not_true, Bool.not_false]) ?_
    clear b5
    refine S_condF (.tmp 6) moraineref01_Word.k10 moraineref01_Word.k11 (by kernel_rfl) (by kernel_rfl) ?_
    refine S_seq moraineref01_Word.k22 moraineref01_Word.k23 (by kernel_rfl) ?_
    refine S_region 7 (Code.ops moraineref01_Word.k22) (by kernel_rfl) ?_
    refine N_run 2 [(1, .pointer (some (Addr.mk b 0 none))), (5, .int .i64 x), (22, .bool (x == 2))] (fun w => by kernel_rfl) ?_
    refine N_end (by kernel_rfl) ?_
    refine S_then ?_
    by_cases c12 : x = 2
    · rw [if_pos c12] at h
      have b13 : (x == 2) = true := beq_iff_eq.mpr c12
      refine S_env [(1, .pointer (some (Addr.mk b 0 none))), (5, .int .i64 x), (22, .bool true)] (by simp only [b13, Bool.not_true, Bool.not_false]) ?_
      clear b13
      refine S_condT (.tmp 22) moraineref01_Word.k24 moraineref01_Word.k25 (by kernel_rfl) (by kernel_rfl) ?_
      refine S_seq moraineref01_Word.k26 moraineref01_Word.k27 (by kernel_rfl) ?_
      refine S_region 8 (Code.ops moraineref01_Word.k26) (by kernel_rfl) ?_
      refine N_run 1 [(1, .pointer (some (Addr.mk b 0 none))), (24, .pointer (some ((Addr.mk b 0 none).add 2)))] (fun w => by kernel_rfl) ?_
      obtain ⟨x_6, q14, h⟩ := h
      refine N_val (some 25) (loadN 3 (.pointer (some ((Addr.mk b 0 none).add 2)))) (.int .i64 x_6) (fun w => by kernel_rfl) (loadN_run (loadOK_one (fun w => by kernel_rfl) q14)) [(1, .pointer (some (Addr.mk b 0 none))), (25, .int .i64 x_6)] (ps (by kernel_rfl)) ?_
      refine N_run 3 [(27, .int .u64 (IntKind.wrap .u64 ((IntKind.wrap .u64 x_6) * 8))), (28, .pointer (some ((Addr.mk b 0 none).add 1)))] (fun w => by kernel_rfl) ?_
      obtain ⟨x_7, q15, h⟩ := h
      refine N_val (some 29) (loadN 3 (.pointer (some ((Addr.mk b 0 none).add 1)))) (.int .i64 x_7) (fun w => by kernel_rfl) (loadN_run (loadOK_one (fun w => by kernel_rfl) q15)) [(27, .int .u64 (IntKind.wrap .u64 ((IntKind.wrap .u64 x_6) * 8))), (29, .int .i64 x_7)] (ps (by kernel_rfl)) ?_
      refine N_run 3 [(2, .int .u64 (IntKind.wrap .u64 ((IntKind.wrap .u64 ((IntKind.wrap .u64 x_6) * 8)) + (IntKind.wrap .u64 x_7))))] (fun w => by kernel_rfl) ?_
      refine N_end (by kernel_rfl) ?_
      refine S_then ?_
      refine S_ret (by kernel_rfl) ?_
      show At _ _ _ _ (Q .ret)
      exact S_done (fn := Try.f11) [.int .u64 (IntKind.wrap .u64 ((IntKind.wrap .u64 ((IntKind.wrap .u64 x_6) * 8)) + (IntKind.wrap .u64 x_7)))] hQ (show ResOK _ _ _ [.tmp 2] _ from .tmp (by kernel_rfl) (.nil)) h
    · rw [if_neg c12] at h
      have b13 : (x == 2) = false := beq_eq_false_iff_ne.mpr c12
      refine S_env [(1, .pointer (some (Addr.mk b 0 none))), (5, .int .i64 x), (22, .bool false)] (by simp only [b13, Bool.not_true, Bool.not_false]) ?_
      clear b13
      refine S_condF (.tmp 22) moraineref01_Word.k24 moraineref01_Word.k25 (by kernel_rfl) (by kernel_rfl) ?_
      refine S_seq moraineref01_Word.k28 moraineref01_Word.k29 (by kernel_rfl) ?_
      refine S_region 9 (Code.ops moraineref01_Word.k28) (by kernel_rfl) ?_
      refine N_run 2 [(1, .pointer (some (Addr.mk b 0 none))), (5, .int .i64 x), (32, .bool (x == 3))] (fun w => by kernel_rfl) ?_
      refine N_end (by kernel_rfl) ?_
      refine S_then ?_
      by_cases c16 : x = 3
      · rw [if_pos c16] at h
        have b17 : (x == 3) = true := beq_iff_eq.mpr c16
        refine S_env [(1, .pointer (some (Addr.mk b 0 none))), (5, .int .i64 x), (32, .bool true)] (by simp only [b17, Bool.not_true, Bool.not_false]) ?_
        clear b17
        refine S_condT (.tmp 32) moraineref01_Word.k30 moraineref01_Word.k31 (by kernel_rfl) (by kernel_rfl) ?_
        refine S_seq moraineref01_Word.k32 moraineref01_Word.k33 (by kernel_rfl) ?_
        refine S_region 10 (Code.ops moraineref01_Word.k32) (by kernel_rfl) ?_
        refine N_run 1 [(34, .pointer (some ((Addr.mk b 0 none).add 2)))] (fun w => by kernel_rfl) ?_
        obtain ⟨x_8, q18, h⟩ := h
        refine N_val (some 35) (loadN 3 (.pointer (some ((Addr.mk b 0 none).add 2)))) (.int .i64 x_8) (fun w => by kernel_rfl) (loadN_run (loadOK_one (fun w => by kernel_rfl) q18)) [(35, .int .i64 x_8)] (ps (by kernel_rfl)) ?_
        refine N_run 4 [(2, .int .u64 (IntKind.wrap .u64 ((IntKind.wrap .u64 ((IntKind.wrap .u64 x_8) * 8)) + 4)))] (fun w => by kernel_rfl) ?_
        refine N_end (by kernel_rfl) ?_
        refine S_then ?_
        refine S_ret (by kernel_rfl) ?_
        show At _ _ _ _ (Q .ret)
        exact S_done (fn := Try.f11) [.int .u64 (IntKind.wrap .u64 ((IntKind.wrap .u64 ((IntKind.wrap .u64 x_8) * 8)) + 4))] hQ (show ResOK _ _ _ [.tmp 2] _ from .tmp (by kernel_rfl) (.nil)) h
      · rw [if_neg c16] at h
        have b17 : (x == 3) = false := beq_eq_false_iff_ne.mpr c16
        refine S_env [(1, .pointer (some (Addr.mk b 0 none))), (5, .int .i64 x), (32, .bool false)] (by simp only [b17, Bool.not_true, Bool.not_false]) ?_
        clear b17
        refine S_condF (.tmp 32) moraineref01_Word.k30 moraineref01_Word.k31 (by kernel_rfl) (by kernel_rfl) ?_
        refine S_seq moraineref01_Word.k34 moraineref01_Word.k35 (by kernel_rfl) ?_
        refine S_region 11 (Code.ops moraineref01_Word.k34) (by kernel_rfl) ?_
        refine N_run 2 [(1, .pointer (some (Addr.mk b 0 none))), (39, .bool (x == 4))] (fun w => by kernel_rfl) ?_
        refine N_end (by kernel_rfl) ?_
        refine S_then ?_
        by_cases c19 : x = 4
        · rw [if_pos c19] at h
          have b20 : (x == 4) = true := beq_iff_eq.mpr c19
          refine S_env [(1, .pointer (some (Addr.mk b 0 none))), (39, .bool true)] (by simp only [b20, Bool.not_true, Bool.not_false]) ?_
          clear b20
          refine S_condT (.tmp 39) moraineref01_Word.k36 moraineref01_Word.k37 (by kernel_rfl) (by kernel_rfl) ?_
          refine S_seq moraineref01_Word.k38 moraineref01_Word.k39 (by kernel_rfl) ?_
          refine S_region 12 (Code.ops moraineref01_Word.k38) (by kernel_rfl) ?_
          refine N_run 1 [(41, .pointer (some ((Addr.mk b 0 none).add 2)))] (fun w => by kernel_rfl) ?_
          obtain ⟨x_9, q21, h⟩ := h
          refine N_val (some 42) (loadN 3 (.pointer (some ((Addr.mk b 0 none).add 2)))) (.int .i64 x_9) (fun w => by kernel_rfl) (loadN_run (loadOK_one (fun w => by kernel_rfl) q21)) [(42, .int .i64 x_9)] (ps (by kernel_rfl)) ?_
          refine N_run 5 [(2, .int .u64 (IntKind.wrap .u64 ((IntKind.wrap .u64 ((IntKind.wrap .u64 ((IntKind.wrap .u64 x_9) * 256)) + 56)) + 4)))] (fun w => by kernel_rfl) ?_
          refine N_end (by kernel_rfl) ?_
          refine S_then ?_
          refine S_ret (by kernel_rfl) ?_
          show At _ _ _ _ (Q .ret)
          exact S_done (fn := Try.f11) [.int .u64 (IntKind.wrap .u64 ((IntKind.wrap .u64 ((IntKind.wrap .u64 ((IntKind.wrap .u64 x_9) * 256)) + 56)) + 4))] hQ (show ResOK _ _ _ [.tmp 2] _ from .tmp (by kernel_rfl) (.nil)) h
        · rw [if_neg c19] at h
          have b20 : (x == 4) = false := beq_eq_false_iff_ne.mpr c19
          refine S_env [(1, .pointer (some (Addr.mk b 0 none))), (39, .bool false)] (by simp only [b20, Bool.not_true, Bool.not_false]) ?_
          clear b20
          refine S_condF (.tmp 39) moraineref01_Word.k36 moraineref01_Word.k37 (by kernel_rfl) (by kernel_rfl) ?_
          refine S_skip (by kernel_rfl) ?_
          refine S_blockEnd ?_
          refine S_then ?_
          refine S_seq moraineref01_Word.k40 moraineref01_Word.k41 (by kernel_rfl) ?_
          obtain ⟨x_10, q22, h⟩ := h
          obtain ⟨x_11, q23, h⟩ := h
          obtain ⟨x_12, q24, h⟩ := h
          refine S_regionG 13 (Code.ops moraineref01_Word.k40) [(16, ((Addr.mk b 0 none).add 4), [.int .u64 x_10]), (16, ((Addr.mk b 0 none).add 2), [.int .i64 x_11]), (16, ((Addr.mk b 0 none).add 1), [.int .i64 x_12])] 16 #[false, false, false, false, false, false, false, false, false, false, false, false, false, false, false, false] (by kernel_rfl) (by kernel_rfl) (by kernel_rfl) (by kernel_rfl) (by kernel_rfl) (show FactsAt _ _ _ from ⟨⟨q22, trivial⟩, ⟨q23, trivial⟩, ⟨q24, trivial⟩, trivial⟩) ?_
          refine G_take 0 (some 47) (.pointer (some ((Addr.mk b 0 none).add 4))) #[true, false, false, false, false, false, false, false, false, false, false, false, false, false, false, false] [(1, .pointer (some (Addr.mk b 0 none))), (47, .pointer (some ((Addr.mk b 0 none).add 4)))] ((pure (.value (.pointer (some ((Addr.mk b 0 none).add 4)))) : Sem Next)) (fun w => by kernel_rfl) (fun _ _ _ _ _ => rfl) (by kernel_rfl) (by kernel_rfl) (by kernel_rfl) (by kernel_rfl) (by kernel_rfl) (ps (by kernel_rfl)) ?_
          refine G_take 1 (some 48) (.int .u64 x_10) #[true, true, false, false, false, false, false, false, false, false, false, false, false, false, false, false] [(1, .pointer (some (Addr.mk b 0 none))), (48, .int .u64 x_10)] (loadN 22 (.pointer (some ((Addr.mk b 0 none).add 4)))) (fun w => by kernel_rfl) (held_one 16 (fun w => by kernel_rfl) (List.Mem.head _) (.inr (by kernel_rfl))) (by kernel_rfl) (by kernel_rfl) (by kernel_rfl) (by kernel_rfl) (by kernel_rfl) (ps (by kernel_rfl)) ?_
          refine G_take 4 (some 51) (.pointer (some ((Addr.mk b 0 none).add 2))) #[true, true, false, false, true, false, false, false, false, false, false, false, false, false, false, false] [(1, .pointer (some (Addr.mk b 0 none))), (48, .int .u64 x_10), (51, .pointer (some ((Addr.mk b 0 none).add 2)))] ((pure (.value (.pointer (some ((Addr.mk b 0 none).add 2)))) : Sem Next)) (fun w => by kernel_rfl) (fun _ _ _ _ _ => rfl) (by kernel_rfl) (by kernel_rfl) (by kernel_rfl) (by kernel_rfl) (by kernel_rfl) (ps (by kernel_rfl)) ?_
          refine G_take 5 (some 52) (.int .i64 x_11) #[true, true, false, false, true, true, false, false, false, false, false, false, false, false, false, false] [(1, .pointer (some (Addr.mk b 0 none))), (48, .int .u64 x_10), (52, .int .i64 x_11)] (loadN 3 (.pointer (some ((Addr.mk b 0 none).add 2)))) (fun w => by kernel_rfl) (held_one 16 (fun w => by kernel_rfl) (List.Mem.tail _ (List.Mem.head _)) (.inr (by kernel_rfl))) (by kernel_rfl) (by kernel_rfl) (by kernel_rfl) (by kernel_rfl) (by kernel_rfl) (ps (by kernel_rfl)) ?_
          refine G_take 6 (some 53) (.int .u64 (IntKind.wrap .u64 x_11)) #[true, true, false, false, true, true, true, false, false, false, false, false, false, false, false, false] [(1, .pointer (some (Addr.mk b 0 none))), (48, .int .u64 x_10), (53, .int .u64 (IntKind.wrap .u64 x_11))] ((pure (.value (.int .u64 (IntKind.wrap .u64 x_11))) : Sem Next)) (fun w => by kernel_rfl) (fun _ _ _ _ _ => rfl) (by kernel_rfl) (by kernel_rfl) (by kernel_rfl) (by kernel_rfl) (by kernel_rfl) (ps (by kernel_rfl)) ?_
          refine G_take 7 (some 54) (.int .u64 (IntKind.wrap .u64 ((IntKind.wrap .u64 x_11) * 256))) #[true, true, false, false, true, true, true, true, false, false, false, false, false, false, false, false] [(1, .pointer (some (Addr.mk b 0 none))), (48, .int .u64 x_10), (54, .int .u64 (IntKind.wrap .u64 ((IntKind.wrap .u64 x_11) * 256)))] ((pure (.value (.int .u64 (IntKind.wrap .u64 ((IntKind.wrap .u64 x_11) * 256)))) : Sem Next)) (fun w => by kernel_rfl) (fun _ _ _ _ _ => rfl) (by kernel_rfl) (by kernel_rfl) (by kernel_rfl) (by kernel_rfl) (by kernel_rfl) (ps (by kernel_rfl)) ?_
          refine G_take 9 (some 56) (.pointer (some ((Addr.mk b 0 none).add 1))) #[true, true, false, false, true, true, true, true, false, true, false, false, false, false, false, false] [(48, .int .u64 x_10), (54, .int .u64 (IntKind.wrap .u64 ((IntKind.wrap .u64 x_11) * 256))), (56, .pointer (some ((Addr.mk b 0 none).add 1)))] ((pure (.value (.pointer (some ((Addr.mk b 0 none).add 1)))) : Sem Next)) (fun w => by kernel_rfl) (fun _ _ _ _ _ => rfl) (by kernel_rfl) (by kernel_rfl) (by kernel_rfl) (by kernel_rfl) (by kernel_rfl) (ps (by kernel_rfl)) ?_
          refine G_take 10 (some 57) (.int .i64 x_12) #[true, true, false, false, true, true, true, true, false, true, true, false, false, false, false, false] [(48, .int .u64 x_10), (54, .int .u64 (IntKind.wrap .u64 ((IntKind.wrap .u64 x_11) * 256))), (57, .int .i64 x_12)] (loadN 3 (.pointer (some ((Addr.mk b 0 none).add 1)))) (fun w => by kernel_rfl) (held_one 16 (fun w => by kernel_rfl) (List.Mem.tail _ (List.Mem.tail _ (List.Mem.head _))) (.inr (by kernel_rfl))) (by kernel_rfl) (by kernel_rfl) (by kernel_rfl) (by kernel_rfl) (by kernel_rfl) (ps (by kernel_rfl)) ?_
          refine G_take 11 (some 58) (.int .u64 (IntKind.wrap .u64 x_12)) #[true, true, false, false, true, true, true, true, false, true, true, true, false, false, false, false] [(48, .int .u64 x_10), (54, .int .u64 (IntKind.wrap .u64 ((IntKind.wrap .u64 x_11) * 256))), (58, .int .u64 (IntKind.wrap .u64 x_12))] ((pure (.value (.int .u64 (IntKind.wrap .u64 x_12))) : Sem Next)) (fun w => by kernel_rfl) (fun _ _ _ _ _ => rfl) (by kernel_rfl) (by kernel_rfl) (by kernel_rfl) (by kernel_rfl) (by kernel_rfl) (ps (by kernel_rfl)) ?_
          refine G_take 12 (some 59) (.int .u64 (IntKind.wrap .u64 ((IntKind.wrap .u64 x_12) * 8))) #[true, true, false, false, true, true, true, true, false, true, true, true, true, false, false, false] [(48, .int .u64 x_10), (54, .int .u64 (IntKind.wrap .u64 ((IntKind.wrap .u64 x_11) * 256))), (59, .int .u64 (IntKind.wrap .u64 ((IntKind.wrap .u64 x_12) * 8)))] ((pure (.value (.int .u64 (IntKind.wrap .u64 ((IntKind.wrap .u64 x_12) * 8)))) : Sem Next)) (fun w => by kernel_rfl) (fun _ _ _ _ _ => rfl) (by kernel_rfl) (by kernel_rfl) (by kernel_rfl) (by kernel_rfl) (by kernel_rfl) (ps (by kernel_rfl)) ?_
          refine G_call 2 (some 49) #[true, true, true, false, true, true, true, true, false, true, true, true, true, false, false, false] 26 #[.int .i64 16] (by kernel_rfl) (fun w => by kernel_rfl) h (by kernel_rfl) ?_
          rintro v_2 H3 ⟨x_13, rfl, h⟩
          obtain ⟨f25, f26, f27, h⟩ := h
          refine ⟨[(48, .int .u64 x_10), (49, .int .u64 x_13), (54, .int .u64 (IntKind.wrap .u64 ((IntKind.wrap .u64 x_11) * 256))), (59, .int .u64 (IntKind.wrap .u64 ((IntKind.wrap .u64 x_12) * 8)))], ps (by kernel_rfl), (show FactsAt _ _ _ from ⟨f25, f26, f27, trivial⟩), ?_⟩
          refine G_take 3 (some 50) (.int .u64 (IntKind.wrap .u64 (x_10 * x_13))) #[true, true, true, true, true, true, true, true, false, true, true, true, true, false, false, false] [(50, .int .u64 (IntKind.wrap .u64 (x_10 * x_13))), (54, .int .u64 (IntKind.wrap .u64 ((IntKind.wrap .u64 x_11) * 256))), (59, .int .u64 (IntKind.wrap .u64 ((IntKind.wrap .u64 x_12) * 8)))] (pure (.value (.int .u64 (IntKind.wrap .u64 (x_10 * x_13)))) : Sem Next) (fun w => by kernel_rfl) (fun _ _ _ _ _ => rfl) (by kernel_rfl) (by kernel_rfl) (by kernel_rfl) (by kernel_rfl) (by kernel_rfl) (ps (by kernel_rfl)) ?_
          refine G_take 8 (some 55) (.int .u64 (IntKind.wrap .u64 ((IntKind.wrap .u64 (x_10 * x_13)) + (IntKind.wrap .u64 ((IntKind.wrap .u64 x_11) * 256))))) #[true, true, true, true, true, true, true, true, true, true, true, true, true, false, false, false] [(55, .int .u64 (IntKind.wrap .u64 ((IntKind.wrap .u64 (x_10 * x_13)) + (IntKind.wrap .u64 ((IntKind.wrap .u64 x_11) * 256))))), (59, .int .u64 (IntKind.wrap .u64 ((IntKind.wrap .u64 x_12) * 8)))] (pure (.value (.int .u64 (IntKind.wrap .u64 ((IntKind.wrap .u64 (x_10 * x_13)) + (IntKind.wrap .u64 ((IntKind.wrap .u64 x_11) * 256)))))) : Sem Next) (fun w => by kernel_rfl) (fun _ _ _ _ _ => rfl) (by kernel_rfl) (by kernel_rfl) (by kernel_rfl) (by kernel_rfl) (by kernel_rfl) (ps (by kernel_rfl)) ?_
          refine G_take 13 (some 60) (.int .u64 (IntKind.wrap .u64 ((IntKind.wrap .u64 ((IntKind.wrap .u64 (x_10 * x_13)) + (IntKind.wrap .u64 ((IntKind.wrap .u64 x_11) * 256)))) + (IntKind.wrap .u64 ((IntKind.wrap .u64 x_12) * 8))))) #[true, true, true, true, true, true, true, true, true, true, true, true, true, true, false, false] [(60, .int .u64 (IntKind.wrap .u64 ((IntKind.wrap .u64 ((IntKind.wrap .u64 (x_10 * x_13)) + (IntKind.wrap .u64 ((IntKind.wrap .u64 x_11) * 256)))) + (IntKind.wrap .u64 ((IntKind.wrap .u64 x_12) * 8)))))] (pure (.value (.int .u64 (IntKind.wrap .u64 ((IntKind.wrap .u64 ((IntKind.wrap .u64 (x_10 * x_13)) + (IntKind.wrap .u64 ((IntKind.wrap .u64 x_11) * 256)))) + (IntKind.wrap .u64 ((IntKind.wrap .u64 x_12) * 8)))))) : Sem Next) (fun w => by kernel_rfl) (fun _ _ _ _ _ => rfl) (by kernel_rfl) (by kernel_rfl) (by kernel_rfl) (by kernel_rfl) (by kernel_rfl) (ps (by kernel_rfl)) ?_
          refine G_take 14 (some 61) (.int .u64 (IntKind.wrap .u64 ((IntKind.wrap .u64 ((IntKind.wrap .u64 ((IntKind.wrap .u64 (x_10 * x_13)) + (IntKind.wrap .u64 ((IntKind.wrap .u64 x_11) * 256)))) + (IntKind.wrap .u64 ((IntKind.wrap .u64 x_12) * 8)))) + 5))) #[true, true, true, true, true, true, true, true, true, true, true, true, true, true, true, false] [(61, .int .u64 (IntKind.wrap .u64 ((IntKind.wrap .u64 ((IntKind.wrap .u64 ((IntKind.wrap .u64 (x_10 * x_13)) + (IntKind.wrap .u64 ((IntKind.wrap .u64 x_11) * 256)))) + (IntKind.wrap .u64 ((IntKind.wrap .u64 x_12) * 8)))) + 5)))] (pure (.value (.int .u64 (IntKind.wrap .u64 ((IntKind.wrap .u64 ((IntKind.wrap .u64 ((IntKind.wrap .u64 (x_10 * x_13)) + (IntKind.wrap .u64 ((IntKind.wrap .u64 x_11) * 256)))) + (IntKind.wrap .u64 ((IntKind.wrap .u64 x_12) * 8)))) + 5)))) : Sem Next) (fun w => by kernel_rfl) (fun _ _ _ _ _ => rfl) (by kernel_rfl) (by kernel_rfl) (by kernel_rfl) (by kernel_rfl) (by kernel_rfl) (ps (by kernel_rfl)) ?_
          refine G_take 15 (some 2) (.int .u64 (IntKind.wrap .u64 ((IntKind.wrap .u64 ((IntKind.wrap .u64 ((IntKind.wrap .u64 (x_10 * x_13)) + (IntKind.wrap .u64 ((IntKind.wrap .u64 x_11) * 256)))) + (IntKind.wrap .u64 ((IntKind.wrap .u64 x_12) * 8)))) + 5))) #[true, true, true, true, true, true, true, true, true, true, true, true, true, true, true, true] [(2, .int .u64 (IntKind.wrap .u64 ((IntKind.wrap .u64 ((IntKind.wrap .u64 ((IntKind.wrap .u64 (x_10 * x_13)) + (IntKind.wrap .u64 ((IntKind.wrap .u64 x_11) * 256)))) + (IntKind.wrap .u64 ((IntKind.wrap .u64 x_12) * 8)))) + 5)))] (pure (.value (.int .u64 (IntKind.wrap .u64 ((IntKind.wrap .u64 ((IntKind.wrap .u64 ((IntKind.wrap .u64 (x_10 * x_13)) + (IntKind.wrap .u64 ((IntKind.wrap .u64 x_11) * 256)))) + (IntKind.wrap .u64 ((IntKind.wrap .u64 x_12) * 8)))) + 5)))) : Sem Next) (fun w => by kernel_rfl) (fun _ _ _ _ _ => rfl) (by kernel_rfl) (by kernel_rfl) (by kernel_rfl) (by kernel_rfl) (by kernel_rfl) (ps (by kernel_rfl)) ?_
          refine G_sub [(2, .int .u64 (IntKind.wrap .u64 ((IntKind.wrap .u64 ((IntKind.wrap .u64 ((IntKind.wrap .u64 (x_10 * x_13)) + (IntKind.wrap .u64 ((IntKind.wrap .u64 x_11) * 256)))) + (IntKind.wrap .u64 ((IntKind.wrap .u64 x_12) * 8)))) + 5)))] (sb (by kernel_rfl)) ?_
          refine G_end (by kernel_rfl) ?_
          refine S_then ?_
          refine S_ret (by kernel_rfl) ?_
          show At _ _ _ _ (Q .ret)
          exact S_done (fn := Try.f11) [.int .u64 (IntKind.wrap .u64 ((IntKind.wrap .u64 ((IntKind.wrap .u64 ((IntKind.wrap .u64 (x_10 * x_13)) + (IntKind.wrap .u64 ((IntKind.wrap .u64 x_11) * 256)))) + (IntKind.wrap .u64 ((IntKind.wrap .u64 x_12) * 8)))) + 5))] hQ (show ResOK _ _ _ [.tmp 2] _ from .tmp (by kernel_rfl) (.nil)) h

/-! moraine/word.Char -/
noncomputable def word_Char.k0 : Code := Func.code Try.f12
noncomputable def word_Char.k1 : Code := Code.fa word_Char.k0
noncomputable def word_Char.k2 : Code := Code.fb word_Char.k0
noncomputable def word_Char.k3 : Code := Code.fa word_Char.k2
noncomputable def word_Char.k4 : Code := Code.fb word_Char.k2
noncomputable def word_Char.k5 : Code := Code.fa word_Char.k3
noncomputable def word_Char.k6 : Code := Code.fb word_Char.k3
noncomputable def word_Char.k7 : Code := Code.fa word_Char.k6
noncomputable def word_Char.k8 : Code := Code.fb word_Char.k6
noncomputable def word_Char.k9 : Code := Code.fa word_Char.k7
noncomputable def word_Char.k10 : Code := Code.fb word_Char.k7
noncomputable def word_Char.k11 : Code := Code.fa word_Char.k4
noncomputable def word_Char.k12 : Code := Code.fb word_Char.k4
def word_Char.pt (c : Int) (H : Array Obj) (R : Value → Array Obj → Prop) : Prop :=
 if c < 0 then (
  R (.tuple #[.int .u64 0, .int .i64 4]) H)
 else
 word_letter.C (IntKind.wrap .u64 c) H (fun v H1 => ∃ x : Bool, v = .bool x ∧ 
  if x = true then (
   R (.tuple #[.int .u64 (ior .u64 (ior .u64 (ishl .u64 (IntKind.wrap .u64 c) 8) 56) 4), .int .i64 0]) H1)
  else
  R (.tuple #[.int .u64 0, .int .i64 4]) H1)
set_option maxRecDepth 100000 in
theorem word_Char.link {c : Int} {H : Array Obj} {R : Value → Array Obj → Prop} (h : word_Char.pt c H R) : word_Char.C c H R := by
  refine S_enter (fn := Try.f12) (c := word_Char.k0) 17 Try.func12 (by kernel_rfl) (by kernel_rfl) (Nat.le_of_ble_eq_true (by kernel_rfl)) ?_
  intro w0 Q hQ
  unfold word_Char.pt at h
  refine S_sub [(0, .int .i32 c)] (sb (by kernel_rfl)) ?_
  refine S_seq word_Char.k1 word_Char.k2 (by kernel_rfl) ?_
  refine S_region 0 (Code.ops word_Char.k1) (by kernel_rfl) ?_
  refine N_run 2 [(0, .int .i32 c)] (fun w => by kernel_rfl) ?_
  refine N_end (by kernel_rfl) ?_
  refine S_then ?_
  refine S_seq word_Char.k3 word_Char.k4 (by kernel_rfl) ?_
  refine S_seq word_Char.k5 word_Char.k6 (by kernel_rfl) ?_
  refine S_region 1 (Code.ops word_Char.k5) (by kernel_rfl) ?_
  refine N_run 3 [(0, .int .i32 c), (6, .bool (decide (c < 0)))] (fun w => by kernel_rfl) ?_
  by_cases c1 : c < 0
  · rw [if_pos c1] at h
    have b2 : (decide (c < 0)) = true := decide_eq_true c1
    refine N_env [(0, .int .i32 c), (6, .bool true)] (by simp only [b2, Bool.not_true, Bool.not_false]) ?_
    clear b2
    refine N_run 5 [(0, .int .i32 c), (11, .bool true)] (fun w => by kernel_rfl) ?_
    refine N_end (by kernel_rfl) ?_
    refine S_then ?_
    refine S_condT (.tmp 11) word_Char.k7 word_Char.k8 (by kernel_rfl) (by kernel_rfl) ?_
    refine S_seq word_Char.k9 word_Char.k10 (by kernel_rfl) ?_
    refine S_region 2 (Code.ops word_Char.k9) (by kernel_rfl) ?_
    refine N_run 2 [(2, .int .u64 0), (3, .int .i64 4)] (fun w => by kernel_rfl) ?_
    refine N_end (by kernel_rfl) ?_
    refine S_then ?_
    refine S_ret (by kernel_rfl) ?_
    show At _ _ _ _ (Q .ret)
    exact S_done (fn := Try.f12) [.int .u64 0, .int .i64 4] hQ (show ResOK _ _ _ [.tmp 2, .tmp 3] _ from .tmp (by kernel_rfl) (.tmp (by kernel_rfl) (.nil))) h
  · rw [if_neg c1] at h
    have b2 : (decide (c < 0)) = false := decide_eq_false c1
    refine N_env [(0, .int .i32 c), (6, .bool false)] (by simp only [b2, Bool.not_true, Bool.not_false]) ?_
    clear b2
    refine N_run 2 [(0, .int .i32 c), (6, .bool false), (8, .int .u64 (IntKind.wrap .u64 c))] (fun w => by kernel_rfl) ?_
    refine N_call (some 9) 27 #[.int .u64 (IntKind.wrap .u64 c)] (fun w => by kernel_rfl) h ?_
    rintro v H1 ⟨x, rfl, h⟩
    refine ⟨[(0, .int .i32 c), (6, .bool false), (9, .bool x)], ps (by kernel_rfl), ?_⟩
    refine N_run 2 [(0, .int .i32 c), (11, .bool (!x))] (fun w => by kernel_rfl) ?_
    refine N_end (by kernel_rfl) ?_
    refine S_then ?_
    by_cases c3 : x = true
    · rw [if_pos c3] at h
      have b4 : (!x) = false := congrArg Bool.not (c3)
      refine S_env [(0, .int .i32 c), (11, .bool false)] (by simp only [b4, Bool.not_true, Bool.not_false]) ?_
      clear b4
      refine S_condF (.tmp 11) word_Char.k7 word_Char.k8 (by kernel_rfl) (by kernel_rfl) ?_
      refine S_skip (by kernel_rfl) ?_
      refine S_then ?_
      refine S_seq word_Char.k11 word_Char.k12 (by kernel_rfl) ?_
      refine S_region 3 (Code.ops word_Char.k11) (by kernel_rfl) ?_
      refine N_run 7 [(2, .int .u64 (ior .u64 (ior .u64 (ishl .u64 (IntKind.wrap .u64 c) 8) 56) 4)), (3, .int .i64 0)] (fun w => by kernel_rfl) ?_
      refine N_end (by kernel_rfl) ?_
      refine S_then ?_
      refine S_ret (by kernel_rfl) ?_
      show At _ _ _ _ (Q .ret)
      exact S_done (fn := Try.f12) [.int .u64 (ior .u64 (ior .u64 (ishl .u64 (IntKind.wrap .u64 c) 8) 56) 4), .int .i64 0] hQ (show ResOK _ _ _ [.tmp 2, .tmp 3] _ from .tmp (by kernel_rfl) (.tmp (by kernel_rfl) (.nil))) h
    · rw [if_neg c3] at h
      have b4 : (!x) = true := congrArg Bool.not (eq_false_of_ne_true c3)
      refine S_env [(0, .int .i32 c), (11, .bool true)] (by simp only [b4, Bool.not_true, Bool.not_false]) ?_
      clear b4
      refine S_condT (.tmp 11) word_Char.k7 word_Char.k8 (by kernel_rfl) (by kernel_rfl) ?_
      refine S_seq word_Char.k9 word_Char.k10 (by kernel_rfl) ?_
      refine S_region 2 (Code.ops word_Char.k9) (by kernel_rfl) ?_
      refine N_run 2 [(2, .int .u64 0), (3, .int .i64 4)] (fun w => by kernel_rfl) ?_
      refine N_end (by kernel_rfl) ?_
      refine S_then ?_
      refine S_ret (by kernel_rfl) ?_
      show At _ _ _ _ (Q .ret)
      exact S_done (fn := Try.f12) [.int .u64 0, .int .i64 4] hQ (show ResOK _ _ _ [.tmp 2, .tmp 3] _ from .tmp (by kernel_rfl) (.tmp (by kernel_rfl) (.nil))) h

/-! moraine/moraineref01.Letter -/
noncomputable def moraineref01_Letter.k0 : Code := Func.code Try.f13
noncomputable def moraineref01_Letter.k1 : Code := Code.fa moraineref01_Letter.k0
noncomputable def moraineref01_Letter.k2 : Code := Code.fb moraineref01_Letter.k0
noncomputable def moraineref01_Letter.k3 : Code := Code.fa moraineref01_Letter.k2
noncomputable def moraineref01_Letter.k4 : Code := Code.fb moraineref01_Letter.k2
def moraineref01_Letter.pt (c : Int) (H : Array Obj) (R : Value → Array Obj → Prop) : Prop :=
 R (.bool (((decide (c ≥ 0)) && (decide (c ≤ 1114111))) && ((decide (c < 55296)) || (decide (c > 57343))))) H
set_option maxRecDepth 100000 in
theorem moraineref01_Letter.link {c : Int} {H : Array Obj} {R : Value → Array Obj → Prop} (h : moraineref01_Letter.pt c H R) : moraineref01_Letter.C c H R := by
  refine S_enter (fn := Try.f13) (c := moraineref01_Letter.k0) 17 Try.func13 (by kernel_rfl) (by kernel_rfl) (Nat.le_of_ble_eq_true (by kernel_rfl)) ?_
  intro w0 Q hQ
  unfold moraineref01_Letter.pt at h
  refine S_sub [(0, .int .i32 c)] (sb (by kernel_rfl)) ?_
  refine S_seq moraineref01_Letter.k1 moraineref01_Letter.k2 (by kernel_rfl) ?_
  refine S_region 0 (Code.ops moraineref01_Letter.k1) (by kernel_rfl) ?_
  refine N_run 1 [(0, .int .i32 c)] (fun w => by kernel_rfl) ?_
  refine N_end (by kernel_rfl) ?_
  refine S_then ?_
  refine S_seq moraineref01_Letter.k3 moraineref01_Letter.k4 (by kernel_rfl) ?_
  refine S_region 1 (Code.ops moraineref01_Letter.k3) (by kernel_rfl) ?_
  refine N_cut [(2, .bool (((decide (c ≥ 0)) && (decide (c ≤ 1114111))) && ((decide (c < 55296)) || (decide (c > 57343)))))] ?_ ?_
  · refine S_then ?_
    refine S_ret (by kernel_rfl) ?_
    show At _ _ _ _ (Q .ret)
    exact S_done (fn := Try.f13) [.bool (((decide (c ≥ 0)) && (decide (c ≤ 1114111))) && ((decide (c < 55296)) || (decide (c > 57343))))] hQ (show ResOK _ _ _ [.tmp 2] _ from .tmp (by kernel_rfl) (.nil)) h
  · intro hk
    refine N_run 3 [(0, .int .i32 c), (5, .bool (decide (c ≥ 0)))] (fun w => by kernel_rfl) ?_
    by_cases c1 : c ≥ 0
    · have b2 : (decide (c ≥ 0)) = true := decide_eq_true c1
      refine N_env [(0, .int .i32 c), (5, .bool true)] (by simp only [b2, Bool.not_true, Bool.not_false]) ?_
      refine N_run 4 [(0, .int .i32 c), (9, .bool (decide (c ≤ 1114111)))] (fun w => by kernel_rfl) ?_
      by_cases c3 : c ≤ 1114111
      · have b4 : (decide (c ≤ 1114111)) = true := decide_eq_true c3
        refine N_env [(0, .int .i32 c), (9, .bool true)] (by simp only [b4, Bool.not_true, Bool.not_false]) ?_
        refine N_run 3 [(0, .int .i32 c), (9, .bool true), (12, .bool (decide (c < 55296)))] (fun w => by kernel_rfl) ?_
        by_cases c5 : c < 55296
        · have b6 : (decide (c < 55296)) = true := decide_eq_true c5
          refine N_env [(0, .int .i32 c), (9, .bool true), (12, .bool true)] (by simp only [b6, Bool.not_true, Bool.not_false]) ?_
          refine N_run 5 [(2, .bool true)] (fun w => by kernel_rfl) ?_
          refine N_end (by kernel_rfl) ?_
          refine S_env [(2, .bool (((decide (c ≥ 0)) && (decide (c ≤ 1114111))) && ((decide (c < 55296)) || (decide (c > 57343)))))] (by simp only [b2, b4, b6, Bool.true_or, Bool.false_or, Bool.or_true, Bool.or_false, Bool.true_and, Bool.false_and, Bool.and_true, Bool.and_false, Bool.not_true, Bool.not_false, cond_true, cond_false]) ?_
          exact hk
        · have b6 : (decide (c < 55296)) = false := decide_eq_false c5
          refine N_env [(0, .int .i32 c), (9, .bool true), (12, .bool false)] (by simp only [b6, Bool.not_true, Bool.not_false]) ?_
          refine N_run 5 [(2, .bool (decide (c > 57343)))] (fun w => by kernel_rfl) ?_
          refine N_end (by kernel_rfl) ?_
          refine S_env [(2, .bool (((decide (c ≥ 0)) && (decide (c ≤ 1114111))) && ((decide (c < 55296)) || (decide (c > 57343)))))] (by simp only [b2, b4, b6, Bool.true_or, Bool.false_or, Bool.or_true, Bool.or_false, Bool.true_and, Bool.false_and, Bool.and_true, Bool.and_false, Bool.not_true, Bool.not_false, cond_true, cond_false]) ?_
          exact hk
      · have b4 : (decide (c ≤ 1114111)) = false := decide_eq_false c3
        refine N_env [(0, .int .i32 c), (9, .bool false)] (by simp only [b4, Bool.not_true, Bool.not_false]) ?_
        refine N_run 8 [(2, .bool false)] (fun w => by kernel_rfl) ?_
        refine N_end (by kernel_rfl) ?_
        refine S_env [(2, .bool (((decide (c ≥ 0)) && (decide (c ≤ 1114111))) && ((decide (c < 55296)) || (decide (c > 57343)))))] (by simp only [b2, b4, Bool.true_or, Bool.false_or, Bool.or_true, Bool.or_false, Bool.true_and, Bool.false_and, Bool.and_true, Bool.and_false, Bool.not_true, Bool.not_false, cond_true, cond_false]) ?_
        exact hk
    · have b2 : (decide (c ≥ 0)) = false := decide_eq_false c1
      refine N_env [(0, .int .i32 c), (5, .bool false)] (by simp only [b2, Bool.not_true, Bool.not_false]) ?_
      refine N_run 12 [(2, .bool false)] (fun w => by kernel_rfl) ?_
      refine N_end (by kernel_rfl) ?_
      refine S_env [(2, .bool (((decide (c ≥ 0)) && (decide (c ≤ 1114111))) && ((decide (c < 55296)) || (decide (c > 57343)))))] (by simp only [b2, Bool.true_or, Bool.false_or, Bool.or_true, Bool.or_false, Bool.true_and, Bool.false_and, Bool.and_true, Bool.and_false, Bool.not_true, Bool.not_false, cond_true, cond_false]) ?_
      exact hk

/-! moraine/word.At -/
noncomputable def word_At.k0 : Code := Func.code Try.f15
noncomputable def word_At.k1 : Code := Code.fa word_At.k0
noncomputable def word_At.k2 : Code := Code.fb word_At.k0
noncomputable def word_At.k3 : Code := Code.fa word_At.k2
noncomputable def word_At.k4 : Code := Code.fb word_At.k2
noncomputable def word_At.k5 : Code := Code.fa word_At.k3
noncomputable def word_At.k6 : Code := Code.fa word_At.k5
noncomputable def word_At.k7 : Code := Code.fb word_At.k5
noncomputable def word_At.k8 : Code := Code.fa word_At.k7
noncomputable def word_At.k9 : Code := Code.fb word_At.k7
noncomputable def word_At.k10 : Code := Code.fa word_At.k9
noncomputable def word_At.k11 : Code := Code.fb word_At.k9
noncomputable def word_At.k12 : Code := Code.fa word_At.k11
noncomputable def word_At.k13 : Code := Code.fb word_At.k11
noncomputable def word_At.k14 : Code := Code.fa word_At.k12
noncomputable def word_At.k15 : Code := Code.fb word_At.k12
noncomputable def word_At.k16 : Code := Code.fa word_At.k4
noncomputable def word_At.k17 : Code := Code.fb word_At.k4
noncomputable def word_At.k18 : Code := Code.fa word_At.k8
noncomputable def word_At.k19 : Code := Code.fb word_At.k8
def word_At.pt (tag : Int) (addr : Int) (H : Array Obj) (R : Value → Array Obj → Prop) : Prop :=
 word_place.C tag H (fun v H1 => ∃ x : Bool, v = .bool x ∧ 
  if x = true then (
   if ((decide (addr < 0)) || (decide (addr ≥ 65536))) = true then (
    R (.tuple #[.int .u64 0, .int .i64 18]) H1)
   else
   R (.tuple #[.int .u64 (ior .u64 (ishl .u64 (IntKind.wrap .u64 addr) 3) (IntKind.wrap .u64 tag)), .int .i64 0]) H1)
  else
  R (.tuple #[.int .u64 0, .int .i64 1]) H1)
set_option maxRecDepth 100000 in
theorem word_At.link {tag : Int} {addr : Int} {H : Array Obj} {R : Value → Array Obj → Prop} (h : word_At.pt tag addr H R) : word_At.C tag addr H R := by
  refine S_enter (fn := Try.f15) (c := word_At.k0) 23 Try.func15 (by kernel_rfl) (by kernel_rfl) (Nat.le_of_ble_eq_true (by kernel_rfl)) ?_
  intro w0 Q hQ
  unfold word_At.pt at h
  refine S_sub [(0, .int .i64 tag), (1, .int .i64 addr)] (sb (by kernel_rfl)) ?_
  refine S_seq word_At.k1 word_At.k2 (by kernel_rfl) ?_
  refine S_region 0 (Code.ops word_At.k1) (by kernel_rfl) ?_
  refine N_run 2 [(0, .int .i64 tag), (1, .int .i64 addr)] (fun w => by kernel_rfl) ?_
  refine N_end (by kernel_rfl) ?_
  refine S_then ?_
  refine S_seq word_At.k3 word_At.k4 (by kernel_rfl) ?_
  refine S_block 0 word_At.k5 (by kernel_rfl) ?_
  refine S_seq word_At.k6 word_At.k7 (by kernel_rfl) ?_
  refine S_region 1 (Code.ops word_At.k6) (by kernel_rfl) ?_
  refine N_run 1 [(0, .int .i64 tag), (1, .int .i64 addr), (7, .int .i64 tag)] (fun w => by kernel_rfl) ?_
  refine N_call (some 8) 28 #[.int .i64 tag] (fun w => by kernel_rfl) h ?_
  rintro v H1 ⟨x, rfl, h⟩
  refine ⟨[(0, .int .i64 tag), (1, .int .i64 addr), (8, .bool x)], ps (by kernel_rfl), ?_⟩
  refine N_run 2 [(0, .int .i64 tag), (1, .int .i64 addr), (6, .bool (!x))] (fun w => by kernel_rfl) ?_
  refine N_end (by kernel_rfl) ?_
  refine S_then ?_
  by_cases c1 : x = true
  · rw [if_pos c1] at h
    have b2 : (!x) = false := congrArg Bool.not (c1)
    refine S_env [(0, .int .i64 tag), (1, .int .i64 addr), (6, .bool false)] (by simp only [b2, Bool.not_true, Bool.not_false]) ?_
    clear b2
    refine S_condF (.tmp 6) word_At.k8 word_At.k9 (by kernel_rfl) (by kernel_rfl) ?_
    refine S_seq word_At.k10 word_At.k11 (by kernel_rfl) ?_
    refine S_region 3 (Code.ops word_At.k10) (by kernel_rfl) ?_
    refine N_cut [(0, .int .i64 tag), (1, .int .i64 addr), (10, .bool ((decide (addr < 0)) || (decide (addr ≥ 65536))))] ?_ ?_
    · refine S_then ?_
      by_cases c5 : ((decide (addr < 0)) || (decide (addr ≥ 65536))) = true
      · rw [if_pos c5] at h
        have b6 : ((decide (addr < 0)) || (decide (addr ≥ 65536))) = true := c5
        refine S_env [(0, .int .i64 tag), (1, .int .i64 addr), (10, .bool true)] (by simp only [b6, Bool.not_true, Bool.not_false]) ?_
        clear b6
        refine S_condT (.tmp 10) word_At.k12 word_At.k13 (by kernel_rfl) (by kernel_rfl) ?_
        refine S_seq word_At.k14 word_At.k15 (by kernel_rfl) ?_
        refine S_region 4 (Code.ops word_At.k14) (by kernel_rfl) ?_
        refine N_run 2 [(4, .int .u64 0), (5, .int .i64 18)] (fun w => by kernel_rfl) ?_
        refine N_end (by kernel_rfl) ?_
        refine S_then ?_
        refine S_ret (by kernel_rfl) ?_
        show At _ _ _ _ (Q .ret)
        exact S_done (fn := Try.f15) [.int .u64 0, .int .i64 18] hQ (show ResOK _ _ _ [.tmp 4, .tmp 5] _ from .tmp (by kernel_rfl) (.tmp (by kernel_rfl) (.nil))) h
      · rw [if_neg c5] at h
        have b6 : ((decide (addr < 0)) || (decide (addr ≥ 65536))) = false := eq_false_of_ne_true c5
        refine S_env [(0, .int .i64 tag), (1, .int .i64 addr), (10, .bool false)] (by simp only [b6, Bool.not_true, Bool.not_false]) ?_
        clear b6
        refine S_condF (.tmp 10) word_At.k12 word_At.k13 (by kernel_rfl) (by kernel_rfl) ?_
        refine S_skip (by kernel_rfl) ?_
        refine S_blockEnd ?_
        refine S_then ?_
        refine S_seq word_At.k16 word_At.k17 (by kernel_rfl) ?_
        refine S_region 5 (Code.ops word_At.k16) (by kernel_rfl) ?_
        refine N_run 8 [(4, .int .u64 (ior .u64 (ishl .u64 (IntKind.wrap .u64 addr) 3) (IntKind.wrap .u64 tag))), (5, .int .i64 0)] (fun w => by kernel_rfl) ?_
        refine N_end (by kernel_rfl) ?_
        refine S_then ?_
        refine S_ret (by kernel_rfl) ?_
        show At _ _ _ _ (Q .ret)
        exact S_done (fn := Try.f15) [.int .u64 (ior .u64 (ishl .u64 (IntKind.wrap .u64 addr) 3) (IntKind.wrap .u64 tag)), .int .i64 0] hQ (show ResOK _ _ _ [.tmp 4, .tmp 5] _ from .tmp (by kernel_rfl) (.tmp (by kernel_rfl) (.nil))) h
    · intro hk
      refine N_run 3 [(0, .int .i64 tag), (1, .int .i64 addr), (13, .bool (decide (addr < 0)))] (fun w => by kernel_rfl) ?_
      by_cases c3 : addr < 0
      · have b4 : (decide (addr < 0)) = true := decide_eq_true c3
        refine N_env [(0, .int .i64 tag), (1, .int .i64 addr), (13, .bool true)] (by simp only [b4, Bool.not_true, Bool.not_false]) ?_
        refine N_run 4 [(0, .int .i64 tag), (1, .int .i64 addr), (10, .bool true)] (fun w => by kernel_rfl) ?_
        refine N_end (by kernel_rfl) ?_
        refine S_env [(0, .int .i64 tag), (1, .int .i64 addr), (10, .bool ((decide (addr < 0)) || (decide (addr ≥ 65536))))] (by simp only [b4, Bool.true_or, Bool.false_or, Bool.or_true, Bool.or_false, Bool.true_and, Bool.false_and, Bool.and_true, Bool.and_false, Bool.not_true, Bool.not_false, cond_true, cond_false]) ?_
        exact hk
      · have b4 : (decide (addr < 0)) = false := decide_eq_false c3
        refine N_env [(0, .int .i64 tag), (1, .int .i64 addr), (13, .bool false)] (by simp only [b4, Bool.not_true, Bool.not_false]) ?_
        refine N_run 4 [(0, .int .i64 tag), (1, .int .i64 addr), (10, .bool (decide (addr ≥ 65536)))] (fun w => by kernel_rfl) ?_
        refine N_end (by kernel_rfl) ?_
        refine S_env [(0, .int .i64 tag), (1, .int .i64 addr), (10, .bool ((decide (addr < 0)) || (decide (addr ≥ 65536))))] (by simp only [b4, Bool.true_or, Bool.false_or, Bool.or_true, Bool.or_false, Bool.true_and, Bool.false_and, Bool.and_true, Bool.and_false, Bool.not_true, Bool.not_false, cond_true, cond_false]) ?_
        exact hk
  · rw [if_neg c1] at h
    have b2 : (!x) = true := congrArg Bool.not (eq_false_of_ne_true c1)
    refine S_env [(0, .int .i64 tag), (1, .int .i64 addr), (6, .bool true)] (by simp only [b2, Bool.not_true, Bool.not_false]) ?_
    clear b2
    refine S_condT (.tmp 6) word_At.k8 word_At.k9 (by kernel_rfl) (by kernel_rfl) ?_
    refine S_seq word_At.k18 word_At.k19 (by kernel_rfl) ?_
    refine S_region 2 (Code.ops word_At.k18) (by kernel_rfl) ?_
    refine N_run 2 [(4, .int .u64 0), (5, .int .i64 1)] (fun w => by kernel_rfl) ?_
    refine N_end (by kernel_rfl) ?_
    refine S_then ?_
    refine S_ret (by kernel_rfl) ?_
    show At _ _ _ _ (Q .ret)
    exact S_done (fn := Try.f15) [.int .u64 0, .int .i64 1] hQ (show ResOK _ _ _ [.tmp 4, .tmp 5] _ from .tmp (by kernel_rfl) (.tmp (by kernel_rfl) (.nil))) h

/-! moraine/word.Header -/
noncomputable def word_Header.k0 : Code := Func.code Try.f16
noncomputable def word_Header.k1 : Code := Code.fa word_Header.k0
noncomputable def word_Header.k2 : Code := Code.fb word_Header.k0
noncomputable def word_Header.k3 : Code := Code.fa word_Header.k2
noncomputable def word_Header.k4 : Code := Code.fb word_Header.k2
noncomputable def word_Header.k5 : Code := Code.fa word_Header.k3
noncomputable def word_Header.k6 : Code := Code.fb word_Header.k3
noncomputable def word_Header.k7 : Code := Code.fa word_Header.k6
noncomputable def word_Header.k8 : Code := Code.fb word_Header.k6
noncomputable def word_Header.k9 : Code := Code.fa word_Header.k7
noncomputable def word_Header.k10 : Code := Code.fb word_Header.k7
noncomputable def word_Header.k11 : Code := Code.fa word_Header.k4
noncomputable def word_Header.k12 : Code := Code.fb word_Header.k4
def word_Header.pt (kind : Int) (nv : Int) (more : Int) (H : Array Obj) (R : Value → Array Obj → Prop) : Prop :=
 if (((((decide (kind < 1)) || (decide (kind > 13))) || (decide (nv < 0))) || (decide (nv > 62))) || (decide (more ≥ 281474976710656))) = true then (
  R (.tuple #[.int .u64 0, .int .i64 1]) H)
 else
 R (.tuple #[.int .u64 (ior .u64 (ior .u64 (ior .u64 (ishl .u64 more 16) (ishl .u64 (IntKind.wrap .u64 nv) 8)) (ishl .u64 (IntKind.wrap .u64 kind) 3)) 5), .int .i64 0]) H
set_option maxRecDepth 100000 in
theorem word_Header.link {kind : Int} {nv : Int} {more : Int} {H : Array Obj} {R : Value → Array Obj → Prop} (h : word_Header.pt kind nv more H R) : word_Header.C kind nv more H R := by
  refine S_enter (fn := Try.f16) (c := word_Header.k0) 37 Try.func16 (by kernel_rfl) (by kernel_rfl) (Nat.le_of_ble_eq_true (by kernel_rfl)) ?_
  intro w0 Q hQ
  unfold word_Header.pt at h
  refine S_sub [(0, .int .i64 kind), (1, .int .i64 nv), (2, .int .u64 more)] (sb (by kernel_rfl)) ?_
  refine S_seq word_Header.k1 word_Header.k2 (by kernel_rfl) ?_
  refine S_region 0 (Code.ops word_Header.k1) (by kernel_rfl) ?_
  refine N_run 2 [(0, .int .i64 kind), (1, .int .i64 nv), (2, .int .u64 more)] (fun w => by kernel_rfl) ?_
  refine N_end (by kernel_rfl) ?_
  refine S_then ?_
  refine S_seq word_Header.k3 word_Header.k4 (by kernel_rfl) ?_
  refine S_seq word_Header.k5 word_Header.k6 (by kernel_rfl) ?_
  refine S_region 1 (Code.ops word_Header.k5) (by kernel_rfl) ?_
  refine N_cut [(0, .int .i64 kind), (1, .int .i64 nv), (2, .int .u64 more), (25, .bool (((((decide (kind < 1)) || (decide (kind > 13))) || (decide (nv < 0))) || (decide (nv > 62))) || (decide (more ≥ 281474976710656))))] ?_ ?_
  · refine S_then ?_
    by_cases c9 : (((((decide (kind < 1)) || (decide (kind > 13))) || (decide (nv < 0))) || (decide (nv > 62))) || (decide (more ≥ 281474976710656))) = true
    · rw [if_pos c9] at h
      have b10 : (((((decide (kind < 1)) || (decide (kind > 13))) || (decide (nv < 0))) || (decide (nv > 62))) || (decide (more ≥ 281474976710656))) = true := c9
      refine S_env [(0, .int .i64 kind), (1, .int .i64 nv), (2, .int .u64 more), (25, .bool true)] (by simp only [b10, Bool.not_true, Bool.not_false]) ?_
      clear b10
      refine S_condT (.tmp 25) word_Header.k7 word_Header.k8 (by kernel_rfl) (by kernel_rfl) ?_
      refine S_seq word_Header.k9 word_Header.k10 (by kernel_rfl) ?_
      refine S_region 2 (Code.ops word_Header.k9) (by kernel_rfl) ?_
      refine N_run 2 [(6, .int .u64 0), (7, .int .i64 1)] (fun w => by kernel_rfl) ?_
      refine N_end (by kernel_rfl) ?_
      refine S_then ?_
      refine S_ret (by kernel_rfl) ?_
      show At _ _ _ _ (Q .ret)
      exact S_done (fn := Try.f16) [.int .u64 0, .int .i64 1] hQ (show ResOK _ _ _ [.tmp 6, .tmp 7] _ from .tmp (by kernel_rfl) (.tmp (by kernel_rfl) (.nil))) h
    · rw [if_neg c9] at h
      have b10 : (((((decide (kind < 1)) || (decide (kind > 13))) || (decide (nv < 0))) || (decide (nv > 62))) || (decide (more ≥ 281474976710656))) = false := eq_false_of_ne_true c9
      refine S_env [(0, .int .i64 kind), (1, .int .i64 nv), (2, .int .u64 more), (25, .bool false)] (by simp only [b10, Bool.not_true, Bool.not_false]) ?_
      clear b10
      refine S_condF (.tmp 25) word_Header.k7 word_Header.k8 (by kernel_rfl) (by kernel_rfl) ?_
      refine S_skip (by kernel_rfl) ?_
      refine S_then ?_
      refine S_seq word_Header.k11 word_Header.k12 (by kernel_rfl) ?_
      refine S_region 3 (Code.ops word_Header.k11) (by kernel_rfl) ?_
      refine N_run 13 [(6, .int .u64 (ior .u64 (ior .u64 (ior .u64 (ishl .u64 more 16) (ishl .u64 (IntKind.wrap .u64 nv) 8)) (ishl .u64 (IntKind.wrap .u64 kind) 3)) 5)), (7, .int .i64 0)] (fun w => by kernel_rfl) ?_
      refine N_end (by kernel_rfl) ?_
      refine S_then ?_
      refine S_ret (by kernel_rfl) ?_
      show At _ _ _ _ (Q .ret)
      exact S_done (fn := Try.f16) [.int .u64 (ior .u64 (ior .u64 (ior .u64 (ishl .u64 more 16) (ishl .u64 (IntKind.wrap .u64 nv) 8)) (ishl .u64 (IntKind.wrap .u64 kind) 3)) 5), .int .i64 0] hQ (show ResOK _ _ _ [.tmp 6, .tmp 7] _ from .tmp (by kernel_rfl) (.tmp (by kernel_rfl) (.nil))) h
  · intro hk
    refine N_run 3 [(0, .int .i64 kind), (1, .int .i64 nv), (2, .int .u64 more), (10, .bool (decide (kind < 1)))] (fun w => by kernel_rfl) ?_
    by_cases c1 : kind < 1
    · have b2 : (decide (kind < 1)) = true := decide_eq_true c1
      refine N_env [(0, .int .i64 kind), (1, .int .i64 nv), (2, .int .u64 more), (10, .bool true)] (by simp only [b2, Bool.not_true, Bool.not_false]) ?_
      refine N_run 15 [(0, .int .i64 kind), (1, .int .i64 nv), (2, .int .u64 more), (25, .bool true)] (fun w => by kernel_rfl) ?_
      refine N_end (by kernel_rfl) ?_
      refine S_env [(0, .int .i64 kind), (1, .int .i64 nv), (2, .int .u64 more), (25, .bool (((((decide (kind < 1)) || (decide (kind > 13))) || (decide (nv < 0))) || (decide (nv > 62))) || (decide (more ≥ 281474976710656))))] (by simp only [b2, Bool.true_or, Bool.false_or, Bool.or_true, Bool.or_false, Bool.true_and, Bool.false_and, Bool.and_true, Bool.and_false, Bool.not_true, Bool.not_false, cond_true, cond_false]) ?_
      exact hk
    · have b2 : (decide (kind < 1)) = false := decide_eq_false c1
      refine N_env [(0, .int .i64 kind), (1, .int .i64 nv), (2, .int .u64 more), (10, .bool false)] (by simp only [b2, Bool.not_true, Bool.not_false]) ?_
      refine N_run 4 [(0, .int .i64 kind), (1, .int .i64 nv), (2, .int .u64 more), (14, .bool (decide (kind > 13)))] (fun w => by kernel_rfl) ?_
      by_cases c3 : kind > 13
      · have b4 : (decide (kind > 13)) = true := decide_eq_true c3
        refine N_env [(0, .int .i64 kind), (1, .int .i64 nv), (2, .int .u64 more), (14, .bool true)] (by simp only [b4, Bool.not_true, Bool.not_false]) ?_
        refine N_run 11 [(0, .int .i64 kind), (1, .int .i64 nv), (2, .int .u64 more), (25, .bool true)] (fun w => by kernel_rfl) ?_
        refine N_end (by kernel_rfl) ?_
        refine S_env [(0, .int .i64 kind), (1, .int .i64 nv), (2, .int .u64 more), (25, .bool (((((decide (kind < 1)) || (decide (kind > 13))) || (decide (nv < 0))) || (decide (nv > 62))) || (decide (more ≥ 281474976710656))))] (by simp only [b2, b4, Bool.true_or, Bool.false_or, Bool.or_true, Bool.or_false, Bool.true_and, Bool.false_and, Bool.and_true, Bool.and_false, Bool.not_true, Bool.not_false, cond_true, cond_false]) ?_
        exact hk
      · have b4 : (decide (kind > 13)) = false := decide_eq_false c3
        refine N_env [(0, .int .i64 kind), (1, .int .i64 nv), (2, .int .u64 more), (14, .bool false)] (by simp only [b4, Bool.not_true, Bool.not_false]) ?_
        refine N_run 4 [(0, .int .i64 kind), (1, .int .i64 nv), (2, .int .u64 more), (18, .bool (decide (nv < 0)))] (fun w => by kernel_rfl) ?_
        by_cases c5 : nv < 0
        · have b6 : (decide (nv < 0)) = true := decide_eq_true c5
          refine N_env [(0, .int .i64 kind), (1, .int .i64 nv), (2, .int .u64 more), (18, .bool true)] (by simp only [b6, Bool.not_true, Bool.not_false]) ?_
          refine N_run 7 [(0, .int .i64 kind), (1, .int .i64 nv), (2, .int .u64 more), (25, .bool true)] (fun w => by kernel_rfl) ?_
          refine N_end (by kernel_rfl) ?_
          refine S_env [(0, .int .i64 kind), (1, .int .i64 nv), (2, .int .u64 more), (25, .bool (((((decide (kind < 1)) || (decide (kind > 13))) || (decide (nv < 0))) || (decide (nv > 62))) || (decide (more ≥ 281474976710656))))] (by simp only [b2, b4, b6, Bool.true_or, Bool.false_or, Bool.or_true, Bool.or_false, Bool.true_and, Bool.false_and, Bool.and_true, Bool.and_false, Bool.not_true, Bool.not_false, cond_true, cond_false]) ?_
          exact hk
        · have b6 : (decide (nv < 0)) = false := decide_eq_false c5
          refine N_env [(0, .int .i64 kind), (1, .int .i64 nv), (2, .int .u64 more), (18, .bool false)] (by simp only [b6, Bool.not_true, Bool.not_false]) ?_
          refine N_run 4 [(0, .int .i64 kind), (1, .int .i64 nv), (2, .int .u64 more), (22, .bool (decide (nv > 62)))] (fun w => by kernel_rfl) ?_
          by_cases c7 : nv > 62
          · have b8 : (decide (nv > 62)) = true := decide_eq_true c7
            refine N_env [(0, .int .i64 kind), (1, .int .i64 nv), (2, .int .u64 more), (22, .bool true)] (by simp only [b8, Bool.not_true, Bool.not_false]) ?_
            refine N_run 3 [(0, .int .i64 kind), (1, .int .i64 nv), (2, .int .u64 more), (25, .bool true)] (fun w => by kernel_rfl) ?_
            refine N_end (by kernel_rfl) ?_
            refine S_env [(0, .int .i64 kind), (1, .int .i64 nv), (2, .int .u64 more), (25, .bool (((((decide (kind < 1)) || (decide (kind > 13))) || (decide (nv < 0))) || (decide (nv > 62))) || (decide (more ≥ 281474976710656))))] (by simp only [b2, b4, b6, b8, Bool.true_or, Bool.false_or, Bool.or_true, Bool.or_false, Bool.true_and, Bool.false_and, Bool.and_true, Bool.and_false, Bool.not_true, Bool.not_false, cond_true, cond_false]) ?_
            exact hk
          · have b8 : (decide (nv > 62)) = false := decide_eq_false c7
            refine N_env [(0, .int .i64 kind), (1, .int .i64 nv), (2, .int .u64 more), (22, .bool false)] (by simp only [b8, Bool.not_true, Bool.not_false]) ?_
            refine N_run 3 [(0, .int .i64 kind), (1, .int .i64 nv), (2, .int .u64 more), (25, .bool (decide (more ≥ 281474976710656)))] (fun w => by kernel_rfl) ?_
            refine N_end (by kernel_rfl) ?_
            refine S_env [(0, .int .i64 kind), (1, .int .i64 nv), (2, .int .u64 more), (25, .bool (((((decide (kind < 1)) || (decide (kind > 13))) || (decide (nv < 0))) || (decide (nv > 62))) || (decide (more ≥ 281474976710656))))] (by simp only [b2, b4, b6, b8, Bool.true_or, Bool.false_or, Bool.or_true, Bool.or_false, Bool.true_and, Bool.false_and, Bool.and_true, Bool.and_false, Bool.not_true, Bool.not_false, cond_true, cond_false]) ?_
            exact hk

/-! moraine/word.May -/
noncomputable def word_May.k0 : Code := Func.code Try.f18
noncomputable def word_May.k1 : Code := Code.fa word_May.k0
noncomputable def word_May.k2 : Code := Code.fb word_May.k0
noncomputable def word_May.k3 : Code := Code.fa word_May.k2
noncomputable def word_May.k4 : Code := Code.fb word_May.k2
noncomputable def word_May.k5 : Code := Code.fa word_May.k4
noncomputable def word_May.k6 : Code := Code.fb word_May.k4
noncomputable def word_May.k7 : Code := Code.fa word_May.k5
noncomputable def word_May.k8 : Code := Code.fb word_May.k5
noncomputable def word_May.k9 : Code := Code.fa word_May.k8
noncomputable def word_May.k10 : Code := Code.fa word_May.k9
noncomputable def word_May.k11 : Code := Code.fb word_May.k9
noncomputable def word_May.k12 : Code := Code.fa word_May.k10
noncomputable def word_May.k13 : Code := Code.fa word_May.k12
noncomputable def word_May.k14 : Code := Code.fb word_May.k12
noncomputable def word_May.k15 : Code := Code.fa word_May.k13
noncomputable def word_May.k16 : Code := Code.fa word_May.k15
noncomputable def word_May.k17 : Code := Code.fb word_May.k15
noncomputable def word_May.k18 : Code := Code.fa word_May.k16
noncomputable def word_May.k19 : Code := Code.fa word_May.k18
noncomputable def word_May.k20 : Code := Code.fa word_May.k19
noncomputable def word_May.k21 : Code := Code.fa word_May.k20
noncomputable def word_May.k22 : Code := Code.fa word_May.k21
noncomputable def word_May.k23 : Code := Code.fb word_May.k21
noncomputable def word_May.k24 : Code := Code.fa word_May.k22
noncomputable def word_May.k25 : Code := Code.fa word_May.k24
noncomputable def word_May.k26 : Code := Code.fb word_May.k24
noncomputable def word_May.k27 : Code := Code.fa word_May.k25
noncomputable def word_May.k28 : Code := Code.fb word_May.k25
noncomputable def word_May.k29 : Code := Code.fa word_May.k27
noncomputable def word_May.k30 : Code := Code.fb word_May.k27
noncomputable def word_May.k31 : Code := Code.fa word_May.k30
noncomputable def word_May.k32 : Code := Code.fb word_May.k30
noncomputable def word_May.k33 : Code := Code.fa word_May.k23
noncomputable def word_May.k34 : Code := Code.fb word_May.k23
noncomputable def word_May.k35 : Code := Code.fa word_May.k33
noncomputable def word_May.k36 : Code := Code.fb word_May.k33
noncomputable def word_May.k37 : Code := Code.fa word_May.k28
noncomputable def word_May.k38 : Code := Code.fb word_May.k28
noncomputable def word_May.k39 : Code := Code.fa word_May.k37
noncomputable def word_May.k40 : Code := Code.fb word_May.k37
noncomputable def word_May.k41 : Code := Code.fa word_May.k40
noncomputable def word_May.k42 : Code := Code.fb word_May.k40
noncomputable def word_May.k43 : Code := Code.fa word_May.k17
noncomputable def word_May.k44 : Code := Code.fb word_May.k17
noncomputable def word_May.k45 : Code := Code.fa word_May.k43
noncomputable def word_May.k46 : Code := Code.fb word_May.k43
noncomputable def word_May.k47 : Code := Code.fa word_May.k38
noncomputable def word_May.k48 : Code := Code.fb word_May.k38
noncomputable def word_May.k49 : Code := Code.fa word_May.k47
noncomputable def word_May.k50 : Code := Code.fb word_May.k47
noncomputable def word_May.k51 : Code := Code.fa word_May.k50
noncomputable def word_May.k52 : Code := Code.fb word_May.k50
noncomputable def word_May.k53 : Code := Code.fa word_May.k48
noncomputable def word_May.k54 : Code := Code.fb word_May.k48
noncomputable def word_May.k55 : Code := Code.fa word_May.k53
noncomputable def word_May.k56 : Code := Code.fb word_May.k53
noncomputable def word_May.k57 : Code := Code.fa word_May.k56
noncomputable def word_May.k58 : Code := Code.fb word_May.k56
noncomputable def word_May.k59 : Code := Code.fa word_May.k54
noncomputable def word_May.k60 : Code := Code.fb word_May.k54
noncomputable def word_May.k61 : Code := Code.fa word_May.k59
noncomputable def word_May.k62 : Code := Code.fb word_May.k59
noncomputable def word_May.k63 : Code := Code.fa word_May.k62
noncomputable def word_May.k64 : Code := Code.fb word_May.k62
noncomputable def word_May.k65 : Code := Code.fa word_May.k60
noncomputable def word_May.k66 : Code := Code.fb word_May.k60
noncomputable def word_May.k67 : Code := Code.fa word_May.k65
noncomputable def word_May.k68 : Code := Code.fb word_May.k65
noncomputable def word_May.k69 : Code := Code.fa word_May.k68
noncomputable def word_May.k70 : Code := Code.fb word_May.k68
noncomputable def word_May.k71 : Code := Code.fa word_May.k14
noncomputable def word_May.k72 : Code := Code.fb word_May.k14
noncomputable def word_May.k73 : Code := Code.fa word_May.k71
noncomputable def word_May.k74 : Code := Code.fb word_May.k71
noncomputable def word_May.k75 : Code := Code.fa word_May.k73
noncomputable def word_May.k76 : Code := Code.fb word_May.k73
noncomputable def word_May.k77 : Code := Code.fa word_May.k76
noncomputable def word_May.k78 : Code := Code.fb word_May.k76
noncomputable def word_May.k79 : Code := Code.fa word_May.k77
noncomputable def word_May.k80 : Code := Code.fb word_May.k77
noncomputable def word_May.k81 : Code := Code.fa word_May.k74
noncomputable def word_May.k82 : Code := Code.fb word_May.k74
noncomputable def word_May.k83 : Code := Code.fa word_May.k66
noncomputable def word_May.k84 : Code := Code.fb word_May.k66
noncomputable def word_May.k85 : Code := Code.fa word_May.k84
noncomputable def word_May.k86 : Code := Code.fb word_May.k84
noncomputable def word_May.k87 : Code := Code.fa word_May.k11
noncomputable def word_May.k88 : Code := Code.fb word_May.k11
noncomputable def word_May.k89 : Code := Code.fa word_May.k87
noncomputable def word_May.k90 : Code := Code.fb word_May.k87
noncomputable def word_May.k91 : Code := Code.fa word_May.k6
noncomputable def word_May.k92 : Code := Code.fb word_May.k6
def word_May.pt (wv : Int) (H : Array Obj) (R : Value → Array Obj → Prop) : Prop :=
 word_parts.C wv H (fun v H1 => ∃ ra : Int, ∃ rb : Int, ∃ rc : Int, v = .tuple #[.int .i64 ra, .int .i64 rb, .int .u64 rc] ∧ 
  word_Tag.C wv H1 (fun v_2 H2 => ∃ x : Int, v_2 = .int .i64 x ∧ 
   if x = 0 then (
    R (.bool true) H2)
   else
   if x = 1 then (
    R (.bool (decide ((ishr .u64 wv 3) < 65536))) H2)
   else
   if x = 2 then (
    R (.bool (decide ((ishr .u64 wv 3) < 65536))) H2)
   else
   if x = 3 then (
    R (.bool (decide ((ishr .u64 wv 3) < 65536))) H2)
   else
   if x = 6 then (
    R (.bool (decide ((ishr .u64 wv 3) < 65536))) H2)
   else
   if x = 4 then (
    if ra = 7 then (
     word_letter.C (ishr .u64 wv 8) H2 (fun v_3 H3 => ∃ x_2 : Bool, v_3 = .bool x_2 ∧ 
      R (.bool x_2) H3))
    else
    R (.bool (decide ((ishr .u64 wv 3) ≤ 6))) H2)
   else
   if x = 5 then (
    R (.bool (((decide (ra ≥ 1)) && (decide (ra ≤ 13))) && (decide (rb ≤ 62)))) H2)
   else
   R (.bool false) H2))
set_option maxRecDepth 100000 in
theorem word_May.link {wv : Int} {H : Array Obj} {R : Value → Array Obj → Prop} (h : word_May.pt wv H R) : word_May.C wv H R := by
  refine S_enter (fn := Try.f18) (c := word_May.k0) 49 Try.func18 (by kernel_rfl) (by kernel_rfl) (Nat.le_of_ble_eq_true (by kernel_rfl)) ?_
  intro w0 Q hQ
  unfold word_May.pt at h
  refine S_sub [(0, .int .u64 wv)] (sb (by kernel_rfl)) ?_
  refine S_seq word_May.k1 word_May.k2 (by kernel_rfl) ?_
  refine S_region 0 (Code.ops word_May.k1) (by kernel_rfl) ?_
  refine N_run 1 [(0, .int .u64 wv)] (fun w => by kernel_rfl) ?_
  refine N_end (by kernel_rfl) ?_
  refine S_then ?_
  refine S_seq word_May.k3 word_May.k4 (by kernel_rfl) ?_
  refine S_region 1 (Code.ops word_May.k3) (by kernel_rfl) ?_
  refine N_run 1 [(0, .int .u64 wv), (7, .int .u64 wv)] (fun w => by kernel_rfl) ?_
  refine N_call (some 8) 29 #[.int .u64 wv] (fun w => by kernel_rfl) h ?_
  rintro v H1 ⟨ra, rb, rc, rfl, h⟩
  refine ⟨[(0, .int .u64 wv), (8, .tuple #[.int .i64 ra, .int .i64 rb, .int .u64 rc])], ps (by kernel_rfl), ?_⟩
  refine N_run 7 [(0, .int .u64 wv), (3, .int .i64 ra), (4, .int .i64 rb)] (fun w => by kernel_rfl) ?_
  refine N_end (by kernel_rfl) ?_
  refine S_then ?_
  refine S_seq word_May.k5 word_May.k6 (by kernel_rfl) ?_
  refine S_seq word_May.k7 word_May.k8 (by kernel_rfl) ?_
  refine S_region 2 (Code.ops word_May.k7) (by kernel_rfl) ?_
  refine N_run 1 [(0, .int .u64 wv), (3, .int .i64 ra), (4, .int .i64 rb), (12, .int .u64 wv)] (fun w => by kernel_rfl) ?_
  refine N_call (some 13) 24 #[.int .u64 wv] (fun w => by kernel_rfl) h ?_
  rintro v_2 H2 ⟨x, rfl, h⟩
  refine ⟨[(0, .int .u64 wv), (3, .int .i64 ra), (4, .int .i64 rb), (13, .int .i64 x)], ps (by kernel_rfl), ?_⟩
  refine N_end (by kernel_rfl) ?_
  refine S_then ?_
  refine S_block 0 word_May.k9 (by kernel_rfl) ?_
  refine S_seq word_May.k10 word_May.k11 (by kernel_rfl) ?_
  refine S_block 7 word_May.k12 (by kernel_rfl) ?_
  refine S_seq word_May.k13 word_May.k14 (by kernel_rfl) ?_
  refine S_block 6 word_May.k15 (by kernel_rfl) ?_
  refine S_seq word_May.k16 word_May.k17 (by kernel_rfl) ?_
  refine S_block 5 word_May.k18 (by kernel_rfl) ?_
  refine S_block 4 word_May.k19 (by kernel_rfl) ?_
  refine S_block 3 word_May.k20 (by kernel_rfl) ?_
  refine S_block 2 word_May.k21 (by kernel_rfl) ?_
  refine S_seq word_May.k22 word_May.k23 (by kernel_rfl) ?_
  refine S_block 1 word_May.k24 (by kernel_rfl) ?_
  refine S_seq word_May.k25 word_May.k26 (by kernel_rfl) ?_
  refine S_seq word_May.k27 word_May.k28 (by kernel_rfl) ?_
  refine S_seq word_May.k29 word_May.k30 (by kernel_rfl) ?_
  refine S_region 3 (Code.ops word_May.k29) (by kernel_rfl) ?_
  refine N_run 2 [(0, .int .u64 wv), (3, .int .i64 ra), (4, .int .i64 rb), (13, .int .i64 x), (14, .bool (x == 0))] (fun w => by kernel_rfl) ?_
  refine N_end (by kernel_rfl) ?_
  refine S_then ?_
  by_cases c1 : x = 0
  · rw [if_pos c1] at h
    have b2 : (x == 0) = true := beq_iff_eq.mpr c1
    refine S_env [(0, .int .u64 wv), (3, .int .i64 ra), (4, .int .i64 rb), (13, .int .i64 x), (14, .bool true)] (by simp only [b2, Bool.not_true, Bool.not_false]) ?_
    clear b2
    refine S_condT (.tmp 14) word_May.k31 word_May.k32 (by kernel_rfl) (by kernel_rfl) ?_
    refine S_exit 1 (by kernel_rfl) ?_
    refine S_exitThen ?_
    refine S_exitThen ?_
    refine S_exitHere ?_
    refine S_then ?_
    refine S_seq word_May.k33 word_May.k34 (by kernel_rfl) ?_
    refine S_seq word_May.k35 word_May.k36 (by kernel_rfl) ?_
    refine S_region 10 (Code.ops word_May.k35) (by kernel_rfl) ?_
    refine N_run 1 [(2, .bool true)] (fun w => by kernel_rfl) ?_
    refine N_end (by kernel_rfl) ?_
    refine S_then ?_
    refine S_ret (by kernel_rfl) ?_
    show At _ _ _ _ (Q .ret)
    exact S_done (fn := Try.f18) [.bool true] hQ (show ResOK _ _ _ [.tmp 2] _ from .tmp (by kernel_rfl) (.nil)) h
  · rw [if_neg c1] at h
    have b2 : (x == 0) = false := beq_eq_false_iff_ne.mpr c1
    refine S_env [(0, .int .u64 wv), (3, .int .i64 ra), (4, .int .i64 rb), (13, .int .i64 x), (14, .bool false)] (by simp only [b2, Bool.not_true, Bool.not_false]) ?_
    clear b2
    refine S_condF (.tmp 14) word_May.k31 word_May.k32 (by kernel_rfl) (by kernel_rfl) ?_
    refine S_skip (by kernel_rfl) ?_
    refine S_then ?_
    refine S_seq word_May.k37 word_May.k38 (by kernel_rfl) ?_
    refine S_seq word_May.k39 word_May.k40 (by kernel_rfl) ?_
    refine S_region 4 (Code.ops word_May.k39) (by kernel_rfl) ?_
    refine N_run 2 [(0, .int .u64 wv), (3, .int .i64 ra), (4, .int .i64 rb), (13, .int .i64 x), (16, .bool (x == 1))] (fun w => by kernel_rfl) ?_
    refine N_end (by kernel_rfl) ?_
    refine S_then ?_
    by_cases c3 : x = 1
    · rw [if_pos c3] at h
      have b4 : (x == 1) = true := beq_iff_eq.mpr c3
      refine S_env [(0, .int .u64 wv), (3, .int .i64 ra), (4, .int .i64 rb), (13, .int .i64 x), (16, .bool true)] (by simp only [b4, Bool.not_true, Bool.not_false]) ?_
      clear b4
      refine S_condT (.tmp 16) word_May.k41 word_May.k42 (by kernel_rfl) (by kernel_rfl) ?_
      refine S_exit 2 (by kernel_rfl) ?_
      refine S_exitThen ?_
      refine S_exitThen ?_
      refine S_exitPast (by kernel_rfl) ?_
      refine S_exitThen ?_
      refine S_exitHere ?_
      refine S_blockEnd ?_
      refine S_blockEnd ?_
      refine S_blockEnd ?_
      refine S_then ?_
      refine S_seq word_May.k43 word_May.k44 (by kernel_rfl) ?_
      refine S_seq word_May.k45 word_May.k46 (by kernel_rfl) ?_
      refine S_region 11 (Code.ops word_May.k45) (by kernel_rfl) ?_
      refine N_run 4 [(2, .bool (decide ((ishr .u64 wv 3) < 65536)))] (fun w => by kernel_rfl) ?_
      refine N_end (by kernel_rfl) ?_
      refine S_then ?_
      refine S_ret (by kernel_rfl) ?_
      show At _ _ _ _ (Q .ret)
      exact S_done (fn := Try.f18) [.bool (decide ((ishr .u64 wv 3) < 65536))] hQ (show ResOK _ _ _ [.tmp 2] _ from .tmp (by kernel_rfl) (.nil)) h
    · rw [if_neg c3] at h
      have b4 : (x == 1) = false := beq_eq_false_iff_ne.mpr c3
      refine S_env [(0, .int .u64 wv), (3, .int .i64 ra), (4, .int .i64 rb), (13, .int .i64 x), (16, .bool false)] (by simp only [b4, Bool.not_true, Bool.not_false]) ?_
      clear b4
      refine S_condF (.tmp 16) word_May.k41 word_May.k42 (by kernel_rfl) (by kernel_rfl) ?_
      refine S_skip (by kernel_rfl) ?_
      refine S_then ?_
      refine S_seq word_May.k47 word_May.k48 (by kernel_rfl) ?_
      refine S_seq word_May.k49 word_May.k50 (by kernel_rfl) ?_
      refine S_region 5 (Code.ops word_May.k49) (by kernel_rfl) ?_
      refine N_run 2 [(0, .int .u64 wv), (3, .int .i64 ra), (4, .int .i64 rb), (13, .int .i64 x), (18, .bool (x == 2))] (fun w => by kernel_rfl) ?_
      refine N_end (by kernel_rfl) ?_
      refine S_then ?_
      by_cases c5 : x = 2
      · rw [if_pos c5] at h
        have b6 : (x == 2) = true := beq_iff_eq.mpr c5
        refine S_env [(0, .int .u64 wv), (3, .int .i64 ra), (4, .int .i64 rb), (13, .int .i64 x), (18, .bool true)] (by simp only [b6, Bool.not_true, Bool.not_false]) ?_
        clear b6
        refine S_condT (.tmp 18) word_May.k51 word_May.k52 (by kernel_rfl) (by kernel_rfl) ?_
        refine S_exit 3 (by kernel_rfl) ?_
        refine S_exitThen ?_
        refine S_exitThen ?_
        refine S_exitPast (by kernel_rfl) ?_
        refine S_exitThen ?_
        refine S_exitPast (by kernel_rfl) ?_
        refine S_exitHere ?_
        refine S_blockEnd ?_
        refine S_blockEnd ?_
        refine S_then ?_
        refine S_seq word_May.k43 word_May.k44 (by kernel_rfl) ?_
        refine S_seq word_May.k45 word_May.k46 (by kernel_rfl) ?_
        refine S_region 11 (Code.ops word_May.k45) (by kernel_rfl) ?_
        refine N_run 4 [(2, .bool (decide ((ishr .u64 wv 3) < 65536)))] (fun w => by kernel_rfl) ?_
        refine N_end (by kernel_rfl) ?_
        refine S_then ?_
        refine S_ret (by kernel_rfl) ?_
        show At _ _ _ _ (Q .ret)
        exact S_done (fn := Try.f18) [.bool (decide ((ishr .u64 wv 3) < 65536))] hQ (show ResOK _ _ _ [.tmp 2] _ from .tmp (by kernel_rfl) (.nil)) h
      · rw [if_neg c5] at h
        have b6 : (x == 2) = false := beq_eq_false_iff_ne.mpr c5
        refine S_env [(0, .int .u64 wv), (3, .int .i64 ra), (4, .int .i64 rb), (13, .int .i64 x), (18, .bool false)] (by simp only [b6, Bool.not_true, Bool.not_false]) ?_
        clear b6
        refine S_condF (.tmp 18) word_May.k51 word_May.k52 (by kernel_rfl) (by kernel_rfl) ?_
        refine S_skip (by kernel_rfl) ?_
        refine S_then ?_
        refine S_seq word_May.k53 word_May.k54 (by kernel_rfl) ?_
        refine S_seq word_May.k55 word_May.k56 (by kernel_rfl) ?_
        refine S_region 6 (Code.ops word_May.k55) (by kernel_rfl) ?_
        refine N_run 2 [(0, .int .u64 wv), (3, .int .i64 ra), (4, .int .i64 rb), (13, .int .i64 x), (20, .bool (x == 3))] (fun w => by kernel_rfl) ?_
        refine N_end (by kernel_rfl) ?_
        refine S_then ?_
        by_cases c7 : x = 3
        · rw [if_pos c7] at h
          have b8 : (x == 3) = true := beq_iff_eq.mpr c7
          refine S_env [(0, .int .u64 wv), (3, .int .i64 ra), (4, .int .i64 rb), (13, .int .i64 x), (20, .bool true)] (by simp only [b8, Bool.not_true, Bool.not_false]) ?_
          clear b8
          refine S_condT (.tmp 20) word_May.k57 word_May.k58 (by kernel_rfl) (by kernel_rfl) ?_
          refine S_exit 4 (by kernel_rfl) ?_
          refine S_exitThen ?_
          refine S_exitThen ?_
          refine S_exitPast (by kernel_rfl) ?_
          refine S_exitThen ?_
          refine S_exitPast (by kernel_rfl) ?_
          refine S_exitPast (by kernel_rfl) ?_
          refine S_exitHere ?_
          refine S_blockEnd ?_
          refine S_then ?_
          refine S_seq word_May.k43 word_May.k44 (by kernel_rfl) ?_
          refine S_seq word_May.k45 word_May.k46 (by kernel_rfl) ?_
          refine S_region 11 (Code.ops word_May.k45) (by kernel_rfl) ?_
          refine N_run 4 [(2, .bool (decide ((ishr .u64 wv 3) < 65536)))] (fun w => by kernel_rfl) ?_
          refine N_end (by kernel_rfl) ?_
          refine S_then ?_
          refine S_ret (by kernel_rfl) ?_
          show At _ _ _ _ (Q .ret)
          exact S_done (fn := Try.f18) [.bool (decide ((ishr .u64 wv 3) < 65536))] hQ (show ResOK _ _ _ [.tmp 2] _ from .tmp (by kernel_rfl) (.nil)) h
        · rw [if_neg c7] at h
          have b8 : (x == 3) = false := beq_eq_false_iff_ne.mpr c7
          refine S_env [(0, .int .u64 wv), (3, .int .i64 ra), (4, .int .i64 rb), (13, .int .i64 x), (20, .bool false)] (by simp only [b8, Bool.not_true, Bool.not_false]) ?_
          clear b8
          refine S_condF (.tmp 20) word_May.k57 word_May.k58 (by kernel_rfl) (by kernel_rfl) ?_
          refine S_skip (by kernel_rfl) ?_
          refine S_then ?_
          refine S_seq word_May.k59 word_May.k60 (by kernel_rfl) ?_
          refine S_seq word_May.k61 word_May.k62 (by kernel_rfl) ?_
          refine S_region 7 (Code.ops word_May.k61) (by kernel_rfl) ?_
          refine N_run 2 [(0, .int .u64 wv), (3, .int .i64 ra), (4, .int .i64 rb), (13, .int .i64 x), (22, .bool (x == 6))] (fun w => by kernel_rfl) ?_
          refine N_end (by kernel_rfl) ?_
          refine S_then ?_
          by_cases c9 : x = 6
          · rw [if_pos c9] at h
            have b10 : (x == 6) = true := beq_iff_eq.mpr c9
            refine S_env [(0, .int .u64 wv), (3, .int .i64 ra), (4, .int .i64 rb), (13, .int .i64 x), (22, .bool true)] (by simp only [b10, Bool.not_true, Bool.not_false]) ?_
            clear b10
            refine S_condT (.tmp 22) word_May.k63 word_May.k64 (by kernel_rfl) (by kernel_rfl) ?_
            refine S_exit 5 (by kernel_rfl) ?_
            refine S_exitThen ?_
            refine S_exitThen ?_
            refine S_exitPast (by kernel_rfl) ?_
            refine S_exitThen ?_
            refine S_exitPast (by kernel_rfl) ?_
            refine S_exitPast (by kernel_rfl) ?_
            refine S_exitPast (by kernel_rfl) ?_
            refine S_exitHere ?_
            refine S_then ?_
            refine S_seq word_May.k43 word_May.k44 (by kernel_rfl) ?_
            refine S_seq word_May.k45 word_May.k46 (by kernel_rfl) ?_
            refine S_region 11 (Code.ops word_May.k45) (by kernel_rfl) ?_
            refine N_run 4 [(2, .bool (decide ((ishr .u64 wv 3) < 65536)))] (fun w => by kernel_rfl) ?_
            refine N_end (by kernel_rfl) ?_
            refine S_then ?_
            refine S_ret (by kernel_rfl) ?_
            show At _ _ _ _ (Q .ret)
            exact S_done (fn := Try.f18) [.bool (decide ((ishr .u64 wv 3) < 65536))] hQ (show ResOK _ _ _ [.tmp 2] _ from .tmp (by kernel_rfl) (.nil)) h
          · rw [if_neg c9] at h
            have b10 : (x == 6) = false := beq_eq_false_iff_ne.mpr c9
            refine S_env [(0, .int .u64 wv), (3, .int .i64 ra), (4, .int .i64 rb), (13, .int .i64 x), (22, .bool false)] (by simp only [b10, Bool.not_true, Bool.not_false]) ?_
            clear b10
            refine S_condF (.tmp 22) word_May.k63 word_May.k64 (by kernel_rfl) (by kernel_rfl) ?_
            refine S_skip (by kernel_rfl) ?_
            refine S_then ?_
            refine S_seq word_May.k65 word_May.k66 (by kernel_rfl) ?_
            refine S_seq word_May.k67 word_May.k68 (by kernel_rfl) ?_
            refine S_region 8 (Code.ops word_May.k67) (by kernel_rfl) ?_
            refine N_run 2 [(0, .int .u64 wv), (3, .int .i64 ra), (4, .int .i64 rb), (13, .int .i64 x), (24, .bool (x == 4))] (fun w => by kernel_rfl) ?_
            refine N_end (by kernel_rfl) ?_
            refine S_then ?_
            by_cases c11 : x = 4
            · rw [if_pos c11] at h
              have b12 : (x == 4) = true := beq_iff_eq.mpr c11
              refine S_env [(0, .int .u64 wv), (3, .int .i64 ra), (4, .int .i64 rb), (13, .int .i64 x), (24, .bool true)] (by simp only [b12, Bool.not_true, Bool.not_false]) ?_
              clear b12
              refine S_condT (.tmp 24) word_May.k69 word_May.k70 (by kernel_rfl) (by kernel_rfl) ?_
              refine S_exit 6 (by kernel_rfl) ?_
              refine S_exitThen ?_
              refine S_exitThen ?_
              refine S_exitPast (by kernel_rfl) ?_
              refine S_exitThen ?_
              refine S_exitPast (by kernel_rfl) ?_
              refine S_exitPast (by kernel_rfl) ?_
              refine S_exitPast (by kernel_rfl) ?_
              refine S_exitPast (by kernel_rfl) ?_
              refine S_exitThen ?_
              refine S_exitHere ?_
              refine S_then ?_
              refine S_seq word_May.k71 word_May.k72 (by kernel_rfl) ?_
              refine S_seq word_May.k73 word_May.k74 (by kernel_rfl) ?_
              refine S_seq word_May.k75 word_May.k76 (by kernel_rfl) ?_
              refine S_region 12 (Code.ops word_May.k75) (by kernel_rfl) ?_
              refine N_run 2 [(0, .int .u64 wv), (32, .bool (ra == 7))] (fun w => by kernel_rfl) ?_
              refine N_end (by kernel_rfl) ?_
              refine S_then ?_
              by_cases c13 : ra = 7
              · rw [if_pos c13] at h
                have b14 : (ra == 7) = true := beq_iff_eq.mpr c13
                refine S_env [(0, .int .u64 wv), (32, .bool true)] (by simp only [b14, Bool.not_true, Bool.not_false]) ?_
                clear b14
                refine S_condT (.tmp 32) word_May.k77 word_May.k78 (by kernel_rfl) (by kernel_rfl) ?_
                refine S_seq word_May.k79 word_May.k80 (by kernel_rfl) ?_
                refine S_region 13 (Code.ops word_May.k79) (by kernel_rfl) ?_
                refine N_run 2 [(34, .int .u64 (ishr .u64 wv 8))] (fun w => by kernel_rfl) ?_
                refine N_call (some 35) 27 #[.int .u64 (ishr .u64 wv 8)] (fun w => by kernel_rfl) h ?_
                rintro v_3 H3 ⟨x_2, rfl, h⟩
                refine ⟨[(35, .bool x_2)], ps (by kernel_rfl), ?_⟩
                refine N_run 1 [(2, .bool x_2)] (fun w => by kernel_rfl) ?_
                refine N_end (by kernel_rfl) ?_
                refine S_then ?_
                refine S_ret (by kernel_rfl) ?_
                show At _ _ _ _ (Q .ret)
                exact S_done (fn := Try.f18) [.bool x_2] hQ (show ResOK _ _ _ [.tmp 2] _ from .tmp (by kernel_rfl) (.nil)) h
              · rw [if_neg c13] at h
                have b14 : (ra == 7) = false := beq_eq_false_iff_ne.mpr c13
                refine S_env [(0, .int .u64 wv), (32, .bool false)] (by simp only [b14, Bool.not_true, Bool.not_false]) ?_
                clear b14
                refine S_condF (.tmp 32) word_May.k77 word_May.k78 (by kernel_rfl) (by kernel_rfl) ?_
                refine S_skip (by kernel_rfl) ?_
                refine S_then ?_
                refine S_seq word_May.k81 word_May.k82 (by kernel_rfl) ?_
                refine S_region 14 (Code.ops word_May.k81) (by kernel_rfl) ?_
                refine N_run 4 [(2, .bool (decide ((ishr .u64 wv 3) ≤ 6)))] (fun w => by kernel_rfl) ?_
                refine N_end (by kernel_rfl) ?_
                refine S_then ?_
                refine S_ret (by kernel_rfl) ?_
                show At _ _ _ _ (Q .ret)
                exact S_done (fn := Try.f18) [.bool (decide ((ishr .u64 wv 3) ≤ 6))] hQ (show ResOK _ _ _ [.tmp 2] _ from .tmp (by kernel_rfl) (.nil)) h
            · rw [if_neg c11] at h
              have b12 : (x == 4) = false := beq_eq_false_iff_ne.mpr c11
              refine S_env [(0, .int .u64 wv), (3, .int .i64 ra), (4, .int .i64 rb), (13, .int .i64 x), (24, .bool false)] (by simp only [b12, Bool.not_true, Bool.not_false]) ?_
              clear b12
              refine S_condF (.tmp 24) word_May.k69 word_May.k70 (by kernel_rfl) (by kernel_rfl) ?_
              refine S_skip (by kernel_rfl) ?_
              refine S_then ?_
              refine S_seq word_May.k83 word_May.k84 (by kernel_rfl) ?_
              refine S_region 9 (Code.ops word_May.k83) (by kernel_rfl) ?_
              refine N_run 2 [(3, .int .i64 ra), (4, .int .i64 rb), (26, .bool (x == 5))] (fun w => by kernel_rfl) ?_
              refine N_end (by kernel_rfl) ?_
              refine S_then ?_
              by_cases c15 : x = 5
              · rw [if_pos c15] at h
                have b16 : (x == 5) = true := beq_iff_eq.mpr c15
                refine S_env [(3, .int .i64 ra), (4, .int .i64 rb), (26, .bool true)] (by simp only [b16, Bool.not_true, Bool.not_false]) ?_
                clear b16
                refine S_condT (.tmp 26) word_May.k85 word_May.k86 (by kernel_rfl) (by kernel_rfl) ?_
                refine S_exit 7 (by kernel_rfl) ?_
                refine S_exitThen ?_
                refine S_exitPast (by kernel_rfl) ?_
                refine S_exitThen ?_
                refine S_exitPast (by kernel_rfl) ?_
                refine S_exitPast (by kernel_rfl) ?_
                refine S_exitPast (by kernel_rfl) ?_
                refine S_exitPast (by kernel_rfl) ?_
                refine S_exitThen ?_
                refine S_exitPast (by kernel_rfl) ?_
                refine S_exitThen ?_
                refine S_exitHere ?_
                refine S_then ?_
                refine S_seq word_May.k87 word_May.k88 (by kernel_rfl) ?_
                refine S_seq word_May.k89 word_May.k90 (by kernel_rfl) ?_
                refine S_region 15 (Code.ops word_May.k89) (by kernel_rfl) ?_
                refine N_cut [(2, .bool (((decide (ra ≥ 1)) && (decide (ra ≤ 13))) && (decide (rb ≤ 62))))] ?_ ?_
                · refine S_then ?_
                  refine S_ret (by kernel_rfl) ?_
                  show At _ _ _ _ (Q .ret)
                  exact S_done (fn := Try.f18) [.bool (((decide (ra ≥ 1)) && (decide (ra ≤ 13))) && (decide (rb ≤ 62)))] hQ (show ResOK _ _ _ [.tmp 2] _ from .tmp (by kernel_rfl) (.nil)) h
                · intro hk
                  refine N_run 3 [(3, .int .i64 ra), (4, .int .i64 rb), (41, .bool (decide (ra ≥ 1)))] (fun w => by kernel_rfl) ?_
                  by_cases c17 : ra ≥ 1
                  · have b18 : (decide (ra ≥ 1)) = true := decide_eq_true c17
                    refine N_env [(3, .int .i64 ra), (4, .int .i64 rb), (41, .bool true)] (by simp only [b18, Bool.not_true, Bool.not_false]) ?_
                    refine N_run 4 [(4, .int .i64 rb), (45, .bool (decide (ra ≤ 13)))] (fun w => by kernel_rfl) ?_
                    by_cases c19 : ra ≤ 13
                    · have b20 : (decide (ra ≤ 13)) = true := decide_eq_true c19
                      refine N_env [(4, .int .i64 rb), (45, .bool true)] (by simp only [b20, Bool.not_true, Bool.not_false]) ?_
                      refine N_run 4 [(2, .bool (decide (rb ≤ 62)))] (fun w => by kernel_rfl) ?_
                      refine N_end (by kernel_rfl) ?_
                      refine S_env [(2, .bool (((decide (ra ≥ 1)) && (decide (ra ≤ 13))) && (decide (rb ≤ 62))))] (by simp only [b18, b20, Bool.true_or, Bool.false_or, Bool.or_true, Bool.or_false, Bool.true_and, Bool.false_and, Bool.and_true, Bool.and_false, Bool.not_true, Bool.not_false, cond_true, cond_false]) ?_
                      exact hk
                    · have b20 : (decide (ra ≤ 13)) = false := decide_eq_false c19
                      refine N_env [(4, .int .i64 rb), (45, .bool false)] (by simp only [b20, Bool.not_true, Bool.not_false]) ?_
                      refine N_run 4 [(2, .bool false)] (fun w => by kernel_rfl) ?_
                      refine N_end (by kernel_rfl) ?_
                      refine S_env [(2, .bool (((decide (ra ≥ 1)) && (decide (ra ≤ 13))) && (decide (rb ≤ 62))))] (by simp only [b18, b20, Bool.true_or, Bool.false_or, Bool.or_true, Bool.or_false, Bool.true_and, Bool.false_and, Bool.and_true, Bool.and_false, Bool.not_true, Bool.not_false, cond_true, cond_false]) ?_
                      exact hk
                  · have b18 : (decide (ra ≥ 1)) = false := decide_eq_false c17
                    refine N_env [(3, .int .i64 ra), (4, .int .i64 rb), (41, .bool false)] (by simp only [b18, Bool.not_true, Bool.not_false]) ?_
                    refine N_run 8 [(2, .bool false)] (fun w => by kernel_rfl) ?_
                    refine N_end (by kernel_rfl) ?_
                    refine S_env [(2, .bool (((decide (ra ≥ 1)) && (decide (ra ≤ 13))) && (decide (rb ≤ 62))))] (by simp only [b18, Bool.true_or, Bool.false_or, Bool.or_true, Bool.or_false, Bool.true_and, Bool.false_and, Bool.and_true, Bool.and_false, Bool.not_true, Bool.not_false, cond_true, cond_false]) ?_
                    exact hk
              · rw [if_neg c15] at h
                have b16 : (x == 5) = false := beq_eq_false_iff_ne.mpr c15
                refine S_env [(3, .int .i64 ra), (4, .int .i64 rb), (26, .bool false)] (by simp only [b16, Bool.not_true, Bool.not_false]) ?_
                clear b16
                refine S_condF (.tmp 26) word_May.k85 word_May.k86 (by kernel_rfl) (by kernel_rfl) ?_
                refine S_skip (by kernel_rfl) ?_
                refine S_then ?_
                refine S_exit 0 (by kernel_rfl) ?_
                refine S_exitPast (by kernel_rfl) ?_
                refine S_exitThen ?_
                refine S_exitPast (by kernel_rfl) ?_
                refine S_exitPast (by kernel_rfl) ?_
                refine S_exitPast (by kernel_rfl) ?_
                refine S_exitPast (by kernel_rfl) ?_
                refine S_exitThen ?_
                refine S_exitPast (by kernel_rfl) ?_
                refine S_exitThen ?_
                refine S_exitPast (by kernel_rfl) ?_
                refine S_exitThen ?_
                refine S_exitHere ?_
                refine S_then ?_
                refine S_seq word_May.k91 word_May.k92 (by kernel_rfl) ?_
                refine S_region 16 (Code.ops word_May.k91) (by kernel_rfl) ?_
                refine N_run 1 [(2, .bool false)] (fun w => by kernel_rfl) ?_
                refine N_end (by kernel_rfl) ?_
                refine S_then ?_
                refine S_ret (by kernel_rfl) ?_
                show At _ _ _ _ (Q .ret)
                exact S_done (fn := Try.f18) [.bool false] hQ (show ResOK _ _ _ [.tmp 2] _ from .tmp (by kernel_rfl) (.nil)) h

end Go.Proofs.Ytgofbcapgikboaa
