/-
  Written by a program of mine (gen.py): for functions of this translation a predicate transformer over heaps (.pt), and the proof that it is sound for the call (.link).
-/
import Derived.Test.YtgofbcapgikboaaFnsC
set_option linter.unusedSimpArgs false
set_option linter.unusedVariables false
namespace Go.Proofs.Ytgofbcapgikboaa
open Go
/-! moraine/word.letter -/
noncomputable def word_letter.k0 : Code := Func.code Try.f27
noncomputable def word_letter.k1 : Code := Code.fa word_letter.k0
noncomputable def word_letter.k2 : Code := Code.fb word_letter.k0
noncomputable def word_letter.k3 : Code := Code.fa word_letter.k2
noncomputable def word_letter.k4 : Code := Code.fb word_letter.k2
def word_letter.pt (c : Int) (H : Array Obj) (R : Value → Array Obj → Prop) : Prop :=
 R (.bool ((decide (c ≤ 1114111)) && ((decide (c < 55296)) || (decide (c > 57343))))) H
set_option maxRecDepth 100000 in
theorem word_letter.link {c : Int} {H : Array Obj} {R : Value → Array Obj → Prop} (h : word_letter.pt c H R) : word_letter.C c H R := by
  refine S_enter (fn := Try.f27) (c := word_letter.k0) 13 Try.func27 (by kernel_rfl) (by kernel_rfl) (Nat.le_of_ble_eq_true (by kernel_rfl)) ?_
  intro w0 Q hQ
  unfold word_letter.pt at h
  refine S_sub [(0, .int .u64 c)] (sb (by kernel_rfl)) ?_
  refine S_seq word_letter.k1 word_letter.k2 (by kernel_rfl) ?_
  refine S_region 0 (Code.ops word_letter.k1) (by kernel_rfl) ?_
  refine N_run 1 [(0, .int .u64 c)] (fun w => by kernel_rfl) ?_
  refine N_end (by kernel_rfl) ?_
  refine S_then ?_
  refine S_seq word_letter.k3 word_letter.k4 (by kernel_rfl) ?_
  refine S_region 1 (Code.ops word_letter.k3) (by kernel_rfl) ?_
  refine N_cut [(2, .bool ((decide (c ≤ 1114111)) && ((decide (c < 55296)) || (decide (c > 57343)))))] ?_ ?_
  · refine S_then ?_
    refine S_ret (by kernel_rfl) ?_
    show At _ _ _ _ (Q .ret)
    exact S_done (fn := Try.f27) [.bool ((decide (c ≤ 1114111)) && ((decide (c < 55296)) || (decide (c > 57343))))] hQ (show ResOK _ _ _ [.tmp 2] _ from .tmp (by kernel_rfl) (.nil)) h
  · intro hk
    refine N_run 3 [(0, .int .u64 c), (5, .bool (decide (c ≤ 1114111)))] (fun w => by kernel_rfl) ?_
    by_cases c1 : c ≤ 1114111
    · have b2 : (decide (c ≤ 1114111)) = true := decide_eq_true c1
      refine N_env [(0, .int .u64 c), (5, .bool true)] (by simp only [b2, Bool.not_true, Bool.not_false]) ?_
      refine N_run 3 [(0, .int .u64 c), (5, .bool true), (8, .bool (decide (c < 55296)))] (fun w => by kernel_rfl) ?_
      by_cases c3 : c < 55296
      · have b4 : (decide (c < 55296)) = true := decide_eq_true c3
        refine N_env [(0, .int .u64 c), (5, .bool true), (8, .bool true)] (by simp only [b4, Bool.not_true, Bool.not_false]) ?_
        refine N_run 5 [(2, .bool true)] (fun w => by kernel_rfl) ?_
        refine N_end (by kernel_rfl) ?_
        refine S_env [(2, .bool ((decide (c ≤ 1114111)) && ((decide (c < 55296)) || (decide (c > 57343)))))] (by simp only [b2, b4, Bool.true_or, Bool.false_or, Bool.or_true, Bool.or_false, Bool.true_and, Bool.false_and, Bool.and_true, Bool.and_false, Bool.not_true, Bool.not_false, cond_true, cond_false]) ?_
        exact hk
      · have b4 : (decide (c < 55296)) = false := decide_eq_false c3
        refine N_env [(0, .int .u64 c), (5, .bool true), (8, .bool false)] (by simp only [b4, Bool.not_true, Bool.not_false]) ?_
        refine N_run 5 [(2, .bool (decide (c > 57343)))] (fun w => by kernel_rfl) ?_
        refine N_end (by kernel_rfl) ?_
        refine S_env [(2, .bool ((decide (c ≤ 1114111)) && ((decide (c < 55296)) || (decide (c > 57343)))))] (by simp only [b2, b4, Bool.true_or, Bool.false_or, Bool.or_true, Bool.or_false, Bool.true_and, Bool.false_and, Bool.and_true, Bool.and_false, Bool.not_true, Bool.not_false, cond_true, cond_false]) ?_
        exact hk
    · have b2 : (decide (c ≤ 1114111)) = false := decide_eq_false c1
      refine N_env [(0, .int .u64 c), (5, .bool false)] (by simp only [b2, Bool.not_true, Bool.not_false]) ?_
      refine N_run 8 [(2, .bool false)] (fun w => by kernel_rfl) ?_
      refine N_end (by kernel_rfl) ?_
      refine S_env [(2, .bool ((decide (c ≤ 1114111)) && ((decide (c < 55296)) || (decide (c > 57343)))))] (by simp only [b2, Bool.true_or, Bool.false_or, Bool.or_true, Bool.or_false, Bool.true_and, Bool.false_and, Bool.and_true, Bool.and_false, Bool.not_true, Bool.not_false, cond_true, cond_false]) ?_
      exact hk

/-! moraine/word.place -/
noncomputable def word_place.k0 : Code := Func.code Try.f28
noncomputable def word_place.k1 : Code := Code.fa word_place.k0
noncomputable def word_place.k2 : Code := Code.fb word_place.k0
noncomputable def word_place.k3 : Code := Code.fa word_place.k2
noncomputable def word_place.k4 : Code := Code.fb word_place.k2
def word_place.pt (tag : Int) (H : Array Obj) (R : Value → Array Obj → Prop) : Prop :=
 R (.bool (((decide (tag ≥ 1)) && (decide (tag ≤ 3))) || (tag == 6))) H
set_option maxRecDepth 100000 in
theorem word_place.link {tag : Int} {H : Array Obj} {R : Value → Array Obj → Prop} (h : word_place.pt tag H R) : word_place.C tag H R := by
  refine S_enter (fn := Try.f28) (c := word_place.k0) 13 Try.func28 (by kernel_rfl) (by kernel_rfl) (Nat.le_of_ble_eq_true (by kernel_rfl)) ?_
  intro w0 Q hQ
  unfold word_place.pt at h
  refine S_sub [(0, .int .i64 tag)] (sb (by kernel_rfl)) ?_
  refine S_seq word_place.k1 word_place.k2 (by kernel_rfl) ?_
  refine S_region 0 (Code.ops word_place.k1) (by kernel_rfl) ?_
  refine N_run 1 [(0, .int .i64 tag)] (fun w => by kernel_rfl) ?_
  refine N_end (by kernel_rfl) ?_
  refine S_then ?_
  refine S_seq word_place.k3 word_place.k4 (by kernel_rfl) ?_
  refine S_region 1 (Code.ops word_place.k3) (by kernel_rfl) ?_
  refine N_cut [(2, .bool (((decide (tag ≥ 1)) && (decide (tag ≤ 3))) || (tag == 6)))] ?_ ?_
  · refine S_then ?_
    refine S_ret (by kernel_rfl) ?_
    show At _ _ _ _ (Q .ret)
    exact S_done (fn := Try.f28) [.bool (((decide (tag ≥ 1)) && (decide (tag ≤ 3))) || (tag == 6))] hQ (show ResOK _ _ _ [.tmp 2] _ from .tmp (by kernel_rfl) (.nil)) h
  · intro hk
    refine N_run 3 [(0, .int .i64 tag), (5, .bool (decide (tag ≥ 1)))] (fun w => by kernel_rfl) ?_
    by_cases c1 : tag ≥ 1
    · have b2 : (decide (tag ≥ 1)) = true := decide_eq_true c1
      refine N_env [(0, .int .i64 tag), (5, .bool true)] (by simp only [b2, Bool.not_true, Bool.not_false]) ?_
      refine N_run 4 [(0, .int .i64 tag), (9, .bool (decide (tag ≤ 3)))] (fun w => by kernel_rfl) ?_
      by_cases c3 : tag ≤ 3
      · have b4 : (decide (tag ≤ 3)) = true := decide_eq_true c3
        refine N_env [(0, .int .i64 tag), (9, .bool true)] (by simp only [b4, Bool.not_true, Bool.not_false]) ?_
        refine N_run 4 [(2, .bool true)] (fun w => by kernel_rfl) ?_
        refine N_end (by kernel_rfl) ?_
        refine S_env [(2, .bool (((decide (tag ≥ 1)) && (decide (tag ≤ 3))) || (tag == 6)))] (by simp only [b2, b4, Bool.true_or, Bool.false_or, Bool.or_true, Bool.or_false, Bool.true_and, Bool.false_and, Bool.and_true, Bool.and_false, Bool.not_true, Bool.not_false, cond_true, cond_false]) ?_
        exact hk
      · have b4 : (decide (tag ≤ 3)) = false := decide_eq_false c3
        refine N_env [(0, .int .i64 tag), (9, .bool false)] (by simp only [b4, Bool.not_true, Bool.not_false]) ?_
        refine N_run 4 [(2, .bool (tag == 6))] (fun w => by kernel_rfl) ?_
        refine N_end (by kernel_rfl) ?_
        refine S_env [(2, .bool (((decide (tag ≥ 1)) && (decide (tag ≤ 3))) || (tag == 6)))] (by simp only [b2, b4, Bool.true_or, Bool.false_or, Bool.or_true, Bool.or_false, Bool.true_and, Bool.false_and, Bool.and_true, Bool.and_false, Bool.not_true, Bool.not_false, cond_true, cond_false]) ?_
        exact hk
    · have b2 : (decide (tag ≥ 1)) = false := decide_eq_false c1
      refine N_env [(0, .int .i64 tag), (5, .bool false)] (by simp only [b2, Bool.not_true, Bool.not_false]) ?_
      refine N_run 8 [(2, .bool (tag == 6))] (fun w => by kernel_rfl) ?_
      refine N_end (by kernel_rfl) ?_
      refine S_env [(2, .bool (((decide (tag ≥ 1)) && (decide (tag ≤ 3))) || (tag == 6)))] (by simp only [b2, Bool.true_or, Bool.false_or, Bool.or_true, Bool.or_false, Bool.true_and, Bool.false_and, Bool.and_true, Bool.and_false, Bool.not_true, Bool.not_false, cond_true, cond_false]) ?_
      exact hk

/-! moraine/word.parts -/
noncomputable def word_parts.k0 : Code := Func.code Try.f29
noncomputable def word_parts.k1 : Code := Code.fa word_parts.k0
noncomputable def word_parts.k2 : Code := Code.fb word_parts.k0
noncomputable def word_parts.k3 : Code := Code.fa word_parts.k2
noncomputable def word_parts.k4 : Code := Code.fb word_parts.k2
noncomputable def word_parts.k5 : Code := Code.fa word_parts.k4
noncomputable def word_parts.k6 : Code := Code.fb word_parts.k4
def word_parts.pt (wv : Int) (H : Array Obj) (R : Value → Array Obj → Prop) : Prop :=
 ∀ (b : Nat) (H1 : Array Obj), b = H.size → H1 = H.push (.cells #[.int .u64 wv] 23) →
 word_parts_1.C 3 5 (some (Addr.mk b 0 none)) H1 (fun v H2 => ∃ x : Int, v = .int .u64 x ∧ 
  word_parts_1.C 8 8 (some (Addr.mk b 0 none)) H2 (fun v_2 H3 => ∃ x_2 : Int, v_2 = .int .u64 x_2 ∧ 
   word_parts_1.C 16 48 (some (Addr.mk b 0 none)) H3 (fun v_3 H4 => ∃ x_3 : Int, v_3 = .int .u64 x_3 ∧ 
    R (.tuple #[.int .i64 (IntKind.wrap .i64 x), .int .i64 (IntKind.wrap .i64 x_2), .int .u64 x_3]) H4)))
set_option maxRecDepth 100000 in
theorem word_parts.link {wv : Int} {H : Array Obj} {R : Value → Array Obj → Prop} (h : word_parts.pt wv H R) : word_parts.C wv H R := by
  refine S_enter (fn := Try.f29) (c := word_parts.k0) 15 Try.func29 (by kernel_rfl) (by kernel_rfl) (Nat.le_of_ble_eq_true (by kernel_rfl)) ?_
  intro w0 Q hQ
  unfold word_parts.pt at h
  refine S_sub [(0, .int .u64 wv)] (sb (by kernel_rfl)) ?_
  refine S_seq word_parts.k1 word_parts.k2 (by kernel_rfl) ?_
  refine S_region 0 (Code.ops word_parts.k1) (by kernel_rfl) ?_
  refine N_new (some 1) (fun b => .pointer (some (Addr.mk b 0 none))) (.cells #[.int .u64 wv] 23) (fun w => by kernel_rfl) ?_
  intro b H1 e1 e2
  replace h := h b H1 e1 e2
  refine ⟨[(1, .pointer (some (Addr.mk b 0 none)))], ps (by kernel_rfl), ?_⟩
  refine N_run 3 [(1, .pointer (some (Addr.mk b 0 none)))] (fun w => by kernel_rfl) ?_
  refine N_end (by kernel_rfl) ?_
  refine S_then ?_
  refine S_seq word_parts.k3 word_parts.k4 (by kernel_rfl) ?_
  refine S_region 1 (Code.ops word_parts.k3) (by kernel_rfl) ?_
  refine N_run 2 [(5, .func (.func 30) #[] #[.pointer (some (Addr.mk b 0 none))])] (fun w => by kernel_rfl) ?_
  refine N_end (by kernel_rfl) ?_
  refine S_then ?_
  refine S_seq word_parts.k5 word_parts.k6 (by kernel_rfl) ?_
  refine S_region 2 (Code.ops word_parts.k5) (by kernel_rfl) ?_
  refine N_run 1 [(5, .func (.func 30) #[] #[.pointer (some (Addr.mk b 0 none))]), (7, .func (.func 30) #[] #[.pointer (some (Addr.mk b 0 none))])] (fun w => by kernel_rfl) ?_
  refine N_call (some 8) 30 #[.int .i64 3, .int .i64 5, .pointer (some (Addr.mk b 0 none))] (fun w => by kernel_rfl) h ?_
  rintro v H2 ⟨x, rfl, h⟩
  refine ⟨[(5, .func (.func 30) #[] #[.pointer (some (Addr.mk b 0 none))]), (8, .int .u64 x)], ps (by kernel_rfl), ?_⟩
  refine N_run 2 [(5, .func (.func 30) #[] #[.pointer (some (Addr.mk b 0 none))]), (9, .int .i64 (IntKind.wrap .i64 x)), (10, .func (.func 30) #[] #[.pointer (some (Addr.mk b 0 none))])] (fun w => by kernel_rfl) ?_
  refine N_call (some 11) 30 #[.int .i64 8, .int .i64 8, .pointer (some (Addr.mk b 0 none))] (fun w => by kernel_rfl) h ?_
  rintro v_2 H3 ⟨x_2, rfl, h⟩
  refine ⟨[(5, .func (.func 30) #[] #[.pointer (some (Addr.mk b 0 none))]), (9, .int .i64 (IntKind.wrap .i64 x)), (11, .int .u64 x_2)], ps (by kernel_rfl), ?_⟩
  refine N_run 2 [(9, .int .i64 (IntKind.wrap .i64 x)), (12, .int .i64 (IntKind.wrap .i64 x_2)), (13, .func (.func 30) #[] #[.pointer (some (Addr.mk b 0 none))])] (fun w => by kernel_rfl) ?_
  refine N_call (some 14) 30 #[.int .i64 16, .int .i64 48, .pointer (some (Addr.mk b 0 none))] (fun w => by kernel_rfl) h ?_
  rintro v_3 H4 ⟨x_3, rfl, h⟩
  refine ⟨[(9, .int .i64 (IntKind.wrap .i64 x)), (12, .int .i64 (IntKind.wrap .i64 x_2)), (14, .int .u64 x_3)], ps (by kernel_rfl), ?_⟩
  refine N_run 3 [(2, .int .i64 (IntKind.wrap .i64 x)), (3, .int .i64 (IntKind.wrap .i64 x_2)), (4, .int .u64 x_3)] (fun w => by kernel_rfl) ?_
  refine N_end (by kernel_rfl) ?_
  refine S_then ?_
  refine S_ret (by kernel_rfl) ?_
  show At _ _ _ _ (Q .ret)
  exact S_done (fn := Try.f29) [.int .i64 (IntKind.wrap .i64 x), .int .i64 (IntKind.wrap .i64 x_2), .int .u64 x_3] hQ (show ResOK _ _ _ [.tmp 2, .tmp 3, .tmp 4] _ from .tmp (by kernel_rfl) (.tmp (by kernel_rfl) (.tmp (by kernel_rfl) (.nil)))) h

/-! moraine/word.parts.1 -/
noncomputable def word_parts_1.k0 : Code := Func.code Try.f30
noncomputable def word_parts_1.k1 : Code := Code.fa word_parts_1.k0
noncomputable def word_parts_1.k2 : Code := Code.fb word_parts_1.k0
noncomputable def word_parts_1.k3 : Code := Code.fa word_parts_1.k2
noncomputable def word_parts_1.k4 : Code := Code.fb word_parts_1.k2
def word_parts_1.pt (fromv : Int) (bits : Int) (cap0 : Option Addr) (H : Array Obj) (R : Value → Array Obj → Prop) : Prop :=
 ∃ cap0A : Addr, cap0 = some cap0A ∧
 ∃ x : Int, hat H cap0A = some (.int .u64 x) ∧
 (0 ≤ fromv) ∧
 (0 ≤ bits) ∧
 R (.int .u64 (iand .u64 (ishr .u64 x fromv) (IntKind.wrap .u64 ((ishl .u64 1 bits) - 1)))) H
set_option maxRecDepth 100000 in
theorem word_parts_1.link {fromv : Int} {bits : Int} {cap0 : Option Addr} {H : Array Obj} {R : Value → Array Obj → Prop} (h : word_parts_1.pt fromv bits cap0 H R) : word_parts_1.C fromv bits cap0 H R := by
  refine S_enter (fn := Try.f30) (c := word_parts_1.k0) 13 Try.func30 (by kernel_rfl) (by kernel_rfl) (Nat.le_of_ble_eq_true (by kernel_rfl)) ?_
  intro w0 Q hQ
  unfold word_parts_1.pt at h
  refine S_sub [(0, .int .i64 fromv), (1, .int .i64 bits), (2, .pointer cap0)] (sb (by kernel_rfl)) ?_
  refine S_seq word_parts_1.k1 word_parts_1.k2 (by kernel_rfl) ?_
  refine S_region 0 (Code.ops word_parts_1.k1) (by kernel_rfl) ?_
  refine N_run 1 [(0, .int .i64 fromv), (1, .int .i64 bits), (2, .pointer cap0)] (fun w => by kernel_rfl) ?_
  refine N_end (by kernel_rfl) ?_
  refine S_then ?_
  refine S_seq word_parts_1.k3 word_parts_1.k4 (by kernel_rfl) ?_
  refine S_regionQ 1 (Code.ops word_parts_1.k3) (by kernel_rfl) (by kernel_rfl) (by kernel_rfl) ?_
  obtain ⟨cap0A, rfl, h⟩ := h
  obtain ⟨x, q1, h⟩ := h
  refine Q_op (some 6) (loadN 23 (.pointer (some cap0A))) (.int .u64 x) (fun w => by kernel_rfl) (loadN_run (loadOK_one (fun w => by kernel_rfl) q1)) [(0, .int .i64 fromv), (1, .int .i64 bits), (6, .int .u64 x)] (ps (by kernel_rfl)) ?_
  refine Q_one (.int .i64 fromv) [(1, .int .i64 bits), (6, .int .u64 x), (7, .int .i64 fromv)] (some 7) (by kernel_rfl) (fun w => by kernel_rfl) (ps (by kernel_rfl)) ?_
  obtain ⟨q2, h⟩ := h
  refine Q_op (some 8) (binN .shr 22 (.int .u64 x) (.int .i64 fromv)) (.int .u64 (ishr .u64 x fromv)) (fun w => by kernel_rfl) (fun w _ => shr_run (P := Try.prog) (t := 22) (k := .u64) (k' := .i64) (x := x) (y := fromv) q2 w) [(1, .int .i64 bits), (8, .int .u64 (ishr .u64 x fromv))] (ps (by kernel_rfl)) ?_
  refine Q_one (.int .i64 bits) [(8, .int .u64 (ishr .u64 x fromv)), (9, .int .i64 bits)] (some 9) (by kernel_rfl) (fun w => by kernel_rfl) (ps (by kernel_rfl)) ?_
  obtain ⟨q3, h⟩ := h
  refine Q_op (some 10) (binN .shl 22 (.int .u64 1) (.int .i64 bits)) (.int .u64 (ishl .u64 1 bits)) (fun w => by kernel_rfl) (fun w _ => shl_run (P := Try.prog) (t := 22) (k := .u64) (k' := .i64) (x := 1) (y := bits) q3 w) [(8, .int .u64 (ishr .u64 x fromv)), (10, .int .u64 (ishl .u64 1 bits))] (ps (by kernel_rfl)) ?_
  refine Q_one (.int .u64 (IntKind.wrap .u64 ((ishl .u64 1 bits) - 1))) [(8, .int .u64 (ishr .u64 x fromv)), (11, .int .u64 (IntKind.wrap .u64 ((ishl .u64 1 bits) - 1)))] (some 11) (by kernel_rfl) (fun w => by kernel_rfl) (ps (by kernel_rfl)) ?_
  refine Q_one (.int .u64 (iand .u64 (ishr .u64 x fromv) (IntKind.wrap .u64 ((ishl .u64 1 bits) - 1)))) [(12, .int .u64 (iand .u64 (ishr .u64 x fromv) (IntKind.wrap .u64 ((ishl .u64 1 bits) - 1))))] (some 12) (by kernel_rfl) (fun w => by kernel_rfl) (ps (by kernel_rfl)) ?_
  refine Q_one (.int .u64 (iand .u64 (ishr .u64 x fromv) (IntKind.wrap .u64 ((ishl .u64 1 bits) - 1)))) [(5, .int .u64 (iand .u64 (ishr .u64 x fromv) (IntKind.wrap .u64 ((ishl .u64 1 bits) - 1))))] (some 5) (by kernel_rfl) (fun w => by kernel_rfl) (ps (by kernel_rfl)) ?_
  refine Q_sub [(5, .int .u64 (iand .u64 (ishr .u64 x fromv) (IntKind.wrap .u64 ((ishl .u64 1 bits) - 1))))] (sb (by kernel_rfl)) ?_
  refine Q_end (by kernel_rfl) ?_
  refine S_then ?_
  refine S_ret (by kernel_rfl) ?_
  show At _ _ _ _ (Q .ret)
  exact S_done (fn := Try.f30) [.int .u64 (iand .u64 (ishr .u64 x fromv) (IntKind.wrap .u64 ((ishl .u64 1 bits) - 1)))] hQ (show ResOK _ _ _ [.tmp 5] _ from .tmp (by kernel_rfl) (.nil)) h

end Go.Proofs.Ytgofbcapgikboaa
