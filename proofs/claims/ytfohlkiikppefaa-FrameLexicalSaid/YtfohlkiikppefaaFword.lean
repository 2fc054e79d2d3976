/-
  Written by a program of mine (gen.py): for functions of this translation a predicate transformer over heaps (.pt), and the proof that it is sound for the call (.link).
-/
import Derived.Test.YtfohlkiikppefaaFnsC
set_option linter.unusedSimpArgs false
set_option linter.unusedVariables false
set_option maxHeartbeats 1000000
namespace Go.Proofs.Ytfohlkiikppefaa
open Go
/-! moraine/word.Int -/
noncomputable def word_Int.k0 : Code := Func.code Try.f55
noncomputable def word_Int.k1 : Code := Code.fa word_Int.k0
noncomputable def word_Int.k2 : Code := Code.fb word_Int.k0
noncomputable def word_Int.k3 : Code := Code.fa word_Int.k2
noncomputable def word_Int.k4 : Code := Code.fb word_Int.k2
noncomputable def word_Int.k5 : Code := Code.fa word_Int.k3
noncomputable def word_Int.k6 : Code := Code.fb word_Int.k3
noncomputable def word_Int.k7 : Code := Code.fa word_Int.k6
noncomputable def word_Int.k8 : Code := Code.fb word_Int.k6
noncomputable def word_Int.k9 : Code := Code.fa word_Int.k4
noncomputable def word_Int.k10 : Code := Code.fb word_Int.k4
noncomputable def word_Int.k11 : Code := Code.fa word_Int.k7
noncomputable def word_Int.k12 : Code := Code.fb word_Int.k7
def word_Int.pt (wv : Int) (H : Array Obj) (R : Value → Array Obj → Prop) : Prop :=
 word_Tag.C wv H (fun v H1 => ∃ x : Int, v = .int .i64 x ∧ 
  if x = 0 then (
   R (.tuple #[.int .i64 (ishr .i64 (IntKind.wrap .i64 wv) 3), .bool true]) H1)
  else
  R (.tuple #[.int .i64 0, .bool false]) H1)
set_option maxRecDepth 100000 in
theorem word_Int.link {wv : Int} {H : Array Obj} {R : Value → Array Obj → Prop} (h : word_Int.pt wv H R) : word_Int.C wv H R := by
  refine S_enter (fn := Try.f55) (c := word_Int.k0) 10 Try.func55 (by kernel_rfl) (by kernel_rfl) (Nat.le_of_ble_eq_true (by kernel_rfl)) ?_
  intro w0 Q hQ
  unfold word_Int.pt at h
  refine S_sub [(0, .int .u64 wv)] (sb (by kernel_rfl)) ?_
  refine S_seq word_Int.k1 word_Int.k2 (by kernel_rfl) ?_
  refine S_region 0 (Code.ops word_Int.k1) (by kernel_rfl) ?_
  refine N_run 2 [(0, .int .u64 wv)] (fun w => by kernel_rfl) ?_
  refine N_end (by kernel_rfl) ?_
  refine S_then ?_
  refine S_seq word_Int.k3 word_Int.k4 (by kernel_rfl) ?_
  refine S_seq word_Int.k5 word_Int.k6 (by kernel_rfl) ?_
  refine S_region 1 (Code.ops word_Int.k5) (by kernel_rfl) ?_
  refine N_run 1 [(0, .int .u64 wv), (4, .int .u64 wv)] (fun w => by kernel_rfl) ?_
  refine N_call (some 5) 83 #[.int .u64 wv] (fun w => by kernel_rfl) h ?_; clear h
  rintro v H1 ⟨x, rfl, h⟩
  refine ⟨[(0, .int .u64 wv), (5, .int .i64 x)], ps (by kernel_rfl), ?_⟩
  refine N_run 1 [(0, .int .u64 wv), (6, .bool (x != 0))] (fun w => by kernel_rfl) ?_
  refine N_end (by kernel_rfl) ?_
  refine S_then ?_
  by_cases c1 : x = 0
  · rw [if_pos c1] at h
    have b2 : (x != 0) = false := bne_eq_false_iff_eq.mpr c1
    refine S_env [(0, .int .u64 wv), (6, .bool false)] (by simp only [b2, Bool.not_true, Bool.not_false]) ?_
    clear b2
    refine S_condF (.tmp 6) word_Int.k7 word_Int.k8 (by kernel_rfl) (by kernel_rfl) ?_
    refine S_skip (by kernel_rfl) ?_
    refine S_then ?_
    refine S_seq word_Int.k9 word_Int.k10 (by kernel_rfl) ?_
    refine S_region 3 (Code.ops word_Int.k9) (by kernel_rfl) ?_
    refine N_run 5 [(2, .int .i64 (ishr .i64 (IntKind.wrap .i64 wv) 3)), (3, .bool true)] (fun w => by kernel_rfl) ?_
    refine N_end (by kernel_rfl) ?_
    refine S_then ?_
    refine S_ret (by kernel_rfl) ?_
    show At _ _ _ _ (Q .ret)
    exact S_done (fn := Try.f55) [.int .i64 (ishr .i64 (IntKind.wrap .i64 wv) 3), .bool true] hQ (show ResOK _ _ _ [.tmp 2, .tmp 3] _ from .tmp (by kernel_rfl) (.tmp (by kernel_rfl) (.nil))) h
  · rw [if_neg c1] at h
    have b2 : (x != 0) = true := bne_iff_ne.mpr c1
    refine S_env [(0, .int .u64 wv), (6, .bool true)] (by simp only [b2, Bool.not_true, Bool.not_false]) ?_
    clear b2
    refine S_condT (.tmp 6) word_Int.k7 word_Int.k8 (by kernel_rfl) (by kernel_rfl) ?_
    refine S_seq word_Int.k11 word_Int.k12 (by kernel_rfl) ?_
    refine S_region 2 (Code.ops word_Int.k11) (by kernel_rfl) ?_
    refine N_run 2 [(2, .int .i64 0), (3, .bool false)] (fun w => by kernel_rfl) ?_
    refine N_end (by kernel_rfl) ?_
    refine S_then ?_
    refine S_ret (by kernel_rfl) ?_
    show At _ _ _ _ (Q .ret)
    exact S_done (fn := Try.f55) [.int .i64 0, .bool false] hQ (show ResOK _ _ _ [.tmp 2, .tmp 3] _ from .tmp (by kernel_rfl) (.tmp (by kernel_rfl) (.nil))) h

/-! moraine/word.Fix -/
noncomputable def word_Fix.k0 : Code := Func.code Try.f57
noncomputable def word_Fix.k1 : Code := Code.fa word_Fix.k0
noncomputable def word_Fix.k2 : Code := Code.fb word_Fix.k0
noncomputable def word_Fix.k3 : Code := Code.fa word_Fix.k2
noncomputable def word_Fix.k4 : Code := Code.fb word_Fix.k2
noncomputable def word_Fix.k5 : Code := Code.fa word_Fix.k3
noncomputable def word_Fix.k6 : Code := Code.fb word_Fix.k3
noncomputable def word_Fix.k7 : Code := Code.fa word_Fix.k6
noncomputable def word_Fix.k8 : Code := Code.fb word_Fix.k6
noncomputable def word_Fix.k9 : Code := Code.fa word_Fix.k7
noncomputable def word_Fix.k10 : Code := Code.fb word_Fix.k7
noncomputable def word_Fix.k11 : Code := Code.fa word_Fix.k4
noncomputable def word_Fix.k12 : Code := Code.fb word_Fix.k4
def word_Fix.pt (x : Int) (H : Array Obj) (R : Value → Array Obj → Prop) : Prop :=
 if ((decide (x < (-1152921504606846976))) || (decide (x ≥ 1152921504606846976))) = true then (
  R (.tuple #[.int .u64 0, .int .i64 4]) H)
 else
 R (.tuple #[.int .u64 (IntKind.wrap .u64 (ishl .i64 x 3)), .int .i64 0]) H
set_option maxRecDepth 100000 in
theorem word_Fix.link {x : Int} {H : Array Obj} {R : Value → Array Obj → Prop} (h : word_Fix.pt x H R) : word_Fix.C x H R := by
  refine S_enter (fn := Try.f57) (c := word_Fix.k0) 13 Try.func57 (by kernel_rfl) (by kernel_rfl) (Nat.le_of_ble_eq_true (by kernel_rfl)) ?_
  intro w0 Q hQ
  unfold word_Fix.pt at h
  refine S_sub [(0, .int .i64 x)] (sb (by kernel_rfl)) ?_
  refine S_seq word_Fix.k1 word_Fix.k2 (by kernel_rfl) ?_
  refine S_region 0 (Code.ops word_Fix.k1) (by kernel_rfl) ?_
  refine N_run 2 [(0, .int .i64 x)] (fun w => by kernel_rfl) ?_
  refine N_end (by kernel_rfl) ?_
  refine S_then ?_
  refine S_seq word_Fix.k3 word_Fix.k4 (by kernel_rfl) ?_
  refine S_seq word_Fix.k5 word_Fix.k6 (by kernel_rfl) ?_
  refine S_region 1 (Code.ops word_Fix.k5) (by kernel_rfl) ?_
  refine N_cut [(0, .int .i64 x), (9, .bool ((decide (x < (-1152921504606846976))) || (decide (x ≥ 1152921504606846976))))] ?_ ?_
  · refine S_then ?_
    by_cases c3 : ((decide (x < (-1152921504606846976))) || (decide (x ≥ 1152921504606846976))) = true
    · rw [if_pos c3] at h
      have b4 : ((decide (x < (-1152921504606846976))) || (decide (x ≥ 1152921504606846976))) = true := c3
      refine S_env [(0, .int .i64 x), (9, .bool true)] (by simp only [b4, Bool.not_true, Bool.not_false]) ?_
      clear b4
      refine S_condT (.tmp 9) word_Fix.k7 word_Fix.k8 (by kernel_rfl) (by kernel_rfl) ?_
      refine S_seq word_Fix.k9 word_Fix.k10 (by kernel_rfl) ?_
      refine S_region 2 (Code.ops word_Fix.k9) (by kernel_rfl) ?_
      refine N_run 2 [(2, .int .u64 0), (3, .int .i64 4)] (fun w => by kernel_rfl) ?_
      refine N_end (by kernel_rfl) ?_
      refine S_then ?_
      refine S_ret (by kernel_rfl) ?_
      show At _ _ _ _ (Q .ret)
      exact S_done (fn := Try.f57) [.int .u64 0, .int .i64 4] hQ (show ResOK _ _ _ [.tmp 2, .tmp 3] _ from .tmp (by kernel_rfl) (.tmp (by kernel_rfl) (.nil))) h
    · rw [if_neg c3] at h
      have b4 : ((decide (x < (-1152921504606846976))) || (decide (x ≥ 1152921504606846976))) = false := eq_false_of_ne_true c3
      refine S_env [(0, .int .i64 x), (9, .bool false)] (by simp only [b4, Bool.not_true, Bool.not_false]) ?_
      clear b4
      refine S_condF (.tmp 9) word_Fix.k7 word_Fix.k8 (by kernel_rfl) (by kernel_rfl) ?_
      refine S_skip (by kernel_rfl) ?_
      refine S_then ?_
      refine S_seq word_Fix.k11 word_Fix.k12 (by kernel_rfl) ?_
      refine S_region 3 (Code.ops word_Fix.k11) (by kernel_rfl) ?_
      refine N_run 5 [(2, .int .u64 (IntKind.wrap .u64 (ishl .i64 x 3))), (3, .int .i64 0)] (fun w => by kernel_rfl) ?_
      refine N_end (by kernel_rfl) ?_
      refine S_then ?_
      refine S_ret (by kernel_rfl) ?_
      show At _ _ _ _ (Q .ret)
      exact S_done (fn := Try.f57) [.int .u64 (IntKind.wrap .u64 (ishl .i64 x 3)), .int .i64 0] hQ (show ResOK _ _ _ [.tmp 2, .tmp 3] _ from .tmp (by kernel_rfl) (.tmp (by kernel_rfl) (.nil))) h
  · intro hk
    refine N_run 3 [(0, .int .i64 x), (6, .bool (decide (x < (-1152921504606846976))))] (fun w => by kernel_rfl) ?_
    by_cases c1 : x < (-1152921504606846976)
    · have b2 : (decide (x < (-1152921504606846976))) = true := decide_eq_true c1
      refine N_env [(0, .int .i64 x), (6, .bool true)] (by simp only [b2, Bool.not_true, Bool.not_false]) ?_
      refine N_run 3 [(0, .int .i64 x), (9, .bool true)] (fun w => by kernel_rfl) ?_
      refine N_end (by kernel_rfl) ?_
      refine S_env [(0, .int .i64 x), (9, .bool ((decide (x < (-1152921504606846976))) || (decide (x ≥ 1152921504606846976))))] (by simp only [b2, Bool.true_or, Bool.false_or, Bool.or_true, Bool.or_false, Bool.true_and, Bool.false_and, Bool.and_true, Bool.and_false, Bool.not_true, Bool.not_false, cond_true, cond_false]) ?_
      exact hk
    · have b2 : (decide (x < (-1152921504606846976))) = false := decide_eq_false c1
      refine N_env [(0, .int .i64 x), (6, .bool false)] (by simp only [b2, Bool.not_true, Bool.not_false]) ?_
      refine N_run 3 [(0, .int .i64 x), (9, .bool (decide (x ≥ 1152921504606846976)))] (fun w => by kernel_rfl) ?_
      refine N_end (by kernel_rfl) ?_
      refine S_env [(0, .int .i64 x), (9, .bool ((decide (x < (-1152921504606846976))) || (decide (x ≥ 1152921504606846976))))] (by simp only [b2, Bool.true_or, Bool.false_or, Bool.or_true, Bool.or_false, Bool.true_and, Bool.false_and, Bool.and_true, Bool.and_false, Bool.not_true, Bool.not_false, cond_true, cond_false]) ?_
      exact hk

/-! moraine/word.Header -/
noncomputable def word_Header.k0 : Code := Func.code Try.f60
noncomputable def word_Header.k1 : Code := Code.fa word_Header.k0
noncomputable def word_Header.k2 : Code := Code.fb word_Header.k0
noncomputable def word_Header.k3 : Code := Code.fa word_Header.k2
noncomputable def word_Header.k4 : Code := Code.fb word_Header.k2
noncomputable def word_Header.k5 : Code := Code.fa word_Header.k3
noncomputable def word_Header.k6 : Code := Code.fb word_Header.k3
noncomputable def word_Header.k7 : Code := Code.fa word_Header.k6
noncomputable def word_Header.k8 : Code := Code.fb word_Header.k6
noncomputable def word_Header.k9 : Code := Code.fa word_Header.k7
noncomputable def word_Header.k10 : Code := Code.fb word_Header.k7
noncomputable def word_Header.k11 : Code := Code.fa word_Header.k4
noncomputable def word_Header.k12 : Code := Code.fb word_Header.k4
def word_Header.pt (kind : Int) (nv : Int) (more : Int) (H : Array Obj) (R : Value → Array Obj → Prop) : Prop :=
 if (((((decide (kind < 1)) || (decide (kind > 13))) || (decide (nv < 0))) || (decide (nv > 62))) || (decide (more ≥ 281474976710656))) = true then (
  R (.tuple #[.int .u64 0, .int .i64 1]) H)
 else
 R (.tuple #[.int .u64 (ior .u64 (ior .u64 (ior .u64 (ishl .u64 more 16) (ishl .u64 (IntKind.wrap .u64 nv) 8)) (ishl .u64 (IntKind.wrap .u64 kind) 3)) 5), .int .i64 0]) H
set_option maxRecDepth 100000 in
theorem word_Header.link {kind : Int} {nv : Int} {more : Int} {H : Array Obj} {R : Value → Array Obj → Prop} (h : word_Header.pt kind nv more H R) : word_Header.C kind nv more H R := by
  refine S_enter (fn := Try.f60) (c := word_Header.k0) 37 Try.func60 (by kernel_rfl) (by kernel_rfl) (Nat.le_of_ble_eq_true (by kernel_rfl)) ?_
  intro w0 Q hQ
  unfold word_Header.pt at h
  refine S_sub [(0, .int .i64 kind), (1, .int .i64 nv), (2, .int .u64 more)] (sb (by kernel_rfl)) ?_
  refine S_seq word_Header.k1 word_Header.k2 (by kernel_rfl) ?_
  refine S_region 0 (Code.ops word_Header.k1) (by kernel_rfl) ?_
  refine N_run 2 [(0, .int .i64 kind), (1, .int .i64 nv), (2, .int .u64 more)] (fun w => by kernel_rfl) ?_
  refine N_end (by kernel_rfl) ?_
  refine S_then ?_
  refine S_seq word_Header.k3 word_Header.k4 (by kernel_rfl) ?_
  refine S_seq word_Header.k5 word_Header.k6 (by kernel_rfl) ?_
  refine S_region 1 (Code.ops word_Header.k5) (by kernel_rfl) ?_
  refine N_cut [(0, .int .i64 kind), (1, .int .i64 nv), (2, .int .u64 more), (25, .bool (((((decide (kind < 1)) || (decide (kind > 13))) || (decide (nv < 0))) || (decide (nv > 62))) || (decide (more ≥ 281474976710656))))] ?_ ?_
  · refine S_then ?_
    by_cases c9 : (((((decide (kind < 1)) || (decide (kind > 13))) || (decide (nv < 0))) || (decide (nv > 62))) || (decide (more ≥ 281474976710656))) = true
    · rw [if_pos c9] at h
      have b10 : (((((decide (kind < 1)) || (decide (kind > 13))) || (decide (nv < 0))) || (decide (nv > 62))) || (decide (more ≥ 281474976710656))) = true := c9
      refine S_env [(0, .int .i64 kind), (1, .int .i64 nv), (2, .int .u64 more), (25, .bool true)] (by simp only [b10, Bool.not_true, Bool.not_false]) ?_
      clear b10
      refine S_condT (.tmp 25) word_Header.k7 word_Header.k8 (by kernel_rfl) (by kernel_rfl) ?_
      refine S_seq word_Header.k9 word_Header.k10 (by kernel_rfl) ?_
      refine S_region 2 (Code.ops word_Header.k9) (by kernel_rfl) ?_
      refine N_run 2 [(6, .int .u64 0), (7, .int .i64 1)] (fun w => by kernel_rfl) ?_
      refine N_end (by kernel_rfl) ?_
      refine S_then ?_
      refine S_ret (by kernel_rfl) ?_
      show At _ _ _ _ (Q .ret)
      exact S_done (fn := Try.f60) [.int .u64 0, .int .i64 1] hQ (show ResOK _ _ _ [.tmp 6, .tmp 7] _ from .tmp (by kernel_rfl) (.tmp (by kernel_rfl) (.nil))) h
    · rw [if_neg c9] at h
      have b10 : (((((decide (kind < 1)) || (decide (kind > 13))) || (decide (nv < 0))) || (decide (nv > 62))) || (decide (more ≥ 281474976710656))) = false := eq_false_of_ne_true c9
      refine S_env [(0, .int .i64 kind), (1, .int .i64 nv), (2, .int .u64 more), (25, .bool false)] (by simp only [b10, Bool.not_true, Bool.not_false]) ?_
      clear b10
      refine S_condF (.tmp 25) word_Header.k7 word_Header.k8 (by kernel_rfl) (by kernel_rfl) ?_
      refine S_skip (by kernel_rfl) ?_
      refine S_then ?_
      refine S_seq word_Header.k11 word_Header.k12 (by kernel_rfl) ?_
      refine S_region 3 (Code.ops word_Header.k11) (by kernel_rfl) ?_
      refine N_run 13 [(6, .int .u64 (ior .u64 (ior .u64 (ior .u64 (ishl .u64 more 16) (ishl .u64 (IntKind.wrap .u64 nv) 8)) (ishl .u64 (IntKind.wrap .u64 kind) 3)) 5)), (7, .int .i64 0)] (fun w => by kernel_rfl) ?_
      refine N_end (by kernel_rfl) ?_
      refine S_then ?_
      refine S_ret (by kernel_rfl) ?_
      show At _ _ _ _ (Q .ret)
      exact S_done (fn := Try.f60) [.int .u64 (ior .u64 (ior .u64 (ior .u64 (ishl .u64 more 16) (ishl .u64 (IntKind.wrap .u64 nv) 8)) (ishl .u64 (IntKind.wrap .u64 kind) 3)) 5), .int .i64 0] hQ (show ResOK _ _ _ [.tmp 6, .tmp 7] _ from .tmp (by kernel_rfl) (.tmp (by kernel_rfl) (.nil))) h
  · intro hk
    refine N_run 3 [(0, .int .i64 kind), (1, .int .i64 nv), (2, .int .u64 more), (10, .bool (decide (kind < 1)))] (fun w => by kernel_rfl) ?_
    by_cases c1 : kind < 1
    · have b2 : (decide (kind < 1)) = true := decide_eq_true c1
      refine N_env [(0, .int .i64 kind), (1, .int .i64 nv), (2, .int .u64 more), (10, .bool true)] (by simp only [b2, Bool.not_true, Bool.not_false]) ?_
      refine N_run 15 [(0, .int .i64 kind), (1, .int .i64 nv), (2, .int .u64 more), (25, .bool true)] (fun w => by kernel_rfl) ?_
      refine N_end (by kernel_rfl) ?_
      refine S_env [(0, .int .i64 kind), (1, .int .i64 nv), (2, .int .u64 more), (25, .bool (((((decide (kind < 1)) || (decide (kind > 13))) || (decide (nv < 0))) || (decide (nv > 62))) || (decide (more ≥ 281474976710656))))] (by simp only [b2, Bool.true_or, Bool.false_or, Bool.or_true, Bool.or_false, Bool.true_and, Bool.false_and, Bool.and_true, Bool.and_false, Bool.not_true, Bool.not_false, cond_true, cond_false]) ?_
      exact hk
    · have b2 : (decide (kind < 1)) = false := decide_eq_false c1
      refine N_env [(0, .int .i64 kind), (1, .int .i64 nv), (2, .int .u64 more), (10, .bool false)] (by simp only [b2, Bool.not_true, Bool.not_false]) ?_
      refine N_run 4 [(0, .int .i64 kind), (1, .int .i64 nv), (2, .int .u64 more), (14, .bool (decide (kind > 13)))] (fun w => by kernel_rfl) ?_
      by_cases c3 : kind > 13
      · have b4 : (decide (kind > 13)) = true := decide_eq_true c3
        refine N_env [(0, .int .i64 kind), (1, .int .i64 nv), (2, .int .u64 more), (14, .bool true)] (by simp only [b4, Bool.not_true, Bool.not_false]) ?_
        refine N_run 11 [(0, .int .i64 kind), (1, .int .i64 nv), (2, .int .u64 more), (25, .bool true)] (fun w => by kernel_rfl) ?_
        refine N_end (by kernel_rfl) ?_
        refine S_env [(0, .int .i64 kind), (1, .int .i64 nv), (2, .int .u64 more), (25, .bool (((((decide (kind < 1)) || (decide (kind > 13))) || (decide (nv < 0))) || (decide (nv > 62))) || (decide (more ≥ 281474976710656))))] (by simp only [b2, b4, Bool.true_or, Bool.false_or, Bool.or_true, Bool.or_false, Bool.true_and, Bool.false_and, Bool.and_true, Bool.and_false, Bool.not_true, Bool.not_false, cond_true, cond_false]) ?_
        exact hk
      · have b4 : (decide (kind > 13)) = false := decide_eq_false c3
        refine N_env [(0, .int .i64 kind), (1, .int .i64 nv), (2, .int .u64 more), (14, .bool false)] (by simp only [b4, Bool.not_true, Bool.not_false]) ?_
        refine N_run 4 [(0, .int .i64 kind), (1, .int .i64 nv), (2, .int .u64 more), (18, .bool (decide (nv < 0)))] (fun w => by kernel_rfl) ?_
        by_cases c5 : nv < 0
        · have b6 : (decide (nv < 0)) = true := decide_eq_true c5
          refine N_env [(0, .int .i64 kind), (1, .int .i64 nv), (2, .int .u64 more), (18, .bool true)] (by simp only [b6, Bool.not_true, Bool.not_false]) ?_
          refine N_run 7 [(0, .int .i64 kind), (1, .int .i64 nv), (2, .int .u64 more), (25, .bool true)] (fun w => by kernel_rfl) ?_
          refine N_end (by kernel_rfl) ?_
          refine S_env [(0, .int .i64 kind), (1, .int .i64 nv), (2, .int .u64 more), (25, .bool (((((decide (kind < 1)) || (decide (kind > 13))) || (decide (nv < 0))) || (decide (nv > 62))) || (decide (more ≥ 281474976710656))))] (by simp only [b2, b4, b6, Bool.true_or, Bool.false_or, Bool.or_true, Bool.or_false, Bool.true_and, Bool.false_and, Bool.and_true, Bool.and_false, Bool.not_true, Bool.not_false, cond_true, cond_false]) ?_
          exact hk
        · have b6 : (decide (nv < 0)) = false := decide_eq_false c5
          refine N_env [(0, .int .i64 kind), (1, .int .i64 nv), (2, .int .u64 more), (18, .bool false)] (by simp only [b6, Bool.not_true, Bool.not_false]) ?_
          refine N_run 4 [(0, .int .i64 kind), (1, .int .i64 nv), (2, .int .u64 more), (22, .bool (decide (nv > 62)))] (fun w => by kernel_rfl) ?_
          by_cases c7 : nv > 62
          · have b8 : (decide (nv > 62)) = true := decide_eq_true c7
            refine N_env [(0, .int .i64 kind), (1, .int .i64 nv), (2, .int .u64 more), (22, .bool true)] (by simp only [b8, Bool.not_true, Bool.not_false]) ?_
            refine N_run 3 [(0, .int .i64 kind), (1, .int .i64 nv), (2, .int .u64 more), (25, .bool true)] (fun w => by kernel_rfl) ?_
            refine N_end (by kernel_rfl) ?_
            refine S_env [(0, .int .i64 kind), (1, .int .i64 nv), (2, .int .u64 more), (25, .bool (((((decide (kind < 1)) || (decide (kind > 13))) || (decide (nv < 0))) || (decide (nv > 62))) || (decide (more ≥ 281474976710656))))] (by simp only [b2, b4, b6, b8, Bool.true_or, Bool.false_or, Bool.or_true, Bool.or_false, Bool.true_and, Bool.false_and, Bool.and_true, Bool.and_false, Bool.not_true, Bool.not_false, cond_true, cond_false]) ?_
            exact hk
          · have b8 : (decide (nv > 62)) = false := decide_eq_false c7
            refine N_env [(0, .int .i64 kind), (1, .int .i64 nv), (2, .int .u64 more), (22, .bool false)] (by simp only [b8, Bool.not_true, Bool.not_false]) ?_
            refine N_run 3 [(0, .int .i64 kind), (1, .int .i64 nv), (2, .int .u64 more), (25, .bool (decide (more ≥ 281474976710656)))] (fun w => by kernel_rfl) ?_
            refine N_end (by kernel_rfl) ?_
            refine S_env [(0, .int .i64 kind), (1, .int .i64 nv), (2, .int .u64 more), (25, .bool (((((decide (kind < 1)) || (decide (kind > 13))) || (decide (nv < 0))) || (decide (nv > 62))) || (decide (more ≥ 281474976710656))))] (by simp only [b2, b4, b6, b8, Bool.true_or, Bool.false_or, Bool.or_true, Bool.or_false, Bool.true_and, Bool.false_and, Bool.and_true, Bool.and_false, Bool.not_true, Bool.not_false, cond_true, cond_false]) ?_
            exact hk

/-! moraine/word.Addr -/
noncomputable def word_Addr.k0 : Code := Func.code Try.f81
noncomputable def word_Addr.k1 : Code := Code.fa word_Addr.k0
noncomputable def word_Addr.k2 : Code := Code.fb word_Addr.k0
noncomputable def word_Addr.k3 : Code := Code.fa word_Addr.k2
noncomputable def word_Addr.k4 : Code := Code.fb word_Addr.k2
noncomputable def word_Addr.k5 : Code := Code.fa word_Addr.k3
noncomputable def word_Addr.k6 : Code := Code.fb word_Addr.k3
noncomputable def word_Addr.k7 : Code := Code.fa word_Addr.k6
noncomputable def word_Addr.k8 : Code := Code.fb word_Addr.k6
noncomputable def word_Addr.k9 : Code := Code.fa word_Addr.k4
noncomputable def word_Addr.k10 : Code := Code.fb word_Addr.k4
noncomputable def word_Addr.k11 : Code := Code.fa word_Addr.k7
noncomputable def word_Addr.k12 : Code := Code.fb word_Addr.k7
def word_Addr.pt (wv : Int) (H : Array Obj) (R : Value → Array Obj → Prop) : Prop :=
 word_Tag.C wv H (fun v H1 => ∃ x : Int, v = .int .i64 x ∧ 
  word_place.C x H1 (fun v_2 H2 => ∃ x_2 : Bool, v_2 = .bool x_2 ∧ 
   if x_2 = true then (
    word_May.C wv H2 (fun v_3 H3 => ∃ x_3 : Bool, v_3 = .bool x_3 ∧ 
     if x_3 = true then (
      R (.tuple #[.int .i64 (IntKind.wrap .i64 (ishr .u64 wv 3)), .bool true]) H3)
     else
     R (.tuple #[.int .i64 0, .bool false]) H3))
   else
   R (.tuple #[.int .i64 0, .bool false]) H2))
set_option maxRecDepth 100000 in
theorem word_Addr.link {wv : Int} {H : Array Obj} {R : Value → Array Obj → Prop} (h : word_Addr.pt wv H R) : word_Addr.C wv H R := by
  refine S_enter (fn := Try.f81) (c := word_Addr.k0) 16 Try.func81 (by kernel_rfl) (by kernel_rfl) (Nat.le_of_ble_eq_true (by kernel_rfl)) ?_
  intro w0 Q hQ
  unfold word_Addr.pt at h
  refine S_sub [(0, .int .u64 wv)] (sb (by kernel_rfl)) ?_
  refine S_seq word_Addr.k1 word_Addr.k2 (by kernel_rfl) ?_
  refine S_region 0 (Code.ops word_Addr.k1) (by kernel_rfl) ?_
  refine N_run 2 [(0, .int .u64 wv)] (fun w => by kernel_rfl) ?_
  refine N_end (by kernel_rfl) ?_
  refine S_then ?_
  refine S_seq word_Addr.k3 word_Addr.k4 (by kernel_rfl) ?_
  refine S_seq word_Addr.k5 word_Addr.k6 (by kernel_rfl) ?_
  refine S_region 1 (Code.ops word_Addr.k5) (by kernel_rfl) ?_
  refine N_run 1 [(0, .int .u64 wv), (4, .int .u64 wv)] (fun w => by kernel_rfl) ?_
  refine N_call (some 5) 83 #[.int .u64 wv] (fun w => by kernel_rfl) h ?_; clear h
  rintro v H1 ⟨x, rfl, h⟩
  refine ⟨[(0, .int .u64 wv), (5, .int .i64 x)], ps (by kernel_rfl), ?_⟩
  refine N_call (some 6) 99 #[.int .i64 x] (fun w => by kernel_rfl) h ?_; clear h
  rintro v_2 H2 ⟨x_2, rfl, h⟩
  refine ⟨[(0, .int .u64 wv), (6, .bool x_2)], ps (by kernel_rfl), ?_⟩
  refine N_run 2 [(0, .int .u64 wv), (8, .bool (!x_2))] (fun w => by kernel_rfl) ?_
  by_cases c1 : x_2 = true
  · rw [if_pos c1] at h
    have b2 : (!x_2) = false := congrArg Bool.not (c1)
    have b22 : x_2 = true := c1
    refine N_env [(0, .int .u64 wv), (8, .bool false)] (by simp only [b2, b22, Bool.not_true, Bool.not_false]) ?_
    clear b2 b22
    refine N_run 1 [(0, .int .u64 wv), (8, .bool false), (9, .int .u64 wv)] (fun w => by kernel_rfl) ?_
    refine N_call (some 10) 100 #[.int .u64 wv] (fun w => by kernel_rfl) h ?_; clear h
    rintro v_3 H3 ⟨x_3, rfl, h⟩
    refine ⟨[(0, .int .u64 wv), (8, .bool false), (10, .bool x_3)], ps (by kernel_rfl), ?_⟩
    refine N_run 2 [(0, .int .u64 wv), (12, .bool (!x_3))] (fun w => by kernel_rfl) ?_
    refine N_end (by kernel_rfl) ?_
    refine S_then ?_
    by_cases c3 : x_3 = true
    · rw [if_pos c3] at h
      have b4 : (!x_3) = false := congrArg Bool.not (c3)
      have b42 : x_3 = true := c3
      refine S_env [(0, .int .u64 wv), (12, .bool false)] (by simp only [b4, b42, Bool.not_true, Bool.not_false]) ?_
      clear b4 b42
      refine S_condF (.tmp 12) word_Addr.k7 word_Addr.k8 (by kernel_rfl) (by kernel_rfl) ?_
      refine S_skip (by kernel_rfl) ?_
      refine S_then ?_
      refine S_seq word_Addr.k9 word_Addr.k10 (by kernel_rfl) ?_
      refine S_region 3 (Code.ops word_Addr.k9) (by kernel_rfl) ?_
      refine N_run 5 [(2, .int .i64 (IntKind.wrap .i64 (ishr .u64 wv 3))), (3, .bool true)] (fun w => by kernel_rfl) ?_
      refine N_end (by kernel_rfl) ?_
      refine S_then ?_
      refine S_ret (by kernel_rfl) ?_
      show At _ _ _ _ (Q .ret)
      exact S_done (fn := Try.f81) [.int .i64 (IntKind.wrap .i64 (ishr .u64 wv 3)), .bool true] hQ (show ResOK _ _ _ [.tmp 2, .tmp 3] _ from .tmp (by kernel_rfl) (.tmp (by kernel_rfl) (.nil))) h
    · rw [if_neg c3] at h
      have b4 : (!x_3) = true := congrArg Bool.not (eq_false_of_ne_true c3)
      have b42 : x_3 = false := eq_false_of_ne_true c3
      refine S_env [(0, .int .u64 wv), (12, .bool true)] (by simp only [b4, b42, Bool.not_true, Bool.not_false]) ?_
      clear b4 b42
      refine S_condT (.tmp 12) word_Addr.k7 word_Addr.k8 (by kernel_rfl) (by kernel_rfl) ?_
      refine S_seq word_Addr.k11 word_Addr.k12 (by kernel_rfl) ?_
      refine S_region 2 (Code.ops word_Addr.k11) (by kernel_rfl) ?_
      refine N_run 2 [(2, .int .i64 0), (3, .bool false)] (fun w => by kernel_rfl) ?_
      refine N_end (by kernel_rfl) ?_
      refine S_then ?_
      refine S_ret (by kernel_rfl) ?_
      show At _ _ _ _ (Q .ret)
      exact S_done (fn := Try.f81) [.int .i64 0, .bool false] hQ (show ResOK _ _ _ [.tmp 2, .tmp 3] _ from .tmp (by kernel_rfl) (.tmp (by kernel_rfl) (.nil))) h
  · rw [if_neg c1] at h
    have b2 : (!x_2) = true := congrArg Bool.not (eq_false_of_ne_true c1)
    have b22 : x_2 = false := eq_false_of_ne_true c1
    refine N_env [(0, .int .u64 wv), (8, .bool true)] (by simp only [b2, b22, Bool.not_true, Bool.not_false]) ?_
    clear b2 b22
    refine N_run 4 [(0, .int .u64 wv), (12, .bool true)] (fun w => by kernel_rfl) ?_
    refine N_end (by kernel_rfl) ?_
    refine S_then ?_
    refine S_condT (.tmp 12) word_Addr.k7 word_Addr.k8 (by kernel_rfl) (by kernel_rfl) ?_
    refine S_seq word_Addr.k11 word_Addr.k12 (by kernel_rfl) ?_
    refine S_region 2 (Code.ops word_Addr.k11) (by kernel_rfl) ?_
    refine N_run 2 [(2, .int .i64 0), (3, .bool false)] (fun w => by kernel_rfl) ?_
    refine N_end (by kernel_rfl) ?_
    refine S_then ?_
    refine S_ret (by kernel_rfl) ?_
    show At _ _ _ _ (Q .ret)
    exact S_done (fn := Try.f81) [.int .i64 0, .bool false] hQ (show ResOK _ _ _ [.tmp 2, .tmp 3] _ from .tmp (by kernel_rfl) (.tmp (by kernel_rfl) (.nil))) h

/-! moraine/word.Tag -/
noncomputable def word_Tag.k0 : Code := Func.code Try.f83
noncomputable def word_Tag.k1 : Code := Code.fa word_Tag.k0
noncomputable def word_Tag.k2 : Code := Code.fb word_Tag.k0
noncomputable def word_Tag.k3 : Code := Code.fa word_Tag.k2
noncomputable def word_Tag.k4 : Code := Code.fb word_Tag.k2
def word_Tag.pt (wv : Int) (H : Array Obj) (R : Value → Array Obj → Prop) : Prop :=
 R (.int .i64 (IntKind.wrap .i64 (iand .u64 wv 7))) H
set_option maxRecDepth 100000 in
theorem word_Tag.link {wv : Int} {H : Array Obj} {R : Value → Array Obj → Prop} (h : word_Tag.pt wv H R) : word_Tag.C wv H R := by
  refine S_enter (fn := Try.f83) (c := word_Tag.k0) 6 Try.func83 (by kernel_rfl) (by kernel_rfl) (Nat.le_of_ble_eq_true (by kernel_rfl)) ?_
  intro w0 Q hQ
  unfold word_Tag.pt at h
  refine S_sub [(0, .int .u64 wv)] (sb (by kernel_rfl)) ?_
  refine S_seq word_Tag.k1 word_Tag.k2 (by kernel_rfl) ?_
  refine S_region 0 (Code.ops word_Tag.k1) (by kernel_rfl) ?_
  refine N_run 1 [(0, .int .u64 wv)] (fun w => by kernel_rfl) ?_
  refine N_end (by kernel_rfl) ?_
  refine S_then ?_
  refine S_seq word_Tag.k3 word_Tag.k4 (by kernel_rfl) ?_
  refine S_region 1 (Code.ops word_Tag.k3) (by kernel_rfl) ?_
  refine N_run 4 [(2, .int .i64 (IntKind.wrap .i64 (iand .u64 wv 7)))] (fun w => by kernel_rfl) ?_
  refine N_end (by kernel_rfl) ?_
  refine S_then ?_
  refine S_ret (by kernel_rfl) ?_
  show At _ _ _ _ (Q .ret)
  exact S_done (fn := Try.f83) [.int .i64 (IntKind.wrap .i64 (iand .u64 wv 7))] hQ (show ResOK _ _ _ [.tmp 2] _ from .tmp (by kernel_rfl) (.nil)) h

/-! moraine/word.At -/
noncomputable def word_At.k0 : Code := Func.code Try.f90
noncomputable def word_At.k1 : Code := Code.fa word_At.k0
noncomputable def word_At.k2 : Code := Code.fb word_At.k0
noncomputable def word_At.k3 : Code := Code.fa word_At.k2
noncomputable def word_At.k4 : Code := Code.fb word_At.k2
noncomputable def word_At.k5 : Code := Code.fa word_At.k3
noncomputable def word_At.k6 : Code := Code.fa word_At.k5
noncomputable def word_At.k7 : Code := Code.fb word_At.k5
noncomputable def word_At.k8 : Code := Code.fa word_At.k7
noncomputable def word_At.k9 : Code := Code.fb word_At.k7
noncomputable def word_At.k10 : Code := Code.fa word_At.k9
noncomputable def word_At.k11 : Code := Code.fb word_At.k9
noncomputable def word_At.k12 : Code := Code.fa word_At.k11
noncomputable def word_At.k13 : Code := Code.fb word_At.k11
noncomputable def word_At.k14 : Code := Code.fa word_At.k12
noncomputable def word_At.k15 : Code := Code.fb word_At.k12
noncomputable def word_At.k16 : Code := Code.fa word_At.k4
noncomputable def word_At.k17 : Code := Code.fb word_At.k4
noncomputable def word_At.k18 : Code := Code.fa word_At.k8
noncomputable def word_At.k19 : Code := Code.fb word_At.k8
def word_At.pt (tag : Int) (addr : Int) (H : Array Obj) (R : Value → Array Obj → Prop) : Prop :=
 word_place.C tag H (fun v H1 => ∃ x : Bool, v = .bool x ∧ 
  if x = true then (
   if ((decide (addr < 0)) || (decide (addr ≥ 65536))) = true then (
    R (.tuple #[.int .u64 0, .int .i64 18]) H1)
   else
   R (.tuple #[.int .u64 (ior .u64 (ishl .u64 (IntKind.wrap .u64 addr) 3) (IntKind.wrap .u64 tag)), .int .i64 0]) H1)
  else
  R (.tuple #[.int .u64 0, .int .i64 1]) H1)
set_option maxRecDepth 100000 in
theorem word_At.link {tag : Int} {addr : Int} {H : Array Obj} {R : Value → Array Obj → Prop} (h : word_At.pt tag addr H R) : word_At.C tag addr H R := by
  refine S_enter (fn := Try.f90) (c := word_At.k0) 23 Try.func90 (by kernel_rfl) (by kernel_rfl) (Nat.le_of_ble_eq_true (by kernel_rfl)) ?_
  intro w0 Q hQ
  unfold word_At.pt at h
  refine S_sub [(0, .int .i64 tag), (1, .int .i64 addr)] (sb (by kernel_rfl)) ?_
  refine S_seq word_At.k1 word_At.k2 (by kernel_rfl) ?_
  refine S_region 0 (Code.ops word_At.k1) (by kernel_rfl) ?_
  refine N_run 2 [(0, .int .i64 tag), (1, .int .i64 addr)] (fun w => by kernel_rfl) ?_
  refine N_end (by kernel_rfl) ?_
  refine S_then ?_
  refine S_seq word_At.k3 word_At.k4 (by kernel_rfl) ?_
  refine S_block 0 word_At.k5 (by kernel_rfl) ?_
  refine S_seq word_At.k6 word_At.k7 (by kernel_rfl) ?_
  refine S_region 1 (Code.ops word_At.k6) (by kernel_rfl) ?_
  refine N_run 1 [(0, .int .i64 tag), (1, .int .i64 addr), (7, .int .i64 tag)] (fun w => by kernel_rfl) ?_
  refine N_call (some 8) 99 #[.int .i64 tag] (fun w => by kernel_rfl) h ?_; clear h
  rintro v H1 ⟨x, rfl, h⟩
  refine ⟨[(0, .int .i64 tag), (1, .int .i64 addr), (8, .bool x)], ps (by kernel_rfl), ?_⟩
  refine N_run 2 [(0, .int .i64 tag), (1, .int .i64 addr), (6, .bool (!x))] (fun w => by kernel_rfl) ?_
  refine N_end (by kernel_rfl) ?_
  refine S_then ?_
  by_cases c1 : x = true
  · rw [if_pos c1] at h
    have b2 : (!x) = false := congrArg Bool.not (c1)
    have b22 : x = true := c1
    refine S_env [(0, .int .i64 tag), (1, .int .i64 addr), (6, .bool false)] (by simp only [b2, b22, Bool.not_true, Bool.not_false]) ?_
    clear b2 b22
    refine S_condF (.tmp 6) word_At.k8 word_At.k9 (by kernel_rfl) (by kernel_rfl) ?_
    refine S_seq word_At.k10 word_At.k11 (by kernel_rfl) ?_
    refine S_region 3 (Code.ops word_At.k10) (by kernel_rfl) ?_
    refine N_cut [(0, .int .i64 tag), (1, .int .i64 addr), (10, .bool ((decide (addr < 0)) || (decide (addr ≥ 65536))))] ?_ ?_
    · refine S_then ?_
      by_cases c5 : ((decide (addr < 0)) || (decide (addr ≥ 65536))) = true
      · rw [if_pos c5] at h
        have b6 : ((decide (addr < 0)) || (decide (addr ≥ 65536))) = true := c5
        refine S_env [(0, .int .i64 tag), (1, .int .i64 addr), (10, .bool true)] (by simp only [b6, Bool.not_true, Bool.not_false]) ?_
        clear b6
        refine S_condT (.tmp 10) word_At.k12 word_At.k13 (by kernel_rfl) (by kernel_rfl) ?_
        refine S_seq word_At.k14 word_At.k15 (by kernel_rfl) ?_
        refine S_region 4 (Code.ops word_At.k14) (by kernel_rfl) ?_
        refine N_run 2 [(4, .int .u64 0), (5, .int .i64 18)] (fun w => by kernel_rfl) ?_
        refine N_end (by kernel_rfl) ?_
        refine S_then ?_
        refine S_ret (by kernel_rfl) ?_
        show At _ _ _ _ (Q .ret)
        exact S_done (fn := Try.f90) [.int .u64 0, .int .i64 18] hQ (show ResOK _ _ _ [.tmp 4, .tmp 5] _ from .tmp (by kernel_rfl) (.tmp (by kernel_rfl) (.nil))) h
      · rw [if_neg c5] at h
        have b6 : ((decide (addr < 0)) || (decide (addr ≥ 65536))) = false := eq_false_of_ne_true c5
        refine S_env [(0, .int .i64 tag), (1, .int .i64 addr), (10, .bool false)] (by simp only [b6, Bool.not_true, Bool.not_false]) ?_
        clear b6
        refine S_condF (.tmp 10) word_At.k12 word_At.k13 (by kernel_rfl) (by kernel_rfl) ?_
        refine S_skip (by kernel_rfl) ?_
        refine S_blockEnd ?_
        refine S_then ?_
        refine S_seq word_At.k16 word_At.k17 (by kernel_rfl) ?_
        refine S_region 5 (Code.ops word_At.k16) (by kernel_rfl) ?_
        refine N_run 8 [(4, .int .u64 (ior .u64 (ishl .u64 (IntKind.wrap .u64 addr) 3) (IntKind.wrap .u64 tag))), (5, .int .i64 0)] (fun w => by kernel_rfl) ?_
        refine N_end (by kernel_rfl) ?_
        refine S_then ?_
        refine S_ret (by kernel_rfl) ?_
        show At _ _ _ _ (Q .ret)
        exact S_done (fn := Try.f90) [.int .u64 (ior .u64 (ishl .u64 (IntKind.wrap .u64 addr) 3) (IntKind.wrap .u64 tag)), .int .i64 0] hQ (show ResOK _ _ _ [.tmp 4, .tmp 5] _ from .tmp (by kernel_rfl) (.tmp (by kernel_rfl) (.nil))) h
    · intro hk
      refine N_run 3 [(0, .int .i64 tag), (1, .int .i64 addr), (13, .bool (decide (addr < 0)))] (fun w => by kernel_rfl) ?_
      by_cases c3 : addr < 0
      · have b4 : (decide (addr < 0)) = true := decide_eq_true c3
        refine N_env [(0, .int .i64 tag), (1, .int .i64 addr), (13, .bool true)] (by simp only [b4, Bool.not_true, Bool.not_false]) ?_
        refine N_run 4 [(0, .int .i64 tag), (1, .int .i64 addr), (10, .bool true)] (fun w => by kernel_rfl) ?_
        refine N_end (by kernel_rfl) ?_
        refine S_env [(0, .int .i64 tag), (1, .int .i64 addr), (10, .bool ((decide (addr < 0)) || (decide (addr ≥ 65536))))] (by simp only [b4, Bool.true_or, Bool.false_or, Bool.or_true, Bool.or_false, Bool.true_and, Bool.false_and, Bool.and_true, Bool.and_false, Bool.not_true, Bool.not_false, cond_true, cond_false]) ?_
        exact hk
      · have b4 : (decide (addr < 0)) = false := decide_eq_false c3
        refine N_env [(0, .int .i64 tag), (1, .int .i64 addr), (13, .bool false)] (by simp only [b4, Bool.not_true, Bool.not_false]) ?_
        refine N_run 4 [(0, .int .i64 tag), (1, .int .i64 addr), (10, .bool (decide (addr ≥ 65536)))] (fun w => by kernel_rfl) ?_
        refine N_end (by kernel_rfl) ?_
        refine S_env [(0, .int .i64 tag), (1, .int .i64 addr), (10, .bool ((decide (addr < 0)) || (decide (addr ≥ 65536))))] (by simp only [b4, Bool.true_or, Bool.false_or, Bool.or_true, Bool.or_false, Bool.true_and, Bool.false_and, Bool.and_true, Bool.and_false, Bool.not_true, Bool.not_false, cond_true, cond_false]) ?_
        exact hk
  · rw [if_neg c1] at h
    have b2 : (!x) = true := congrArg Bool.not (eq_false_of_ne_true c1)
    have b22 : x = false := eq_false_of_ne_true c1
    refine S_env [(0, .int .i64 tag), (1, .int .i64 addr), (6, .bool true)] (by simp only [b2, b22, Bool.not_true, Bool.not_false]) ?_
    clear b2 b22
    refine S_condT (.tmp 6) word_At.k8 word_At.k9 (by kernel_rfl) (by kernel_rfl) ?_
    refine S_seq word_At.k18 word_At.k19 (by kernel_rfl) ?_
    refine S_region 2 (Code.ops word_At.k18) (by kernel_rfl) ?_
    refine N_run 2 [(4, .int .u64 0), (5, .int .i64 1)] (fun w => by kernel_rfl) ?_
    refine N_end (by kernel_rfl) ?_
    refine S_then ?_
    refine S_ret (by kernel_rfl) ?_
    show At _ _ _ _ (Q .ret)
    exact S_done (fn := Try.f90) [.int .u64 0, .int .i64 1] hQ (show ResOK _ _ _ [.tmp 4, .tmp 5] _ from .tmp (by kernel_rfl) (.tmp (by kernel_rfl) (.nil))) h

/-! moraine/word.Head -/
noncomputable def word_Head.k0 : Code := Func.code Try.f94
noncomputable def word_Head.k1 : Code := Code.fa word_Head.k0
noncomputable def word_Head.k2 : Code := Code.fb word_Head.k0
noncomputable def word_Head.k3 : Code := Code.fa word_Head.k2
noncomputable def word_Head.k4 : Code := Code.fb word_Head.k2
noncomputable def word_Head.k5 : Code := Code.fa word_Head.k3
noncomputable def word_Head.k6 : Code := Code.fb word_Head.k3
noncomputable def word_Head.k7 : Code := Code.fa word_Head.k6
noncomputable def word_Head.k8 : Code := Code.fb word_Head.k6
noncomputable def word_Head.k9 : Code := Code.fa word_Head.k4
noncomputable def word_Head.k10 : Code := Code.fb word_Head.k4
noncomputable def word_Head.k11 : Code := Code.fa word_Head.k10
noncomputable def word_Head.k12 : Code := Code.fb word_Head.k10
noncomputable def word_Head.k13 : Code := Code.fa word_Head.k7
noncomputable def word_Head.k14 : Code := Code.fb word_Head.k7
def word_Head.pt (wv : Int) (H : Array Obj) (R : Value → Array Obj → Prop) : Prop :=
 word_Tag.C wv H (fun v H1 => ∃ x : Int, v = .int .i64 x ∧ 
  if x = 5 then (
   word_May.C wv H1 (fun v_2 H2 => ∃ x_2 : Bool, v_2 = .bool x_2 ∧ 
    if x_2 = true then (
     word_parts.C wv H2 (fun v_3 H3 => ∃ ra : Int, ∃ rb : Int, ∃ rc : Int, v_3 = .tuple #[.int .i64 ra, .int .i64 rb, .int .u64 rc] ∧ 
      R (.tuple #[.int .i64 ra, .int .i64 rb, .int .u64 rc, .bool true]) H3))
    else
    R (.tuple #[.int .i64 0, .int .i64 0, .int .u64 0, .bool false]) H2))
  else
  R (.tuple #[.int .i64 0, .int .i64 0, .int .u64 0, .bool false]) H1)
set_option maxRecDepth 100000 in
theorem word_Head.link {wv : Int} {H : Array Obj} {R : Value → Array Obj → Prop} (h : word_Head.pt wv H R) : word_Head.C wv H R := by
  refine S_enter (fn := Try.f94) (c := word_Head.k0) 23 Try.func94 (by kernel_rfl) (by kernel_rfl) (Nat.le_of_ble_eq_true (by kernel_rfl)) ?_
  intro w0 Q hQ
  unfold word_Head.pt at h
  refine S_sub [(0, .int .u64 wv)] (sb (by kernel_rfl)) ?_
  refine S_seq word_Head.k1 word_Head.k2 (by kernel_rfl) ?_
  refine S_region 0 (Code.ops word_Head.k1) (by kernel_rfl) ?_
  refine N_run 4 [(0, .int .u64 wv)] (fun w => by kernel_rfl) ?_
  refine N_end (by kernel_rfl) ?_
  refine S_then ?_
  refine S_seq word_Head.k3 word_Head.k4 (by kernel_rfl) ?_
  refine S_seq word_Head.k5 word_Head.k6 (by kernel_rfl) ?_
  refine S_region 1 (Code.ops word_Head.k5) (by kernel_rfl) ?_
  refine N_run 1 [(0, .int .u64 wv), (6, .int .u64 wv)] (fun w => by kernel_rfl) ?_
  refine N_call (some 7) 83 #[.int .u64 wv] (fun w => by kernel_rfl) h ?_; clear h
  rintro v H1 ⟨x, rfl, h⟩
  refine ⟨[(0, .int .u64 wv), (7, .int .i64 x)], ps (by kernel_rfl), ?_⟩
  refine N_run 2 [(0, .int .u64 wv), (9, .bool (x != 5))] (fun w => by kernel_rfl) ?_
  by_cases c1 : x = 5
  · rw [if_pos c1] at h
    have b2 : (x != 5) = false := bne_eq_false_iff_eq.mpr c1
    refine N_env [(0, .int .u64 wv), (9, .bool false)] (by simp only [b2, Bool.not_true, Bool.not_false]) ?_
    clear b2
    refine N_run 1 [(0, .int .u64 wv), (9, .bool false), (10, .int .u64 wv)] (fun w => by kernel_rfl) ?_
    refine N_call (some 11) 100 #[.int .u64 wv] (fun w => by kernel_rfl) h ?_; clear h
    rintro v_2 H2 ⟨x_2, rfl, h⟩
    refine ⟨[(0, .int .u64 wv), (9, .bool false), (11, .bool x_2)], ps (by kernel_rfl), ?_⟩
    refine N_run 2 [(0, .int .u64 wv), (13, .bool (!x_2))] (fun w => by kernel_rfl) ?_
    refine N_end (by kernel_rfl) ?_
    refine S_then ?_
    by_cases c3 : x_2 = true
    · rw [if_pos c3] at h
      have b4 : (!x_2) = false := congrArg Bool.not (c3)
      have b42 : x_2 = true := c3
      refine S_env [(0, .int .u64 wv), (13, .bool false)] (by simp only [b4, b42, Bool.not_true, Bool.not_false]) ?_
      clear b4 b42
      refine S_condF (.tmp 13) word_Head.k7 word_Head.k8 (by kernel_rfl) (by kernel_rfl) ?_
      refine S_skip (by kernel_rfl) ?_
      refine S_then ?_
      refine S_seq word_Head.k9 word_Head.k10 (by kernel_rfl) ?_
      refine S_region 3 (Code.ops word_Head.k9) (by kernel_rfl) ?_
      refine N_run 1 [(15, .int .u64 wv)] (fun w => by kernel_rfl) ?_
      refine N_call (some 16) 111 #[.int .u64 wv] (fun w => by kernel_rfl) h ?_; clear h
      rintro v_3 H3 ⟨ra, rb, rc, rfl, h⟩
      refine ⟨[(16, .tuple #[.int .i64 ra, .int .i64 rb, .int .u64 rc])], ps (by kernel_rfl), ?_⟩
      refine N_run 7 [(2, .int .i64 ra), (3, .int .i64 rb), (4, .int .u64 rc)] (fun w => by kernel_rfl) ?_
      refine N_end (by kernel_rfl) ?_
      refine S_then ?_
      refine S_seq word_Head.k11 word_Head.k12 (by kernel_rfl) ?_
      refine S_region 4 (Code.ops word_Head.k11) (by kernel_rfl) ?_
      refine N_run 7 [(2, .int .i64 ra), (3, .int .i64 rb), (4, .int .u64 rc), (5, .bool true)] (fun w => by kernel_rfl) ?_
      refine N_end (by kernel_rfl) ?_
      refine S_then ?_
      refine S_ret (by kernel_rfl) ?_
      show At _ _ _ _ (Q .ret)
      exact S_done (fn := Try.f94) [.int .i64 ra, .int .i64 rb, .int .u64 rc, .bool true] hQ (show ResOK _ _ _ [.tmp 2, .tmp 3, .tmp 4, .tmp 5] _ from .tmp (by kernel_rfl) (.tmp (by kernel_rfl) (.tmp (by kernel_rfl) (.tmp (by kernel_rfl) (.nil))))) h
    · rw [if_neg c3] at h
      have b4 : (!x_2) = true := congrArg Bool.not (eq_false_of_ne_true c3)
      have b42 : x_2 = false := eq_false_of_ne_true c3
      refine S_env [(0, .int .u64 wv), (13, .bool true)] (by simp only [b4, b42, Bool.not_true, Bool.not_false]) ?_
      clear b4 b42
      refine S_condT (.tmp 13) word_Head.k7 word_Head.k8 (by kernel_rfl) (by kernel_rfl) ?_
      refine S_seq word_Head.k13 word_Head.k14 (by kernel_rfl) ?_
      refine S_region 2 (Code.ops word_Head.k13) (by kernel_rfl) ?_
      refine N_run 4 [(2, .int .i64 0), (3, .int .i64 0), (4, .int .u64 0), (5, .bool false)] (fun w => by kernel_rfl) ?_
      refine N_end (by kernel_rfl) ?_
      refine S_then ?_
      refine S_ret (by kernel_rfl) ?_
      show At _ _ _ _ (Q .ret)
      exact S_done (fn := Try.f94) [.int .i64 0, .int .i64 0, .int .u64 0, .bool false] hQ (show ResOK _ _ _ [.tmp 2, .tmp 3, .tmp 4, .tmp 5] _ from .tmp (by kernel_rfl) (.tmp (by kernel_rfl) (.tmp (by kernel_rfl) (.tmp (by kernel_rfl) (.nil))))) h
  · rw [if_neg c1] at h
    have b2 : (x != 5) = true := bne_iff_ne.mpr c1
    refine N_env [(0, .int .u64 wv), (9, .bool true)] (by simp only [b2, Bool.not_true, Bool.not_false]) ?_
    clear b2
    refine N_run 4 [(0, .int .u64 wv), (13, .bool true)] (fun w => by kernel_rfl) ?_
    refine N_end (by kernel_rfl) ?_
    refine S_then ?_
    refine S_condT (.tmp 13) word_Head.k7 word_Head.k8 (by kernel_rfl) (by kernel_rfl) ?_
    refine S_seq word_Head.k13 word_Head.k14 (by kernel_rfl) ?_
    refine S_region 2 (Code.ops word_Head.k13) (by kernel_rfl) ?_
    refine N_run 4 [(2, .int .i64 0), (3, .int .i64 0), (4, .int .u64 0), (5, .bool false)] (fun w => by kernel_rfl) ?_
    refine N_end (by kernel_rfl) ?_
    refine S_then ?_
    refine S_ret (by kernel_rfl) ?_
    show At _ _ _ _ (Q .ret)
    exact S_done (fn := Try.f94) [.int .i64 0, .int .i64 0, .int .u64 0, .bool false] hQ (show ResOK _ _ _ [.tmp 2, .tmp 3, .tmp 4, .tmp 5] _ from .tmp (by kernel_rfl) (.tmp (by kernel_rfl) (.tmp (by kernel_rfl) (.tmp (by kernel_rfl) (.nil))))) h

/-! moraine/word.place -/
noncomputable def word_place.k0 : Code := Func.code Try.f99
noncomputable def word_place.k1 : Code := Code.fa word_place.k0
noncomputable def word_place.k2 : Code := Code.fb word_place.k0
noncomputable def word_place.k3 : Code := Code.fa word_place.k2
noncomputable def word_place.k4 : Code := Code.fb word_place.k2
def word_place.pt (tag : Int) (H : Array Obj) (R : Value → Array Obj → Prop) : Prop :=
 R (.bool (((decide (tag ≥ 1)) && (decide (tag ≤ 3))) || (tag == 6))) H
set_option maxRecDepth 100000 in
theorem word_place.link {tag : Int} {H : Array Obj} {R : Value → Array Obj → Prop} (h : word_place.pt tag H R) : word_place.C tag H R := by
  refine S_enter (fn := Try.f99) (c := word_place.k0) 13 Try.func99 (by kernel_rfl) (by kernel_rfl) (Nat.le_of_ble_eq_true (by kernel_rfl)) ?_
  intro w0 Q hQ
  unfold word_place.pt at h
  refine S_sub [(0, .int .i64 tag)] (sb (by kernel_rfl)) ?_
  refine S_seq word_place.k1 word_place.k2 (by kernel_rfl) ?_
  refine S_region 0 (Code.ops word_place.k1) (by kernel_rfl) ?_
  refine N_run 1 [(0, .int .i64 tag)] (fun w => by kernel_rfl) ?_
  refine N_end (by kernel_rfl) ?_
  refine S_then ?_
  refine S_seq word_place.k3 word_place.k4 (by kernel_rfl) ?_
  refine S_region 1 (Code.ops word_place.k3) (by kernel_rfl) ?_
  refine N_cut [(2, .bool (((decide (tag ≥ 1)) && (decide (tag ≤ 3))) || (tag == 6)))] ?_ ?_
  · refine S_then ?_
    refine S_ret (by kernel_rfl) ?_
    show At _ _ _ _ (Q .ret)
    exact S_done (fn := Try.f99) [.bool (((decide (tag ≥ 1)) && (decide (tag ≤ 3))) || (tag == 6))] hQ (show ResOK _ _ _ [.tmp 2] _ from .tmp (by kernel_rfl) (.nil)) h
  · intro hk
    refine N_run 3 [(0, .int .i64 tag), (5, .bool (decide (tag ≥ 1)))] (fun w => by kernel_rfl) ?_
    by_cases c1 : tag ≥ 1
    · have b2 : (decide (tag ≥ 1)) = true := decide_eq_true c1
      refine N_env [(0, .int .i64 tag), (5, .bool true)] (by simp only [b2, Bool.not_true, Bool.not_false]) ?_
      refine N_run 4 [(0, .int .i64 tag), (9, .bool (decide (tag ≤ 3)))] (fun w => by kernel_rfl) ?_
      by_cases c3 : tag ≤ 3
      · have b4 : (decide (tag ≤ 3)) = true := decide_eq_true c3
        refine N_env [(0, .int .i64 tag), (9, .bool true)] (by simp only [b4, Bool.not_true, Bool.not_false]) ?_
        refine N_run 4 [(2, .bool true)] (fun w => by kernel_rfl) ?_
        refine N_end (by kernel_rfl) ?_
        refine S_env [(2, .bool (((decide (tag ≥ 1)) && (decide (tag ≤ 3))) || (tag == 6)))] (by simp only [b2, b4, Bool.true_or, Bool.false_or, Bool.or_true, Bool.or_false, Bool.true_and, Bool.false_and, Bool.and_true, Bool.and_false, Bool.not_true, Bool.not_false, cond_true, cond_false]) ?_
        exact hk
      · have b4 : (decide (tag ≤ 3)) = false := decide_eq_false c3
        refine N_env [(0, .int .i64 tag), (9, .bool false)] (by simp only [b4, Bool.not_true, Bool.not_false]) ?_
        refine N_run 4 [(2, .bool (tag == 6))] (fun w => by kernel_rfl) ?_
        refine N_end (by kernel_rfl) ?_
        refine S_env [(2, .bool (((decide (tag ≥ 1)) && (decide (tag ≤ 3))) || (tag == 6)))] (by simp only [b2, b4, Bool.true_or, Bool.false_or, Bool.or_true, Bool.or_false, Bool.true_and, Bool.false_and, Bool.and_true, Bool.and_false, Bool.not_true, Bool.not_false, cond_true, cond_false]) ?_
        exact hk
    · have b2 : (decide (tag ≥ 1)) = false := decide_eq_false c1
      refine N_env [(0, .int .i64 tag), (5, .bool false)] (by simp only [b2, Bool.not_true, Bool.not_false]) ?_
      refine N_run 8 [(2, .bool (tag == 6))] (fun w => by kernel_rfl) ?_
      refine N_end (by kernel_rfl) ?_
      refine S_env [(2, .bool (((decide (tag ≥ 1)) && (decide (tag ≤ 3))) || (tag == 6)))] (by simp only [b2, Bool.true_or, Bool.false_or, Bool.or_true, Bool.or_false, Bool.true_and, Bool.false_and, Bool.and_true, Bool.and_false, Bool.not_true, Bool.not_false, cond_true, cond_false]) ?_
      exact hk

/-! moraine/word.May -/
noncomputable def word_May.k0 : Code := Func.code Try.f100
noncomputable def word_May.k1 : Code := Code.fa word_May.k0
noncomputable def word_May.k2 : Code := Code.fb word_May.k0
noncomputable def word_May.k3 : Code := Code.fa word_May.k2
noncomputable def word_May.k4 : Code := Code.fb word_May.k2
noncomputable def word_May.k5 : Code := Code.fa word_May.k4
noncomputable def word_May.k6 : Code := Code.fb word_May.k4
noncomputable def word_May.k7 : Code := Code.fa word_May.k5
noncomputable def word_May.k8 : Code := Code.fb word_May.k5
noncomputable def word_May.k9 : Code := Code.fa word_May.k8
noncomputable def word_May.k10 : Code := Code.fa word_May.k9
noncomputable def word_May.k11 : Code := Code.fb word_May.k9
noncomputable def word_May.k12 : Code := Code.fa word_May.k10
noncomputable def word_May.k13 : Code := Code.fa word_May.k12
noncomputable def word_May.k14 : Code := Code.fb word_May.k12
noncomputable def word_May.k15 : Code := Code.fa word_May.k13
noncomputable def word_May.k16 : Code := Code.fa word_May.k15
noncomputable def word_May.k17 : Code := Code.fb word_May.k15
noncomputable def word_May.k18 : Code := Code.fa word_May.k16
noncomputable def word_May.k19 : Code := Code.fa word_May.k18
noncomputable def word_May.k20 : Code := Code.fa word_May.k19
noncomputable def word_May.k21 : Code := Code.fa word_May.k20
noncomputable def word_May.k22 : Code := Code.fa word_May.k21
noncomputable def word_May.k23 : Code := Code.fb word_May.k21
noncomputable def word_May.k24 : Code := Code.fa word_May.k22
noncomputable def word_May.k25 : Code := Code.fa word_May.k24
noncomputable def word_May.k26 : Code := Code.fb word_May.k24
noncomputable def word_May.k27 : Code := Code.fa word_May.k25
noncomputable def word_May.k28 : Code := Code.fb word_May.k25
noncomputable def word_May.k29 : Code := Code.fa word_May.k27
noncomputable def word_May.k30 : Code := Code.fb word_May.k27
noncomputable def word_May.k31 : Code := Code.fa word_May.k30
noncomputable def word_May.k32 : Code := Code.fb word_May.k30
noncomputable def word_May.k33 : Code := Code.fa word_May.k23
noncomputable def word_May.k34 : Code := Code.fb word_May.k23
noncomputable def word_May.k35 : Code := Code.fa word_May.k33
noncomputable def word_May.k36 : Code := Code.fb word_May.k33
noncomputable def word_May.k37 : Code := Code.fa word_May.k28
noncomputable def word_May.k38 : Code := Code.fb word_May.k28
noncomputable def word_May.k39 : Code := Code.fa word_May.k37
noncomputable def word_May.k40 : Code := Code.fb word_May.k37
noncomputable def word_May.k41 : Code := Code.fa word_May.k40
noncomputable def word_May.k42 : Code := Code.fb word_May.k40
noncomputable def word_May.k43 : Code := Code.fa word_May.k17
noncomputable def word_May.k44 : Code := Code.fb word_May.k17
noncomputable def word_May.k45 : Code := Code.fa word_May.k43
noncomputable def word_May.k46 : Code := Code.fb word_May.k43
noncomputable def word_May.k47 : Code := Code.fa word_May.k38
noncomputable def word_May.k48 : Code := Code.fb word_May.k38
noncomputable def word_May.k49 : Code := Code.fa word_May.k47
noncomputable def word_May.k50 : Code := Code.fb word_May.k47
noncomputable def word_May.k51 : Code := Code.fa word_May.k50
noncomputable def word_May.k52 : Code := Code.fb word_May.k50
noncomputable def word_May.k53 : Code := Code.fa word_May.k48
noncomputable def word_May.k54 : Code := Code.fb word_May.k48
noncomputable def word_May.k55 : Code := Code.fa word_May.k53
noncomputable def word_May.k56 : Code := Code.fb word_May.k53
noncomputable def word_May.k57 : Code := Code.fa word_May.k56
noncomputable def word_May.k58 : Code := Code.fb word_May.k56
noncomputable def word_May.k59 : Code := Code.fa word_May.k54
noncomputable def word_May.k60 : Code := Code.fb word_May.k54
noncomputable def word_May.k61 : Code := Code.fa word_May.k59
noncomputable def word_May.k62 : Code := Code.fb word_May.k59
noncomputable def word_May.k63 : Code := Code.fa word_May.k62
noncomputable def word_May.k64 : Code := Code.fb word_May.k62
noncomputable def word_May.k65 : Code := Code.fa word_May.k60
noncomputable def word_May.k66 : Code := Code.fb word_May.k60
noncomputable def word_May.k67 : Code := Code.fa word_May.k65
noncomputable def word_May.k68 : Code := Code.fb word_May.k65
noncomputable def word_May.k69 : Code := Code.fa word_May.k68
noncomputable def word_May.k70 : Code := Code.fb word_May.k68
noncomputable def word_May.k71 : Code := Code.fa word_May.k14
noncomputable def word_May.k72 : Code := Code.fb word_May.k14
noncomputable def word_May.k73 : Code := Code.fa word_May.k71
noncomputable def word_May.k74 : Code := Code.fb word_May.k71
noncomputable def word_May.k75 : Code := Code.fa word_May.k73
noncomputable def word_May.k76 : Code := Code.fb word_May.k73
noncomputable def word_May.k77 : Code := Code.fa word_May.k76
noncomputable def word_May.k78 : Code := Code.fb word_May.k76
noncomputable def word_May.k79 : Code := Code.fa word_May.k77
noncomputable def word_May.k80 : Code := Code.fb word_May.k77
noncomputable def word_May.k81 : Code := Code.fa word_May.k74
noncomputable def word_May.k82 : Code := Code.fb word_May.k74
noncomputable def word_May.k83 : Code := Code.fa word_May.k66
noncomputable def word_May.k84 : Code := Code.fb word_May.k66
noncomputable def word_May.k85 : Code := Code.fa word_May.k84
noncomputable def word_May.k86 : Code := Code.fb word_May.k84
noncomputable def word_May.k87 : Code := Code.fa word_May.k11
noncomputable def word_May.k88 : Code := Code.fb word_May.k11
noncomputable def word_May.k89 : Code := Code.fa word_May.k87
noncomputable def word_May.k90 : Code := Code.fb word_May.k87
noncomputable def word_May.k91 : Code := Code.fa word_May.k6
noncomputable def word_May.k92 : Code := Code.fb word_May.k6
def word_May.pt (wv : Int) (H : Array Obj) (R : Value → Array Obj → Prop) : Prop :=
 word_parts.C wv H (fun v H1 => ∃ ra : Int, ∃ rb : Int, ∃ rc : Int, v = .tuple #[.int .i64 ra, .int .i64 rb, .int .u64 rc] ∧ 
  word_Tag.C wv H1 (fun v_2 H2 => ∃ x : Int, v_2 = .int .i64 x ∧ 
   if x = 0 then (
    R (.bool true) H2)
   else
   if x = 1 then (
    R (.bool (decide ((ishr .u64 wv 3) < 65536))) H2)
   else
   if x = 2 then (
    R (.bool (decide ((ishr .u64 wv 3) < 65536))) H2)
   else
   if x = 3 then (
    R (.bool (decide ((ishr .u64 wv 3) < 65536))) H2)
   else
   if x = 6 then (
    R (.bool (decide ((ishr .u64 wv 3) < 65536))) H2)
   else
   if x = 4 then (
    if ra = 7 then (
     word_letter.C (ishr .u64 wv 8) H2 (fun v_3 H3 => ∃ x_2 : Bool, v_3 = .bool x_2 ∧ 
      R (.bool x_2) H3))
    else
    R (.bool (decide ((ishr .u64 wv 3) ≤ 6))) H2)
   else
   if x = 5 then (
    R (.bool (((decide (ra ≥ 1)) && (decide (ra ≤ 13))) && (decide (rb ≤ 62)))) H2)
   else
   R (.bool false) H2))
set_option maxRecDepth 100000 in
theorem word_May.link {wv : Int} {H : Array Obj} {R : Value → Array Obj → Prop} (h : word_May.pt wv H R) : word_May.C wv H R := by
  refine S_enter (fn := Try.f100) (c := word_May.k0) 49 Try.func100 (by kernel_rfl) (by kernel_rfl) (Nat.le_of_ble_eq_true (by kernel_rfl)) ?_
  intro w0 Q hQ
  unfold word_May.pt at h
  refine S_sub [(0, .int .u64 wv)] (sb (by kernel_rfl)) ?_
  refine S_seq word_May.k1 word_May.k2 (by kernel_rfl) ?_
  refine S_region 0 (Code.ops word_May.k1) (by kernel_rfl) ?_
  refine N_run 1 [(0, .int .u64 wv)] (fun w => by kernel_rfl) ?_
  refine N_end (by kernel_rfl) ?_
  refine S_then ?_
  refine S_seq word_May.k3 word_May.k4 (by kernel_rfl) ?_
  refine S_region 1 (Code.ops word_May.k3) (by kernel_rfl) ?_
  refine N_run 1 [(0, .int .u64 wv), (7, .int .u64 wv)] (fun w => by kernel_rfl) ?_
  refine N_call (some 8) 111 #[.int .u64 wv] (fun w => by kernel_rfl) h ?_; clear h
  rintro v H1 ⟨ra, rb, rc, rfl, h⟩
  refine ⟨[(0, .int .u64 wv), (8, .tuple #[.int .i64 ra, .int .i64 rb, .int .u64 rc])], ps (by kernel_rfl), ?_⟩
  refine N_run 7 [(0, .int .u64 wv), (3, .int .i64 ra), (4, .int .i64 rb)] (fun w => by kernel_rfl) ?_
  refine N_end (by kernel_rfl) ?_
  refine S_then ?_
  refine S_seq word_May.k5 word_May.k6 (by kernel_rfl) ?_
  refine S_seq word_May.k7 word_May.k8 (by kernel_rfl) ?_
  refine S_region 2 (Code.ops word_May.k7) (by kernel_rfl) ?_
  refine N_run 1 [(0, .int .u64 wv), (3, .int .i64 ra), (4, .int .i64 rb), (12, .int .u64 wv)] (fun w => by kernel_rfl) ?_
  refine N_call (some 13) 83 #[.int .u64 wv] (fun w => by kernel_rfl) h ?_; clear h
  rintro v_2 H2 ⟨x, rfl, h⟩
  refine ⟨[(0, .int .u64 wv), (3, .int .i64 ra), (4, .int .i64 rb), (13, .int .i64 x)], ps (by kernel_rfl), ?_⟩
  refine N_end (by kernel_rfl) ?_
  refine S_then ?_
  refine S_block 0 word_May.k9 (by kernel_rfl) ?_
  refine S_seq word_May.k10 word_May.k11 (by kernel_rfl) ?_
  refine S_block 7 word_May.k12 (by kernel_rfl) ?_
  refine S_seq word_May.k13 word_May.k14 (by kernel_rfl) ?_
  refine S_block 6 word_May.k15 (by kernel_rfl) ?_
  refine S_seq word_May.k16 word_May.k17 (by kernel_rfl) ?_
  refine S_block 5 word_May.k18 (by kernel_rfl) ?_
  refine S_block 4 word_May.k19 (by kernel_rfl) ?_
  refine S_block 3 word_May.k20 (by kernel_rfl) ?_
  refine S_block 2 word_May.k21 (by kernel_rfl) ?_
  refine S_seq word_May.k22 word_May.k23 (by kernel_rfl) ?_
  refine S_block 1 word_May.k24 (by kernel_rfl) ?_
  refine S_seq word_May.k25 word_May.k26 (by kernel_rfl) ?_
  refine S_seq word_May.k27 word_May.k28 (by kernel_rfl) ?_
  refine S_seq word_May.k29 word_May.k30 (by kernel_rfl) ?_
  refine S_region 3 (Code.ops word_May.k29) (by kernel_rfl) ?_
  refine N_run 2 [(0, .int .u64 wv), (3, .int .i64 ra), (4, .int .i64 rb), (13, .int .i64 x), (14, .bool (x == 0))] (fun w => by kernel_rfl) ?_
  refine N_end (by kernel_rfl) ?_
  refine S_then ?_
  by_cases c1 : x = 0
  · rw [if_pos c1] at h
    have b2 : (x == 0) = true := beq_iff_eq.mpr c1
    refine S_env [(0, .int .u64 wv), (3, .int .i64 ra), (4, .int .i64 rb), (13, .int .i64 x), (14, .bool true)] (by simp only [b2, Bool.not_true, Bool.not_false]) ?_
    clear b2
    refine S_condT (.tmp 14) word_May.k31 word_May.k32 (by kernel_rfl) (by kernel_rfl) ?_
    refine S_exit 1 (by kernel_rfl) ?_
    refine S_exitThen ?_
    refine S_exitThen ?_
    refine S_exitHere ?_
    refine S_then ?_
    refine S_seq word_May.k33 word_May.k34 (by kernel_rfl) ?_
    refine S_seq word_May.k35 word_May.k36 (by kernel_rfl) ?_
    refine S_region 10 (Code.ops word_May.k35) (by kernel_rfl) ?_
    refine N_run 1 [(2, .bool true)] (fun w => by kernel_rfl) ?_
    refine N_end (by kernel_rfl) ?_
    refine S_then ?_
    refine S_ret (by kernel_rfl) ?_
    show At _ _ _ _ (Q .ret)
    exact S_done (fn := Try.f100) [.bool true] hQ (show ResOK _ _ _ [.tmp 2] _ from .tmp (by kernel_rfl) (.nil)) h
  · rw [if_neg c1] at h
    have b2 : (x == 0) = false := beq_eq_false_iff_ne.mpr c1
    refine S_env [(0, .int .u64 wv), (3, .int .i64 ra), (4, .int .i64 rb), (13, .int .i64 x), (14, .bool false)] (by simp only [b2, Bool.not_true, Bool.not_false]) ?_
    clear b2
    refine S_condF (.tmp 14) word_May.k31 word_May.k32 (by kernel_rfl) (by kernel_rfl) ?_
    refine S_skip (by kernel_rfl) ?_
    refine S_then ?_
    refine S_seq word_May.k37 word_May.k38 (by kernel_rfl) ?_
    refine S_seq word_May.k39 word_May.k40 (by kernel_rfl) ?_
    refine S_region 4 (Code.ops word_May.k39) (by kernel_rfl) ?_
    refine N_run 2 [(0, .int .u64 wv), (3, .int .i64 ra), (4, .int .i64 rb), (13, .int .i64 x), (16, .bool (x == 1))] (fun w => by kernel_rfl) ?_
    refine N_end (by kernel_rfl) ?_
    refine S_then ?_
    by_cases c3 : x = 1
    · rw [if_pos c3] at h
      have b4 : (x == 1) = true := beq_iff_eq.mpr c3
      refine S_env [(0, .int .u64 wv), (3, .int .i64 ra), (4, .int .i64 rb), (13, .int .i64 x), (16, .bool true)] (by simp only [b4, Bool.not_true, Bool.not_false]) ?_
      clear b4
      refine S_condT (.tmp 16) word_May.k41 word_May.k42 (by kernel_rfl) (by kernel_rfl) ?_
      refine S_exit 2 (by kernel_rfl) ?_
      refine S_exitThen ?_
      refine S_exitThen ?_
      refine S_exitPast (by kernel_rfl) ?_
      refine S_exitThen ?_
      refine S_exitHere ?_
      refine S_blockEnd ?_
      refine S_blockEnd ?_
      refine S_blockEnd ?_
      refine S_then ?_
      refine S_seq word_May.k43 word_May.k44 (by kernel_rfl) ?_
      refine S_seq word_May.k45 word_May.k46 (by kernel_rfl) ?_
      refine S_region 11 (Code.ops word_May.k45) (by kernel_rfl) ?_
      refine N_run 4 [(2, .bool (decide ((ishr .u64 wv 3) < 65536)))] (fun w => by kernel_rfl) ?_
      refine N_end (by kernel_rfl) ?_
      refine S_then ?_
      refine S_ret (by kernel_rfl) ?_
      show At _ _ _ _ (Q .ret)
      exact S_done (fn := Try.f100) [.bool (decide ((ishr .u64 wv 3) < 65536))] hQ (show ResOK _ _ _ [.tmp 2] _ from .tmp (by kernel_rfl) (.nil)) h
    · rw [if_neg c3] at h
      have b4 : (x == 1) = false := beq_eq_false_iff_ne.mpr c3
      refine S_env [(0, .int .u64 wv), (3, .int .i64 ra), (4, .int .i64 rb), (13, .int .i64 x), (16, .bool false)] (by simp only [b4, Bool.not_true, Bool.not_false]) ?_
      clear b4
      refine S_condF (.tmp 16) word_May.k41 word_May.k42 (by kernel_rfl) (by kernel_rfl) ?_
      refine S_skip (by kernel_rfl) ?_
      refine S_then ?_
      refine S_seq word_May.k47 word_May.k48 (by kernel_rfl) ?_
      refine S_seq word_May.k49 word_May.k50 (by kernel_rfl) ?_
      refine S_region 5 (Code.ops word_May.k49) (by kernel_rfl) ?_
      refine N_run 2 [(0, .int .u64 wv), (3, .int .i64 ra), (4, .int .i64 rb), (13, .int .i64 x), (18, .bool (x == 2))] (fun w => by kernel_rfl) ?_
      refine N_end (by kernel_rfl) ?_
      refine S_then ?_
      by_cases c5 : x = 2
      · rw [if_pos c5] at h
        have b6 : (x == 2) = true := beq_iff_eq.mpr c5
        refine S_env [(0, .int .u64 wv), (3, .int .i64 ra), (4, .int .i64 rb), (13, .int .i64 x), (18, .bool true)] (by simp only [b6, Bool.not_true, Bool.not_false]) ?_
        clear b6
        refine S_condT (.tmp 18) word_May.k51 word_May.k52 (by kernel_rfl) (by kernel_rfl) ?_
        refine S_exit 3 (by kernel_rfl) ?_
        refine S_exitThen ?_
        refine S_exitThen ?_
        refine S_exitPast (by kernel_rfl) ?_
        refine S_exitThen ?_
        refine S_exitPast (by kernel_rfl) ?_
        refine S_exitHere ?_
        refine S_blockEnd ?_
        refine S_blockEnd ?_
        refine S_then ?_
        refine S_seq word_May.k43 word_May.k44 (by kernel_rfl) ?_
        refine S_seq word_May.k45 word_May.k46 (by kernel_rfl) ?_
        refine S_region 11 (Code.ops word_May.k45) (by kernel_rfl) ?_
        refine N_run 4 [(2, .bool (decide ((ishr .u64 wv 3) < 65536)))] (fun w => by kernel_rfl) ?_
        refine N_end (by kernel_rfl) ?_
        refine S_then ?_
        refine S_ret (by kernel_rfl) ?_
        show At _ _ _ _ (Q .ret)
        exact S_done (fn := Try.f100) [.bool (decide ((ishr .u64 wv 3) < 65536))] hQ (show ResOK _ _ _ [.tmp 2] _ from .tmp (by kernel_rfl) (.nil)) h
      · rw [if_neg c5] at h
        have b6 : (x == 2) = false := beq_eq_false_iff_ne.mpr c5
        refine S_env [(0, .int .u64 wv), (3, .int .i64 ra), (4, .int .i64 rb), (13, .int .i64 x), (18, .bool false)] (by simp only [b6, Bool.not_true, Bool.not_false]) ?_
        clear b6
        refine S_condF (.tmp 18) word_May.k51 word_May.k52 (by kernel_rfl) (by kernel_rfl) ?_
        refine S_skip (by kernel_rfl) ?_
        refine S_then ?_
        refine S_seq word_May.k53 word_May.k54 (by kernel_rfl) ?_
        refine S_seq word_May.k55 word_May.k56 (by kernel_rfl) ?_
        refine S_region 6 (Code.ops word_May.k55) (by kernel_rfl) ?_
        refine N_run 2 [(0, .int .u64 wv), (3, .int .i64 ra), (4, .int .i64 rb), (13, .int .i64 x), (20, .bool (x == 3))] (fun w => by kernel_rfl) ?_
        refine N_end (by kernel_rfl) ?_
        refine S_then ?_
        by_cases c7 : x = 3
        · rw [if_pos c7] at h
          have b8 : (x == 3) = true := beq_iff_eq.mpr c7
          refine S_env [(0, .int .u64 wv), (3, .int .i64 ra), (4, .int .i64 rb), (13, .int .i64 x), (20, .bool true)] (by simp only [b8, Bool.not_true, Bool.not_false]) ?_
          clear b8
          refine S_condT (.tmp 20) word_May.k57 word_May.k58 (by kernel_rfl) (by kernel_rfl) ?_
          refine S_exit 4 (by kernel_rfl) ?_
          refine S_exitThen ?_
          refine S_exitThen ?_
          refine S_exitPast (by kernel_rfl) ?_
          refine S_exitThen ?_
          refine S_exitPast (by kernel_rfl) ?_
          refine S_exitPast (by kernel_rfl) ?_
          refine S_exitHere ?_
          refine S_blockEnd ?_
          refine S_then ?_
          refine S_seq word_May.k43 word_May.k44 (by kernel_rfl) ?_
          refine S_seq word_May.k45 word_May.k46 (by kernel_rfl) ?_
          refine S_region 11 (Code.ops word_May.k45) (by kernel_rfl) ?_
          refine N_run 4 [(2, .bool (decide ((ishr .u64 wv 3) < 65536)))] (fun w => by kernel_rfl) ?_
          refine N_end (by kernel_rfl) ?_
          refine S_then ?_
          refine S_ret (by kernel_rfl) ?_
          show At _ _ _ _ (Q .ret)
          exact S_done (fn := Try.f100) [.bool (decide ((ishr .u64 wv 3) < 65536))] hQ (show ResOK _ _ _ [.tmp 2] _ from .tmp (by kernel_rfl) (.nil)) h
        · rw [if_neg c7] at h
          have b8 : (x == 3) = false := beq_eq_false_iff_ne.mpr c7
          refine S_env [(0, .int .u64 wv), (3, .int .i64 ra), (4, .int .i64 rb), (13, .int .i64 x), (20, .bool false)] (by simp only [b8, Bool.not_true, Bool.not_false]) ?_
          clear b8
          refine S_condF (.tmp 20) word_May.k57 word_May.k58 (by kernel_rfl) (by kernel_rfl) ?_
          refine S_skip (by kernel_rfl) ?_
          refine S_then ?_
          refine S_seq word_May.k59 word_May.k60 (by kernel_rfl) ?_
          refine S_seq word_May.k61 word_May.k62 (by kernel_rfl) ?_
          refine S_region 7 (Code.ops word_May.k61) (by kernel_rfl) ?_
          refine N_run 2 [(0, .int .u64 wv), (3, .int .i64 ra), (4, .int .i64 rb), (13, .int .i64 x), (22, .bool (x == 6))] (fun w => by kernel_rfl) ?_
          refine N_end (by kernel_rfl) ?_
          refine S_then ?_
          by_cases c9 : x = 6
          · rw [if_pos c9] at h
            have b10 : (x == 6) = true := beq_iff_eq.mpr c9
            refine S_env [(0, .int .u64 wv), (3, .int .i64 ra), (4, .int .i64 rb), (13, .int .i64 x), (22, .bool true)] (by simp only [b10, Bool.not_true, Bool.not_false]) ?_
            clear b10
            refine S_condT (.tmp 22) word_May.k63 word_May.k64 (by kernel_rfl) (by kernel_rfl) ?_
            refine S_exit 5 (by kernel_rfl) ?_
            refine S_exitThen ?_
            refine S_exitThen ?_
            refine S_exitPast (by kernel_rfl) ?_
            refine S_exitThen ?_
            refine S_exitPast (by kernel_rfl) ?_
            refine S_exitPast (by kernel_rfl) ?_
            refine S_exitPast (by kernel_rfl) ?_
            refine S_exitHere ?_
            refine S_then ?_
            refine S_seq word_May.k43 word_May.k44 (by kernel_rfl) ?_
            refine S_seq word_May.k45 word_May.k46 (by kernel_rfl) ?_
            refine S_region 11 (Code.ops word_May.k45) (by kernel_rfl) ?_
            refine N_run 4 [(2, .bool (decide ((ishr .u64 wv 3) < 65536)))] (fun w => by kernel_rfl) ?_
            refine N_end (by kernel_rfl) ?_
            refine S_then ?_
            refine S_ret (by kernel_rfl) ?_
            show At _ _ _ _ (Q .ret)
            exact S_done (fn := Try.f100) [.bool (decide ((ishr .u64 wv 3) < 65536))] hQ (show ResOK _ _ _ [.tmp 2] _ from .tmp (by kernel_rfl) (.nil)) h
          · rw [if_neg c9] at h
            have b10 : (x == 6) = false := beq_eq_false_iff_ne.mpr c9
            refine S_env [(0, .int .u64 wv), (3, .int .i64 ra), (4, .int .i64 rb), (13, .int .i64 x), (22, .bool false)] (by simp only [b10, Bool.not_true, Bool.not_false]) ?_
            clear b10
            refine S_condF (.tmp 22) word_May.k63 word_May.k64 (by kernel_rfl) (by kernel_rfl) ?_
            refine S_skip (by kernel_rfl) ?_
            refine S_then ?_
            refine S_seq word_May.k65 word_May.k66 (by kernel_rfl) ?_
            refine S_seq word_May.k67 word_May.k68 (by kernel_rfl) ?_
            refine S_region 8 (Code.ops word_May.k67) (by kernel_rfl) ?_
            refine N_run 2 [(0, .int .u64 wv), (3, .int .i64 ra), (4, .int .i64 rb), (13, .int .i64 x), (24, .bool (x == 4))] (fun w => by kernel_rfl) ?_
            refine N_end (by kernel_rfl) ?_
            refine S_then ?_
            by_cases c11 : x = 4
            · rw [if_pos c11] at h
              have b12 : (x == 4) = true := beq_iff_eq.mpr c11
              refine S_env [(0, .int .u64 wv), (3, .int .i64 ra), (4, .int .i64 rb), (13, .int .i64 x), (24, .bool true)] (by simp only [b12, Bool.not_true, Bool.not_false]) ?_
              clear b12
              refine S_condT (.tmp 24) word_May.k69 word_May.k70 (by kernel_rfl) (by kernel_rfl) ?_
              refine S_exit 6 (by kernel_rfl) ?_
              refine S_exitThen ?_
              refine S_exitThen ?_
              refine S_exitPast (by kernel_rfl) ?_
              refine S_exitThen ?_
              refine S_exitPast (by kernel_rfl) ?_
              refine S_exitPast (by kernel_rfl) ?_
              refine S_exitPast (by kernel_rfl) ?_
              refine S_exitPast (by kernel_rfl) ?_
              refine S_exitThen ?_
              refine S_exitHere ?_
              refine S_then ?_
              refine S_seq word_May.k71 word_May.k72 (by kernel_rfl) ?_
              refine S_seq word_May.k73 word_May.k74 (by kernel_rfl) ?_
              refine S_seq word_May.k75 word_May.k76 (by kernel_rfl) ?_
              refine S_region 12 (Code.ops word_May.k75) (by kernel_rfl) ?_
              refine N_run 2 [(0, .int .u64 wv), (32, .bool (ra == 7))] (fun w => by kernel_rfl) ?_
              refine N_end (by kernel_rfl) ?_
              refine S_then ?_
              by_cases c13 : ra = 7
              · rw [if_pos c13] at h
                have b14 : (ra == 7) = true := beq_iff_eq.mpr c13
                refine S_env [(0, .int .u64 wv), (32, .bool true)] (by simp only [b14, Bool.not_true, Bool.not_false]) ?_
                clear b14
                refine S_condT (.tmp 32) word_May.k77 word_May.k78 (by kernel_rfl) (by kernel_rfl) ?_
                refine S_seq word_May.k79 word_May.k80 (by kernel_rfl) ?_
                refine S_region 13 (Code.ops word_May.k79) (by kernel_rfl) ?_
                refine N_run 2 [(34, .int .u64 (ishr .u64 wv 8))] (fun w => by kernel_rfl) ?_
                refine N_call (some 35) 115 #[.int .u64 (ishr .u64 wv 8)] (fun w => by kernel_rfl) h ?_; clear h
                rintro v_3 H3 ⟨x_2, rfl, h⟩
                refine ⟨[(35, .bool x_2)], ps (by kernel_rfl), ?_⟩
                refine N_run 1 [(2, .bool x_2)] (fun w => by kernel_rfl) ?_
                refine N_end (by kernel_rfl) ?_
                refine S_then ?_
                refine S_ret (by kernel_rfl) ?_
                show At _ _ _ _ (Q .ret)
                exact S_done (fn := Try.f100) [.bool x_2] hQ (show ResOK _ _ _ [.tmp 2] _ from .tmp (by kernel_rfl) (.nil)) h
              · rw [if_neg c13] at h
                have b14 : (ra == 7) = false := beq_eq_false_iff_ne.mpr c13
                refine S_env [(0, .int .u64 wv), (32, .bool false)] (by simp only [b14, Bool.not_true, Bool.not_false]) ?_
                clear b14
                refine S_condF (.tmp 32) word_May.k77 word_May.k78 (by kernel_rfl) (by kernel_rfl) ?_
                refine S_skip (by kernel_rfl) ?_
                refine S_then ?_
                refine S_seq word_May.k81 word_May.k82 (by kernel_rfl) ?_
                refine S_region 14 (Code.ops word_May.k81) (by kernel_rfl) ?_
                refine N_run 4 [(2, .bool (decide ((ishr .u64 wv 3) ≤ 6)))] (fun w => by kernel_rfl) ?_
                refine N_end (by kernel_rfl) ?_
                refine S_then ?_
                refine S_ret (by kernel_rfl) ?_
                show At _ _ _ _ (Q .ret)
                exact S_done (fn := Try.f100) [.bool (decide ((ishr .u64 wv 3) ≤ 6))] hQ (show ResOK _ _ _ [.tmp 2] _ from .tmp (by kernel_rfl) (.nil)) h
            · rw [if_neg c11] at h
              have b12 : (x == 4) = false := beq_eq_false_iff_ne.mpr c11
              refine S_env [(0, .int .u64 wv), (3, .int .i64 ra), (4, .int .i64 rb), (13, .int .i64 x), (24, .bool false)] (by simp only [b12, Bool.not_true, Bool.not_false]) ?_
              clear b12
              refine S_condF (.tmp 24) word_May.k69 word_May.k70 (by kernel_rfl) (by kernel_rfl) ?_
              refine S_skip (by kernel_rfl) ?_
              refine S_then ?_
              refine S_seq word_May.k83 word_May.k84 (by kernel_rfl) ?_
              refine S_region 9 (Code.ops word_May.k83) (by kernel_rfl) ?_
              refine N_run 2 [(3, .int .i64 ra), (4, .int .i64 rb), (26, .bool (x == 5))] (fun w => by kernel_rfl) ?_
              refine N_end (by kernel_rfl) ?_
              refine S_then ?_
              by_cases c15 : x = 5
              · rw [if_pos c15] at h
                have b16 : (x == 5) = true := beq_iff_eq.mpr c15
                refine S_env [(3, .int .i64 ra), (4, .int .i64 rb), (26, .bool true)] (by simp only [b16, Bool.not_true, Bool.not_false]) ?_
                clear b16
                refine S_condT (.tmp 26) word_May.k85 word_May.k86 (by kernel_rfl) (by kernel_rfl) ?_
                refine S_exit 7 (by kernel_rfl) ?_
                refine S_exitThen ?_
                refine S_exitPast (by kernel_rfl) ?_
                refine S_exitThen ?_
                refine S_exitPast (by kernel_rfl) ?_
                refine S_exitPast (by kernel_rfl) ?_
                refine S_exitPast (by kernel_rfl) ?_
                refine S_exitPast (by kernel_rfl) ?_
                refine S_exitThen ?_
                refine S_exitPast (by kernel_rfl) ?_
                refine S_exitThen ?_
                refine S_exitHere ?_
                refine S_then ?_
                refine S_seq word_May.k87 word_May.k88 (by kernel_rfl) ?_
                refine S_seq word_May.k89 word_May.k90 (by kernel_rfl) ?_
                refine S_region 15 (Code.ops word_May.k89) (by kernel_rfl) ?_
                refine N_cut [(2, .bool (((decide (ra ≥ 1)) && (decide (ra ≤ 13))) && (decide (rb ≤ 62))))] ?_ ?_
                · refine S_then ?_
                  refine S_ret (by kernel_rfl) ?_
                  show At _ _ _ _ (Q .ret)
                  exact S_done (fn := Try.f100) [.bool (((decide (ra ≥ 1)) && (decide (ra ≤ 13))) && (decide (rb ≤ 62)))] hQ (show ResOK _ _ _ [.tmp 2] _ from .tmp (by kernel_rfl) (.nil)) h
                · intro hk
                  refine N_run 3 [(3, .int .i64 ra), (4, .int .i64 rb), (41, .bool (decide (ra ≥ 1)))] (fun w => by kernel_rfl) ?_
                  by_cases c17 : ra ≥ 1
                  · have b18 : (decide (ra ≥ 1)) = true := decide_eq_true c17
                    refine N_env [(3, .int .i64 ra), (4, .int .i64 rb), (41, .bool true)] (by simp only [b18, Bool.not_true, Bool.not_false]) ?_
                    refine N_run 4 [(4, .int .i64 rb), (45, .bool (decide (ra ≤ 13)))] (fun w => by kernel_rfl) ?_
                    by_cases c19 : ra ≤ 13
                    · have b20 : (decide (ra ≤ 13)) = true := decide_eq_true c19
                      refine N_env [(4, .int .i64 rb), (45, .bool true)] (by simp only [b20, Bool.not_true, Bool.not_false]) ?_
                      refine N_run 4 [(2, .bool (decide (rb ≤ 62)))] (fun w => by kernel_rfl) ?_
                      refine N_end (by kernel_rfl) ?_
                      refine S_env [(2, .bool (((decide (ra ≥ 1)) && (decide (ra ≤ 13))) && (decide (rb ≤ 62))))] (by simp only [b18, b20, Bool.true_or, Bool.false_or, Bool.or_true, Bool.or_false, Bool.true_and, Bool.false_and, Bool.and_true, Bool.and_false, Bool.not_true, Bool.not_false, cond_true, cond_false]) ?_
                      exact hk
                    · have b20 : (decide (ra ≤ 13)) = false := decide_eq_false c19
                      refine N_env [(4, .int .i64 rb), (45, .bool false)] (by simp only [b20, Bool.not_true, Bool.not_false]) ?_
                      refine N_run 4 [(2, .bool false)] (fun w => by kernel_rfl) ?_
                      refine N_end (by kernel_rfl) ?_
                      refine S_env [(2, .bool (((decide (ra ≥ 1)) && (decide (ra ≤ 13))) && (decide (rb ≤ 62))))] (by simp only [b18, b20, Bool.true_or, Bool.false_or, Bool.or_true, Bool.or_false, Bool.true_and, Bool.false_and, Bool.and_true, Bool.and_false, Bool.not_true, Bool.not_false, cond_true, cond_false]) ?_
                      exact hk
                  · have b18 : (decide (ra ≥ 1)) = false := decide_eq_false c17
                    refine N_env [(3, .int .i64 ra), (4, .int .i64 rb), (41, .bool false)] (by simp only [b18, Bool.not_true, Bool.not_false]) ?_
                    refine N_run 8 [(2, .bool false)] (fun w => by kernel_rfl) ?_
                    refine N_end (by kernel_rfl) ?_
                    refine S_env [(2, .bool (((decide (ra ≥ 1)) && (decide (ra ≤ 13))) && (decide (rb ≤ 62))))] (by simp only [b18, Bool.true_or, Bool.false_or, Bool.or_true, Bool.or_false, Bool.true_and, Bool.false_and, Bool.and_true, Bool.and_false, Bool.not_true, Bool.not_false, cond_true, cond_false]) ?_
                    exact hk
              · rw [if_neg c15] at h
                have b16 : (x == 5) = false := beq_eq_false_iff_ne.mpr c15
                refine S_env [(3, .int .i64 ra), (4, .int .i64 rb), (26, .bool false)] (by simp only [b16, Bool.not_true, Bool.not_false]) ?_
                clear b16
                refine S_condF (.tmp 26) word_May.k85 word_May.k86 (by kernel_rfl) (by kernel_rfl) ?_
                refine S_skip (by kernel_rfl) ?_
                refine S_then ?_
                refine S_exit 0 (by kernel_rfl) ?_
                refine S_exitPast (by kernel_rfl) ?_
                refine S_exitThen ?_
                refine S_exitPast (by kernel_rfl) ?_
                refine S_exitPast (by kernel_rfl) ?_
                refine S_exitPast (by kernel_rfl) ?_
                refine S_exitPast (by kernel_rfl) ?_
                refine S_exitThen ?_
                refine S_exitPast (by kernel_rfl) ?_
                refine S_exitThen ?_
                refine S_exitPast (by kernel_rfl) ?_
                refine S_exitThen ?_
                refine S_exitHere ?_
                refine S_then ?_
                refine S_seq word_May.k91 word_May.k92 (by kernel_rfl) ?_
                refine S_region 16 (Code.ops word_May.k91) (by kernel_rfl) ?_
                refine N_run 1 [(2, .bool false)] (fun w => by kernel_rfl) ?_
                refine N_end (by kernel_rfl) ?_
                refine S_then ?_
                refine S_ret (by kernel_rfl) ?_
                show At _ _ _ _ (Q .ret)
                exact S_done (fn := Try.f100) [.bool false] hQ (show ResOK _ _ _ [.tmp 2] _ from .tmp (by kernel_rfl) (.nil)) h

/-! moraine/word.parts -/
noncomputable def word_parts.k0 : Code := Func.code Try.f111
noncomputable def word_parts.k1 : Code := Code.fa word_parts.k0
noncomputable def word_parts.k2 : Code := Code.fb word_parts.k0
noncomputable def word_parts.k3 : Code := Code.fa word_parts.k2
noncomputable def word_parts.k4 : Code := Code.fb word_parts.k2
noncomputable def word_parts.k5 : Code := Code.fa word_parts.k4
noncomputable def word_parts.k6 : Code := Code.fb word_parts.k4
def word_parts.pt (wv : Int) (H : Array Obj) (R : Value → Array Obj → Prop) : Prop :=
 ∀ (b : Nat) (H1 : Array Obj), b = H.size → H1 = H.push (.cells #[.int .u64 wv] 29) →
 word_parts_1.C 3 5 (some (Addr.mk b 0 none)) H1 (fun v H2 => ∃ x : Int, v = .int .u64 x ∧ 
  word_parts_1.C 8 8 (some (Addr.mk b 0 none)) H2 (fun v_2 H3 => ∃ x_2 : Int, v_2 = .int .u64 x_2 ∧ 
   word_parts_1.C 16 48 (some (Addr.mk b 0 none)) H3 (fun v_3 H4 => ∃ x_3 : Int, v_3 = .int .u64 x_3 ∧ 
    R (.tuple #[.int .i64 (IntKind.wrap .i64 x), .int .i64 (IntKind.wrap .i64 x_2), .int .u64 x_3]) H4)))
set_option maxRecDepth 100000 in
theorem word_parts.link {wv : Int} {H : Array Obj} {R : Value → Array Obj → Prop} (h : word_parts.pt wv H R) : word_parts.C wv H R := by
  refine S_enter (fn := Try.f111) (c := word_parts.k0) 15 Try.func111 (by kernel_rfl) (by kernel_rfl) (Nat.le_of_ble_eq_true (by kernel_rfl)) ?_
  intro w0 Q hQ
  unfold word_parts.pt at h
  refine S_sub [(0, .int .u64 wv)] (sb (by kernel_rfl)) ?_
  refine S_seq word_parts.k1 word_parts.k2 (by kernel_rfl) ?_
  refine S_region 0 (Code.ops word_parts.k1) (by kernel_rfl) ?_
  refine N_new (some 1) (fun b => .pointer (some (Addr.mk b 0 none))) (.cells #[.int .u64 wv] 29) (fun w => by kernel_rfl) ?_
  intro b H1 e1 e2
  replace h := h b H1 e1 e2
  refine ⟨[(1, .pointer (some (Addr.mk b 0 none)))], ps (by kernel_rfl), ?_⟩
  refine N_run 3 [(1, .pointer (some (Addr.mk b 0 none)))] (fun w => by kernel_rfl) ?_
  refine N_end (by kernel_rfl) ?_
  refine S_then ?_
  refine S_seq word_parts.k3 word_parts.k4 (by kernel_rfl) ?_
  refine S_region 1 (Code.ops word_parts.k3) (by kernel_rfl) ?_
  refine N_run 2 [(5, .func (.func 120) #[] #[.pointer (some (Addr.mk b 0 none))])] (fun w => by kernel_rfl) ?_
  refine N_end (by kernel_rfl) ?_
  refine S_then ?_
  refine S_seq word_parts.k5 word_parts.k6 (by kernel_rfl) ?_
  refine S_region 2 (Code.ops word_parts.k5) (by kernel_rfl) ?_
  refine N_run 1 [(5, .func (.func 120) #[] #[.pointer (some (Addr.mk b 0 none))]), (7, .func (.func 120) #[] #[.pointer (some (Addr.mk b 0 none))])] (fun w => by kernel_rfl) ?_
  refine N_call (some 8) 120 #[.int .i64 3, .int .i64 5, .pointer (some (Addr.mk b 0 none))] (fun w => by kernel_rfl) h ?_; clear h
  rintro v H2 ⟨x, rfl, h⟩
  refine ⟨[(5, .func (.func 120) #[] #[.pointer (some (Addr.mk b 0 none))]), (8, .int .u64 x)], ps (by kernel_rfl), ?_⟩
  refine N_run 2 [(5, .func (.func 120) #[] #[.pointer (some (Addr.mk b 0 none))]), (9, .int .i64 (IntKind.wrap .i64 x)), (10, .func (.func 120) #[] #[.pointer (some (Addr.mk b 0 none))])] (fun w => by kernel_rfl) ?_
  refine N_call (some 11) 120 #[.int .i64 8, .int .i64 8, .pointer (some (Addr.mk b 0 none))] (fun w => by kernel_rfl) h ?_; clear h
  rintro v_2 H3 ⟨x_2, rfl, h⟩
  refine ⟨[(5, .func (.func 120) #[] #[.pointer (some (Addr.mk b 0 none))]), (9, .int .i64 (IntKind.wrap .i64 x)), (11, .int .u64 x_2)], ps (by kernel_rfl), ?_⟩
  refine N_run 2 [(9, .int .i64 (IntKind.wrap .i64 x)), (12, .int .i64 (IntKind.wrap .i64 x_2)), (13, .func (.func 120) #[] #[.pointer (some (Addr.mk b 0 none))])] (fun w => by kernel_rfl) ?_
  refine N_call (some 14) 120 #[.int .i64 16, .int .i64 48, .pointer (some (Addr.mk b 0 none))] (fun w => by kernel_rfl) h ?_; clear h
  rintro v_3 H4 ⟨x_3, rfl, h⟩
  refine ⟨[(9, .int .i64 (IntKind.wrap .i64 x)), (12, .int .i64 (IntKind.wrap .i64 x_2)), (14, .int .u64 x_3)], ps (by kernel_rfl), ?_⟩
  refine N_run 3 [(2, .int .i64 (IntKind.wrap .i64 x)), (3, .int .i64 (IntKind.wrap .i64 x_2)), (4, .int .u64 x_3)] (fun w => by kernel_rfl) ?_
  refine N_end (by kernel_rfl) ?_
  refine S_then ?_
  refine S_ret (by kernel_rfl) ?_
  show At _ _ _ _ (Q .ret)
  exact S_done (fn := Try.f111) [.int .i64 (IntKind.wrap .i64 x), .int .i64 (IntKind.wrap .i64 x_2), .int .u64 x_3] hQ (show ResOK _ _ _ [.tmp 2, .tmp 3, .tmp 4] _ from .tmp (by kernel_rfl) (.tmp (by kernel_rfl) (.tmp (by kernel_rfl) (.nil)))) h

/-! moraine/word.letter -/
noncomputable def word_letter.k0 : Code := Func.code Try.f115
noncomputable def word_letter.k1 : Code := Code.fa word_letter.k0
noncomputable def word_letter.k2 : Code := Code.fb word_letter.k0
noncomputable def word_letter.k3 : Code := Code.fa word_letter.k2
noncomputable def word_letter.k4 : Code := Code.fb word_letter.k2
def word_letter.pt (c : Int) (H : Array Obj) (R : Value → Array Obj → Prop) : Prop :=
 R (.bool ((decide (c ≤ 1114111)) && ((decide (c < 55296)) || (decide (c > 57343))))) H
set_option maxRecDepth 100000 in
theorem word_letter.link {c : Int} {H : Array Obj} {R : Value → Array Obj → Prop} (h : word_letter.pt c H R) : word_letter.C c H R := by
  refine S_enter (fn := Try.f115) (c := word_letter.k0) 13 Try.func115 (by kernel_rfl) (by kernel_rfl) (Nat.le_of_ble_eq_true (by kernel_rfl)) ?_
  intro w0 Q hQ
  unfold word_letter.pt at h
  refine S_sub [(0, .int .u64 c)] (sb (by kernel_rfl)) ?_
  refine S_seq word_letter.k1 word_letter.k2 (by kernel_rfl) ?_
  refine S_region 0 (Code.ops word_letter.k1) (by kernel_rfl) ?_
  refine N_run 1 [(0, .int .u64 c)] (fun w => by kernel_rfl) ?_
  refine N_end (by kernel_rfl) ?_
  refine S_then ?_
  refine S_seq word_letter.k3 word_letter.k4 (by kernel_rfl) ?_
  refine S_region 1 (Code.ops word_letter.k3) (by kernel_rfl) ?_
  refine N_cut [(2, .bool ((decide (c ≤ 1114111)) && ((decide (c < 55296)) || (decide (c > 57343)))))] ?_ ?_
  · refine S_then ?_
    refine S_ret (by kernel_rfl) ?_
    show At _ _ _ _ (Q .ret)
    exact S_done (fn := Try.f115) [.bool ((decide (c ≤ 1114111)) && ((decide (c < 55296)) || (decide (c > 57343))))] hQ (show ResOK _ _ _ [.tmp 2] _ from .tmp (by kernel_rfl) (.nil)) h
  · intro hk
    refine N_run 3 [(0, .int .u64 c), (5, .bool (decide (c ≤ 1114111)))] (fun w => by kernel_rfl) ?_
    by_cases c1 : c ≤ 1114111
    · have b2 : (decide (c ≤ 1114111)) = true := decide_eq_true c1
      refine N_env [(0, .int .u64 c), (5, .bool true)] (by simp only [b2, Bool.not_true, Bool.not_false]) ?_
      refine N_run 3 [(0, .int .u64 c), (5, .bool true), (8, .bool (decide (c < 55296)))] (fun w => by kernel_rfl) ?_
      by_cases c3 : c < 55296
      · have b4 : (decide (c < 55296)) = true := decide_eq_true c3
        refine N_env [(0, .int .u64 c), (5, .bool true), (8, .bool true)] (by simp only [b4, Bool.not_true, Bool.not_false]) ?_
        refine N_run 5 [(2, .bool true)] (fun w => by kernel_rfl) ?_
        refine N_end (by kernel_rfl) ?_
        refine S_env [(2, .bool ((decide (c ≤ 1114111)) && ((decide (c < 55296)) || (decide (c > 57343)))))] (by simp only [b2, b4, Bool.true_or, Bool.false_or, Bool.or_true, Bool.or_false, Bool.true_and, Bool.false_and, Bool.and_true, Bool.and_false, Bool.not_true, Bool.not_false, cond_true, cond_false]) ?_
        exact hk
      · have b4 : (decide (c < 55296)) = false := decide_eq_false c3
        refine N_env [(0, .int .u64 c), (5, .bool true), (8, .bool false)] (by simp only [b4, Bool.not_true, Bool.not_false]) ?_
        refine N_run 5 [(2, .bool (decide (c > 57343)))] (fun w => by kernel_rfl) ?_
        refine N_end (by kernel_rfl) ?_
        refine S_env [(2, .bool ((decide (c ≤ 1114111)) && ((decide (c < 55296)) || (decide (c > 57343)))))] (by simp only [b2, b4, Bool.true_or, Bool.false_or, Bool.or_true, Bool.or_false, Bool.true_and, Bool.false_and, Bool.and_true, Bool.and_false, Bool.not_true, Bool.not_false, cond_true, cond_false]) ?_
        exact hk
    · have b2 : (decide (c ≤ 1114111)) = false := decide_eq_false c1
      refine N_env [(0, .int .u64 c), (5, .bool false)] (by simp only [b2, Bool.not_true, Bool.not_false]) ?_
      refine N_run 8 [(2, .bool false)] (fun w => by kernel_rfl) ?_
      refine N_end (by kernel_rfl) ?_
      refine S_env [(2, .bool ((decide (c ≤ 1114111)) && ((decide (c < 55296)) || (decide (c > 57343)))))] (by simp only [b2, Bool.true_or, Bool.false_or, Bool.or_true, Bool.or_false, Bool.true_and, Bool.false_and, Bool.and_true, Bool.and_false, Bool.not_true, Bool.not_false, cond_true, cond_false]) ?_
      exact hk

/-! moraine/word.parts.1 -/
noncomputable def word_parts_1.k0 : Code := Func.code Try.f120
noncomputable def word_parts_1.k1 : Code := Code.fa word_parts_1.k0
noncomputable def word_parts_1.k2 : Code := Code.fb word_parts_1.k0
noncomputable def word_parts_1.k3 : Code := Code.fa word_parts_1.k2
noncomputable def word_parts_1.k4 : Code := Code.fb word_parts_1.k2
def word_parts_1.pt (fromv : Int) (bits : Int) (cap0 : Option Addr) (H : Array Obj) (R : Value → Array Obj → Prop) : Prop :=
 ∃ cap0A : Addr, cap0 = some cap0A ∧
 ∃ x : Int, hat H cap0A = some (.int .u64 x) ∧
 (0 ≤ fromv) ∧
 (0 ≤ bits) ∧
 R (.int .u64 (iand .u64 (ishr .u64 x fromv) (IntKind.wrap .u64 ((ishl .u64 1 bits) - 1)))) H
set_option maxRecDepth 100000 in
theorem word_parts_1.link {fromv : Int} {bits : Int} {cap0 : Option Addr} {H : Array Obj} {R : Value → Array Obj → Prop} (h : word_parts_1.pt fromv bits cap0 H R) : word_parts_1.C fromv bits cap0 H R := by
  refine S_enter (fn := Try.f120) (c := word_parts_1.k0) 13 Try.func120 (by kernel_rfl) (by kernel_rfl) (Nat.le_of_ble_eq_true (by kernel_rfl)) ?_
  intro w0 Q hQ
  unfold word_parts_1.pt at h
  refine S_sub [(0, .int .i64 fromv), (1, .int .i64 bits), (2, .pointer cap0)] (sb (by kernel_rfl)) ?_
  refine S_seq word_parts_1.k1 word_parts_1.k2 (by kernel_rfl) ?_
  refine S_region 0 (Code.ops word_parts_1.k1) (by kernel_rfl) ?_
  refine N_run 1 [(0, .int .i64 fromv), (1, .int .i64 bits), (2, .pointer cap0)] (fun w => by kernel_rfl) ?_
  refine N_end (by kernel_rfl) ?_
  refine S_then ?_
  refine S_seq word_parts_1.k3 word_parts_1.k4 (by kernel_rfl) ?_
  refine S_regionQ 1 (Code.ops word_parts_1.k3) (by kernel_rfl) (by kernel_rfl) (by kernel_rfl) ?_
  obtain ⟨cap0A, rfl, h⟩ := h
  obtain ⟨x, q1, h⟩ := h
  refine Q_op (some 6) (loadN 29 (.pointer (some cap0A))) (.int .u64 x) (fun w => by kernel_rfl) (loadN_run (loadOK_one (fun w => by kernel_rfl) q1)) [(0, .int .i64 fromv), (1, .int .i64 bits), (6, .int .u64 x)] (ps (by kernel_rfl)) ?_
  refine Q_one (.int .i64 fromv) [(1, .int .i64 bits), (6, .int .u64 x), (7, .int .i64 fromv)] (some 7) (by kernel_rfl) (fun w => by kernel_rfl) (ps (by kernel_rfl)) ?_
  obtain ⟨q2, h⟩ := h
  refine Q_op (some 8) (binN .shr 28 (.int .u64 x) (.int .i64 fromv)) (.int .u64 (ishr .u64 x fromv)) (fun w => by kernel_rfl) (fun w _ => shr_run (P := Try.prog) (t := 28) (k := .u64) (k' := .i64) (x := x) (y := fromv) q2 w) [(1, .int .i64 bits), (8, .int .u64 (ishr .u64 x fromv))] (ps (by kernel_rfl)) ?_
  refine Q_one (.int .i64 bits) [(8, .int .u64 (ishr .u64 x fromv)), (9, .int .i64 bits)] (some 9) (by kernel_rfl) (fun w => by kernel_rfl) (ps (by kernel_rfl)) ?_
  obtain ⟨q3, h⟩ := h
  refine Q_op (some 10) (binN .shl 28 (.int .u64 1) (.int .i64 bits)) (.int .u64 (ishl .u64 1 bits)) (fun w => by kernel_rfl) (fun w _ => shl_run (P := Try.prog) (t := 28) (k := .u64) (k' := .i64) (x := 1) (y := bits) q3 w) [(8, .int .u64 (ishr .u64 x fromv)), (10, .int .u64 (ishl .u64 1 bits))] (ps (by kernel_rfl)) ?_
  refine Q_one (.int .u64 (IntKind.wrap .u64 ((ishl .u64 1 bits) - 1))) [(8, .int .u64 (ishr .u64 x fromv)), (11, .int .u64 (IntKind.wrap .u64 ((ishl .u64 1 bits) - 1)))] (some 11) (by kernel_rfl) (fun w => by kernel_rfl) (ps (by kernel_rfl)) ?_
  refine Q_one (.int .u64 (iand .u64 (ishr .u64 x fromv) (IntKind.wrap .u64 ((ishl .u64 1 bits) - 1)))) [(12, .int .u64 (iand .u64 (ishr .u64 x fromv) (IntKind.wrap .u64 ((ishl .u64 1 bits) - 1))))] (some 12) (by kernel_rfl) (fun w => by kernel_rfl) (ps (by kernel_rfl)) ?_
  refine Q_one (.int .u64 (iand .u64 (ishr .u64 x fromv) (IntKind.wrap .u64 ((ishl .u64 1 bits) - 1)))) [(5, .int .u64 (iand .u64 (ishr .u64 x fromv) (IntKind.wrap .u64 ((ishl .u64 1 bits) - 1))))] (some 5) (by kernel_rfl) (fun w => by kernel_rfl) (ps (by kernel_rfl)) ?_
  refine Q_sub [(5, .int .u64 (iand .u64 (ishr .u64 x fromv) (IntKind.wrap .u64 ((ishl .u64 1 bits) - 1))))] (sb (by kernel_rfl)) ?_
  refine Q_end (by kernel_rfl) ?_
  refine S_then ?_
  refine S_ret (by kernel_rfl) ?_
  show At _ _ _ _ (Q .ret)
  exact S_done (fn := Try.f120) [.int .u64 (iand .u64 (ishr .u64 x fromv) (IntKind.wrap .u64 ((ishl .u64 1 bits) - 1)))] hQ (show ResOK _ _ _ [.tmp 5] _ from .tmp (by kernel_rfl) (.nil)) h

end Go.Proofs.Ytfohlkiikppefaa
