/-
 Written by a program of mine (gen.py): for functions of this translation a predicate transformer over heaps (.pt), and the proof that it is sound for the call (.link).
-/
import Derived.Test.YthlohokmnajpoaaGreatFnsC
set_option linter.unusedSimpArgs false
set_option linter.unusedVariables false
set_option maxHeartbeats 1000000
noncomputable section
namespace Go.Proofs.YthlohokmnajpoaaGreat
open Go
/-! moraine/word.Fix -/
namespace word_Fix
def kk0 := Func.code Tryz.f35
def kk1 := Code.fa kk0
def kk2 := Code.fb kk0
def kk3 := Code.fa kk2
def kk4 := Code.fb kk2
def kk5 := Code.fa kk3
def kk6 := Code.fb kk3
def kk7 := Code.fa kk6
def kk8 := Code.fb kk6
def kk9 := Code.fa kk7
def kk10 := Code.fb kk7
def kk11 := Code.fa kk4
def kk12 := Code.fb kk4
end word_Fix
def word_Fix.pt (x : Int) (H : Array Obj) (R : Value → Array Obj → Prop) : Prop :=
 if ((decide (x < (-1152921504606846976))) || (decide (x ≥ 1152921504606846976))) = true then (
 R (.tuple #[.int .u64 0, .int .i64 4]) H)
 else
 R (.tuple #[.int .u64 (IntKind.wrap .u64 (ishl .i64 x 3)), .int .i64 0]) H
namespace word_Fix
set_option maxRecDepth 100000 in
theorem link {x : Int} {H : Array Obj} {R : Value → Array Obj → Prop} (h : pt x H R) : C x H R := by
 refine S_enter (fn := Tryz.f35) (c := kk0) 13 Tryz.func35 (by kernel_rfl) (by kernel_rfl) (Nat.le_of_ble_eq_true (by kernel_rfl)) ?_
 intro w0 Q hQ
 unfold pt at h
 refine S_sub [(0, .int .i64 x)] (sb (by kernel_rfl)) ?_
 refine T_sr 0 kk1 kk2 ?_
 refine N_run 2 [(0, .int .i64 x)] (fun _=>by kernel_rfl) ?_
 refine T_e ?_
 refine S_seq kk3 kk4 (by kernel_rfl) ?_
 refine T_sr 1 kk5 kk6 ?_
 refine N_cut [(0, .int .i64 x), (9, .bool ((decide (x < (-1152921504606846976))) || (decide (x ≥ 1152921504606846976))))] ?_ ?_
 ·refine S_then ?_
  by_cases c3 : ((decide (x < (-1152921504606846976))) || (decide (x ≥ 1152921504606846976))) = true
  ·rw [if_pos c3] at h
   have b4 : ((decide (x < (-1152921504606846976))) || (decide (x ≥ 1152921504606846976))) = true := c3
   refine S_env [(0, .int .i64 x), (9, .bool true)] (by simp only [b4, Bool.not_true, Bool.not_false]) ?_
   clear b4
   refine S_condT (.tmp 9) kk7 kk8 (by kernel_rfl) (by kernel_rfl) ?_
   refine T_sr 2 kk9 kk10 ?_
   refine N_run 2 [(2, .int .u64 0), (3, .int .i64 4)] (fun _=>by kernel_rfl) ?_
   refine T_e ?_
   refine S_ret (by kernel_rfl) ?_
   show At _ _ _ _ _ (Q .ret)
   exact S_done (fn := Tryz.f35) [.int .u64 0, .int .i64 4] hQ (show ResOK _ _ _ [.tmp 2, .tmp 3] _ from .tmp (by kernel_rfl) (.tmp (by kernel_rfl) (.nil))) h
  ·rw [if_neg c3] at h
   have b4 : ((decide (x < (-1152921504606846976))) || (decide (x ≥ 1152921504606846976))) = false := eq_false_of_ne_true c3
   refine S_env [(0, .int .i64 x), (9, .bool false)] (by simp only [b4, Bool.not_true, Bool.not_false]) ?_
   clear b4
   refine S_condF (.tmp 9) kk7 kk8 (by kernel_rfl) (by kernel_rfl) ?_
   refine S_skip (by kernel_rfl) ?_
   refine S_then ?_
   refine T_sr 3 kk11 kk12 ?_
   refine N_run 5 [(2, .int .u64 (IntKind.wrap .u64 (ishl .i64 x 3))), (3, .int .i64 0)] (fun _=>by kernel_rfl) ?_
   refine T_e ?_
   refine S_ret (by kernel_rfl) ?_
   show At _ _ _ _ _ (Q .ret)
   exact S_done (fn := Tryz.f35) [.int .u64 (IntKind.wrap .u64 (ishl .i64 x 3)), .int .i64 0] hQ (show ResOK _ _ _ [.tmp 2, .tmp 3] _ from .tmp (by kernel_rfl) (.tmp (by kernel_rfl) (.nil))) h
 ·intro hk
  refine N_run 3 [(0, .int .i64 x), (6, .bool (decide (x < (-1152921504606846976))))] (fun _=>by kernel_rfl) ?_
  by_cases c1 : x < (-1152921504606846976)
  ·have b2 : (decide (x < (-1152921504606846976))) = true := decide_eq_true c1
   refine N_env [(0, .int .i64 x), (6, .bool true)] (by simp only [b2, Bool.not_true, Bool.not_false]) ?_
   refine N_run 3 [(0, .int .i64 x), (9, .bool true)] (fun _=>by kernel_rfl) ?_
   refine N_end (by kernel_rfl) ?_
   refine S_env [(0, .int .i64 x), (9, .bool ((decide (x < (-1152921504606846976))) || (decide (x ≥ 1152921504606846976))))] (by simp only [b2, Bool.true_or, Bool.false_or, Bool.or_true, Bool.or_false, Bool.true_and, Bool.false_and, Bool.and_true, Bool.and_false, Bool.not_true, Bool.not_false, cond_true, cond_false]) ?_
   exact hk
  ·have b2 : (decide (x < (-1152921504606846976))) = false := decide_eq_false c1
   refine N_env [(0, .int .i64 x), (6, .bool false)] (by simp only [b2, Bool.not_true, Bool.not_false]) ?_
   refine N_run 3 [(0, .int .i64 x), (9, .bool (decide (x ≥ 1152921504606846976)))] (fun _=>by kernel_rfl) ?_
   refine N_end (by kernel_rfl) ?_
   refine S_env [(0, .int .i64 x), (9, .bool ((decide (x < (-1152921504606846976))) || (decide (x ≥ 1152921504606846976))))] (by simp only [b2, Bool.true_or, Bool.false_or, Bool.or_true, Bool.or_false, Bool.true_and, Bool.false_and, Bool.and_true, Bool.and_false, Bool.not_true, Bool.not_false, cond_true, cond_false]) ?_
   exact hk
end word_Fix

/-! moraine/word.Int -/
namespace word_At
def kk0 := Func.code Tryz.f55
def kk1 := Code.fa kk0
def kk2 := Code.fb kk0
def kk3 := Code.fa kk2
def kk4 := Code.fb kk2
def kk5 := Code.fa kk3
def kk6 := Code.fa kk5
def kk7 := Code.fb kk5
def kk8 := Code.fa kk7
def kk9 := Code.fb kk7
def kk10 := Code.fa kk9
def kk11 := Code.fb kk9
def kk12 := Code.fa kk11
def kk13 := Code.fb kk11
def kk14 := Code.fa kk12
def kk15 := Code.fb kk12
def kk16 := Code.fa kk4
def kk17 := Code.fb kk4
def kk18 := Code.fa kk8
def kk19 := Code.fb kk8
end word_At
def word_At.pt (tag : Int) (addr : Int) (H : Array Obj) (R : Value → Array Obj → Prop) : Prop :=
 word_place.C tag H (fun v H1 => ∃ x : Bool, v = .bool x ∧ 
 if x = true then (
 if ((decide (addr < 0)) || (decide (addr ≥ 65536))) = true then (
 R (.tuple #[.int .u64 0, .int .i64 18]) H1)
 else
 R (.tuple #[.int .u64 (ior .u64 (ishl .u64 (IntKind.wrap .u64 addr) 3) (IntKind.wrap .u64 tag)), .int .i64 0]) H1)
 else
 R (.tuple #[.int .u64 0, .int .i64 1]) H1)
namespace word_At
set_option maxRecDepth 100000 in
theorem link {tag : Int} {addr : Int} {H : Array Obj} {R : Value → Array Obj → Prop} (h : pt tag addr H R) : C tag addr H R := by
 refine S_enter (fn := Tryz.f55) (c := kk0) 23 Tryz.func55 (by kernel_rfl) (by kernel_rfl) (Nat.le_of_ble_eq_true (by kernel_rfl)) ?_
 intro w0 Q hQ
 unfold pt at h
 refine S_sub [(0, .int .i64 tag), (1, .int .i64 addr)] (sb (by kernel_rfl)) ?_
 refine T_sr 0 kk1 kk2 ?_
 refine N_run 2 [(0, .int .i64 tag), (1, .int .i64 addr)] (fun _=>by kernel_rfl) ?_
 refine T_e ?_
 refine S_seq kk3 kk4 (by kernel_rfl) ?_
 refine S_block 0 kk5 (by kernel_rfl) ?_
 refine T_sr 1 kk6 kk7 ?_
 refine N_run 1 [(0, .int .i64 tag), (1, .int .i64 addr), (7, .int .i64 tag)] (fun _=>by kernel_rfl) ?_
 refine N_call (some 8) 78 #[.int .i64 tag] (fun _=>by kernel_rfl) h ?_; clear h
 rintro v H1 ⟨x, rfl, h⟩
 refine ⟨[(0, .int .i64 tag), (1, .int .i64 addr), (8, .bool x)], ps (by kernel_rfl), ?_⟩
 refine N_run 2 [(0, .int .i64 tag), (1, .int .i64 addr), (6, .bool (!x))] (fun _=>by kernel_rfl) ?_
 refine T_e ?_
 by_cases c1 : x = true
 ·rw [if_pos c1] at h
  have b2 : (!x) = false := congrArg Bool.not (c1)
  have b22 : x = true := c1
  refine S_env [(0, .int .i64 tag), (1, .int .i64 addr), (6, .bool false)] (by simp only [b2, b22, Bool.not_true, Bool.not_false]) ?_
  clear b2 b22
  refine S_condF (.tmp 6) kk8 kk9 (by kernel_rfl) (by kernel_rfl) ?_
  refine T_sr 3 kk10 kk11 ?_
  refine N_cut [(0, .int .i64 tag), (1, .int .i64 addr), (10, .bool ((decide (addr < 0)) || (decide (addr ≥ 65536))))] ?_ ?_
  ·refine S_then ?_
   by_cases c5 : ((decide (addr < 0)) || (decide (addr ≥ 65536))) = true
   ·rw [if_pos c5] at h
    have b6 : ((decide (addr < 0)) || (decide (addr ≥ 65536))) = true := c5
    refine S_env [(0, .int .i64 tag), (1, .int .i64 addr), (10, .bool true)] (by simp only [b6, Bool.not_true, Bool.not_false]) ?_
    clear b6
    refine S_condT (.tmp 10) kk12 kk13 (by kernel_rfl) (by kernel_rfl) ?_
    refine T_sr 4 kk14 kk15 ?_
    refine N_run 2 [(4, .int .u64 0), (5, .int .i64 18)] (fun _=>by kernel_rfl) ?_
    refine T_e ?_
    refine S_ret (by kernel_rfl) ?_
    show At _ _ _ _ _ (Q .ret)
    exact S_done (fn := Tryz.f55) [.int .u64 0, .int .i64 18] hQ (show ResOK _ _ _ [.tmp 4, .tmp 5] _ from .tmp (by kernel_rfl) (.tmp (by kernel_rfl) (.nil))) h
   ·rw [if_neg c5] at h
    have b6 : ((decide (addr < 0)) || (decide (addr ≥ 65536))) = false := eq_false_of_ne_true c5
    refine S_env [(0, .int .i64 tag), (1, .int .i64 addr), (10, .bool false)] (by simp only [b6, Bool.not_true, Bool.not_false]) ?_
    clear b6
    refine S_condF (.tmp 10) kk12 kk13 (by kernel_rfl) (by kernel_rfl) ?_
    refine S_skip (by kernel_rfl) ?_
    refine S_blockEnd ?_
    refine S_then ?_
    refine T_sr 5 kk16 kk17 ?_
    refine N_run 8 [(4, .int .u64 (ior .u64 (ishl .u64 (IntKind.wrap .u64 addr) 3) (IntKind.wrap .u64 tag))), (5, .int .i64 0)] (fun _=>by kernel_rfl) ?_
    refine T_e ?_
    refine S_ret (by kernel_rfl) ?_
    show At _ _ _ _ _ (Q .ret)
    exact S_done (fn := Tryz.f55) [.int .u64 (ior .u64 (ishl .u64 (IntKind.wrap .u64 addr) 3) (IntKind.wrap .u64 tag)), .int .i64 0] hQ (show ResOK _ _ _ [.tmp 4, .tmp 5] _ from .tmp (by kernel_rfl) (.tmp (by kernel_rfl) (.nil))) h
  ·intro hk
   refine N_run 3 [(0, .int .i64 tag), (1, .int .i64 addr), (13, .bool (decide (addr < 0)))] (fun _=>by kernel_rfl) ?_
   by_cases c3 : addr < 0
   ·have b4 : (decide (addr < 0)) = true := decide_eq_true c3
    refine N_env [(0, .int .i64 tag), (1, .int .i64 addr), (13, .bool true)] (by simp only [b4, Bool.not_true, Bool.not_false]) ?_
    refine N_run 4 [(0, .int .i64 tag), (1, .int .i64 addr), (10, .bool true)] (fun _=>by kernel_rfl) ?_
    refine N_end (by kernel_rfl) ?_
    refine S_env [(0, .int .i64 tag), (1, .int .i64 addr), (10, .bool ((decide (addr < 0)) || (decide (addr ≥ 65536))))] (by simp only [b4, Bool.true_or, Bool.false_or, Bool.or_true, Bool.or_false, Bool.true_and, Bool.false_and, Bool.and_true, Bool.and_false, Bool.not_true, Bool.not_false, cond_true, cond_false]) ?_
    exact hk
   ·have b4 : (decide (addr < 0)) = false := decide_eq_false c3
    refine N_env [(0, .int .i64 tag), (1, .int .i64 addr), (13, .bool false)] (by simp only [b4, Bool.not_true, Bool.not_false]) ?_
    refine N_run 4 [(0, .int .i64 tag), (1, .int .i64 addr), (10, .bool (decide (addr ≥ 65536)))] (fun _=>by kernel_rfl) ?_
    refine N_end (by kernel_rfl) ?_
    refine S_env [(0, .int .i64 tag), (1, .int .i64 addr), (10, .bool ((decide (addr < 0)) || (decide (addr ≥ 65536))))] (by simp only [b4, Bool.true_or, Bool.false_or, Bool.or_true, Bool.or_false, Bool.true_and, Bool.false_and, Bool.and_true, Bool.and_false, Bool.not_true, Bool.not_false, cond_true, cond_false]) ?_
    exact hk
 ·rw [if_neg c1] at h
  have b2 : (!x) = true := congrArg Bool.not (eq_false_of_ne_true c1)
  have b22 : x = false := eq_false_of_ne_true c1
  refine S_env [(0, .int .i64 tag), (1, .int .i64 addr), (6, .bool true)] (by simp only [b2, b22, Bool.not_true, Bool.not_false]) ?_
  clear b2 b22
  refine S_condT (.tmp 6) kk8 kk9 (by kernel_rfl) (by kernel_rfl) ?_
  refine T_sr 2 kk18 kk19 ?_
  refine N_run 2 [(4, .int .u64 0), (5, .int .i64 1)] (fun _=>by kernel_rfl) ?_
  refine T_e ?_
  refine S_ret (by kernel_rfl) ?_
  show At _ _ _ _ _ (Q .ret)
  exact S_done (fn := Tryz.f55) [.int .u64 0, .int .i64 1] hQ (show ResOK _ _ _ [.tmp 4, .tmp 5] _ from .tmp (by kernel_rfl) (.tmp (by kernel_rfl) (.nil))) h
end word_At

/-! moraine/word.Tag -/
namespace word_Tag
def kk0 := Func.code Tryz.f58
def kk1 := Code.fa kk0
def kk2 := Code.fb kk0
def kk3 := Code.fa kk2
def kk4 := Code.fb kk2
end word_Tag
def word_Tag.pt (wv : Int) (H : Array Obj) (R : Value → Array Obj → Prop) : Prop :=
 R (.int .i64 (IntKind.wrap .i64 (iand .u64 wv 7))) H
namespace word_Tag
set_option maxRecDepth 100000 in
theorem link {wv : Int} {H : Array Obj} {R : Value → Array Obj → Prop} (h : pt wv H R) : C wv H R := by
 refine S_enter (fn := Tryz.f58) (c := kk0) 6 Tryz.func58 (by kernel_rfl) (by kernel_rfl) (Nat.le_of_ble_eq_true (by kernel_rfl)) ?_
 intro w0 Q hQ
 unfold pt at h
 refine S_sub [(0, .int .u64 wv)] (sb (by kernel_rfl)) ?_
 refine T_sr 0 kk1 kk2 ?_
 refine N_run 1 [(0, .int .u64 wv)] (fun _=>by kernel_rfl) ?_
 refine T_e ?_
 refine T_sr 1 kk3 kk4 ?_
 refine N_run 4 [(2, .int .i64 (IntKind.wrap .i64 (iand .u64 wv 7)))] (fun _=>by kernel_rfl) ?_
 refine T_e ?_
 refine S_ret (by kernel_rfl) ?_
 show At _ _ _ _ _ (Q .ret)
 exact S_done (fn := Tryz.f58) [.int .i64 (IntKind.wrap .i64 (iand .u64 wv 7))] hQ (show ResOK _ _ _ [.tmp 2] _ from .tmp (by kernel_rfl) (.nil)) h
end word_Tag

/-! moraine/word.place -/
namespace word_place
def kk0 := Func.code Tryz.f78
def kk1 := Code.fa kk0
def kk2 := Code.fb kk0
def kk3 := Code.fa kk2
def kk4 := Code.fb kk2
end word_place
def word_place.pt (tag : Int) (H : Array Obj) (R : Value → Array Obj → Prop) : Prop :=
 R (.bool (((decide (tag ≥ 1)) && (decide (tag ≤ 3))) || (tag == 6))) H
namespace word_place
set_option maxRecDepth 100000 in
theorem link {tag : Int} {H : Array Obj} {R : Value → Array Obj → Prop} (h : pt tag H R) : C tag H R := by
 refine S_enter (fn := Tryz.f78) (c := kk0) 13 Tryz.func78 (by kernel_rfl) (by kernel_rfl) (Nat.le_of_ble_eq_true (by kernel_rfl)) ?_
 intro w0 Q hQ
 unfold pt at h
 refine S_sub [(0, .int .i64 tag)] (sb (by kernel_rfl)) ?_
 refine T_sr 0 kk1 kk2 ?_
 refine N_run 1 [(0, .int .i64 tag)] (fun _=>by kernel_rfl) ?_
 refine T_e ?_
 refine T_sr 1 kk3 kk4 ?_
 refine N_cut [(2, .bool (((decide (tag ≥ 1)) && (decide (tag ≤ 3))) || (tag == 6)))] ?_ ?_
 ·refine S_then ?_
  refine S_ret (by kernel_rfl) ?_
  show At _ _ _ _ _ (Q .ret)
  exact S_done (fn := Tryz.f78) [.bool (((decide (tag ≥ 1)) && (decide (tag ≤ 3))) || (tag == 6))] hQ (show ResOK _ _ _ [.tmp 2] _ from .tmp (by kernel_rfl) (.nil)) h
 ·intro hk
  refine N_run 3 [(0, .int .i64 tag), (5, .bool (decide (tag ≥ 1)))] (fun _=>by kernel_rfl) ?_
  by_cases c1 : tag ≥ 1
  ·have b2 : (decide (tag ≥ 1)) = true := decide_eq_true c1
   refine N_env [(0, .int .i64 tag), (5, .bool true)] (by simp only [b2, Bool.not_true, Bool.not_false]) ?_
   refine N_run 4 [(0, .int .i64 tag), (9, .bool (decide (tag ≤ 3)))] (fun _=>by kernel_rfl) ?_
   by_cases c3 : tag ≤ 3
   ·have b4 : (decide (tag ≤ 3)) = true := decide_eq_true c3
    refine N_env [(0, .int .i64 tag), (9, .bool true)] (by simp only [b4, Bool.not_true, Bool.not_false]) ?_
    refine N_run 4 [(2, .bool true)] (fun _=>by kernel_rfl) ?_
    refine N_end (by kernel_rfl) ?_
    refine S_env [(2, .bool (((decide (tag ≥ 1)) && (decide (tag ≤ 3))) || (tag == 6)))] (by simp only [b2, b4, Bool.true_or, Bool.false_or, Bool.or_true, Bool.or_false, Bool.true_and, Bool.false_and, Bool.and_true, Bool.and_false, Bool.not_true, Bool.not_false, cond_true, cond_false]) ?_
    exact hk
   ·have b4 : (decide (tag ≤ 3)) = false := decide_eq_false c3
    refine N_env [(0, .int .i64 tag), (9, .bool false)] (by simp only [b4, Bool.not_true, Bool.not_false]) ?_
    refine N_run 4 [(2, .bool (tag == 6))] (fun _=>by kernel_rfl) ?_
    refine N_end (by kernel_rfl) ?_
    refine S_env [(2, .bool (((decide (tag ≥ 1)) && (decide (tag ≤ 3))) || (tag == 6)))] (by simp only [b2, b4, Bool.true_or, Bool.false_or, Bool.or_true, Bool.or_false, Bool.true_and, Bool.false_and, Bool.and_true, Bool.and_false, Bool.not_true, Bool.not_false, cond_true, cond_false]) ?_
    exact hk
  ·have b2 : (decide (tag ≥ 1)) = false := decide_eq_false c1
   refine N_env [(0, .int .i64 tag), (5, .bool false)] (by simp only [b2, Bool.not_true, Bool.not_false]) ?_
   refine N_run 8 [(2, .bool (tag == 6))] (fun _=>by kernel_rfl) ?_
   refine N_end (by kernel_rfl) ?_
   refine S_env [(2, .bool (((decide (tag ≥ 1)) && (decide (tag ≤ 3))) || (tag == 6)))] (by simp only [b2, Bool.true_or, Bool.false_or, Bool.or_true, Bool.or_false, Bool.true_and, Bool.false_and, Bool.and_true, Bool.and_false, Bool.not_true, Bool.not_false, cond_true, cond_false]) ?_
   exact hk
end word_place

/-! moraine/word.Head -/
namespace word_Addr
def kk0 := Func.code Tryz.f102
def kk1 := Code.fa kk0
def kk2 := Code.fb kk0
def kk3 := Code.fa kk2
def kk4 := Code.fb kk2
def kk5 := Code.fa kk3
def kk6 := Code.fb kk3
def kk7 := Code.fa kk6
def kk8 := Code.fb kk6
def kk9 := Code.fa kk4
def kk10 := Code.fb kk4
def kk11 := Code.fa kk7
def kk12 := Code.fb kk7
end word_Addr
def word_Addr.pt (wv : Int) (H : Array Obj) (R : Value → Array Obj → Prop) : Prop :=
 word_Tag.C wv H (fun v H1 => ∃ x : Int, v = .int .i64 x ∧ 
 word_place.C x H1 (fun v_2 H2 => ∃ x_2 : Bool, v_2 = .bool x_2 ∧ 
 if x_2 = true then (
 word_May.C wv H2 (fun v_3 H3 => ∃ x_3 : Bool, v_3 = .bool x_3 ∧ 
 if x_3 = true then (
 R (.tuple #[.int .i64 (IntKind.wrap .i64 (ishr .u64 wv 3)), .bool true]) H3)
 else
 R (.tuple #[.int .i64 0, .bool false]) H3))
 else
 R (.tuple #[.int .i64 0, .bool false]) H2))
namespace word_Addr
set_option maxRecDepth 100000 in
theorem link {wv : Int} {H : Array Obj} {R : Value → Array Obj → Prop} (h : pt wv H R) : C wv H R := by
 refine S_enter (fn := Tryz.f102) (c := kk0) 16 Tryz.func102 (by kernel_rfl) (by kernel_rfl) (Nat.le_of_ble_eq_true (by kernel_rfl)) ?_
 intro w0 Q hQ
 unfold pt at h
 refine S_sub [(0, .int .u64 wv)] (sb (by kernel_rfl)) ?_
 refine T_sr 0 kk1 kk2 ?_
 refine N_run 2 [(0, .int .u64 wv)] (fun _=>by kernel_rfl) ?_
 refine T_e ?_
 refine S_seq kk3 kk4 (by kernel_rfl) ?_
 refine T_sr 1 kk5 kk6 ?_
 refine N_run 1 [(0, .int .u64 wv), (4, .int .u64 wv)] (fun _=>by kernel_rfl) ?_
 refine N_call (some 5) 58 #[.int .u64 wv] (fun _=>by kernel_rfl) h ?_; clear h
 rintro v H1 ⟨x, rfl, h⟩
 refine ⟨[(0, .int .u64 wv), (5, .int .i64 x)], ps (by kernel_rfl), ?_⟩
 refine N_call (some 6) 78 #[.int .i64 x] (fun _=>by kernel_rfl) h ?_; clear h
 rintro v_2 H2 ⟨x_2, rfl, h⟩
 refine ⟨[(0, .int .u64 wv), (6, .bool x_2)], ps (by kernel_rfl), ?_⟩
 refine N_run 2 [(0, .int .u64 wv), (8, .bool (!x_2))] (fun _=>by kernel_rfl) ?_
 by_cases c1 : x_2 = true
 ·rw [if_pos c1] at h
  have b2 : (!x_2) = false := congrArg Bool.not (c1)
  have b22 : x_2 = true := c1
  refine N_env [(0, .int .u64 wv), (8, .bool false)] (by simp only [b2, b22, Bool.not_true, Bool.not_false]) ?_
  clear b2 b22
  refine N_run 1 [(0, .int .u64 wv), (8, .bool false), (9, .int .u64 wv)] (fun _=>by kernel_rfl) ?_
  refine N_call (some 10) 108 #[.int .u64 wv] (fun _=>by kernel_rfl) h ?_; clear h
  rintro v_3 H3 ⟨x_3, rfl, h⟩
  refine ⟨[(0, .int .u64 wv), (8, .bool false), (10, .bool x_3)], ps (by kernel_rfl), ?_⟩
  refine N_run 2 [(0, .int .u64 wv), (12, .bool (!x_3))] (fun _=>by kernel_rfl) ?_
  refine T_e ?_
  by_cases c3 : x_3 = true
  ·rw [if_pos c3] at h
   have b4 : (!x_3) = false := congrArg Bool.not (c3)
   have b42 : x_3 = true := c3
   refine S_env [(0, .int .u64 wv), (12, .bool false)] (by simp only [b4, b42, Bool.not_true, Bool.not_false]) ?_
   clear b4 b42
   refine S_condF (.tmp 12) kk7 kk8 (by kernel_rfl) (by kernel_rfl) ?_
   refine S_skip (by kernel_rfl) ?_
   refine S_then ?_
   refine T_sr 3 kk9 kk10 ?_
   refine N_run 5 [(2, .int .i64 (IntKind.wrap .i64 (ishr .u64 wv 3))), (3, .bool true)] (fun _=>by kernel_rfl) ?_
   refine T_e ?_
   refine S_ret (by kernel_rfl) ?_
   show At _ _ _ _ _ (Q .ret)
   exact S_done (fn := Tryz.f102) [.int .i64 (IntKind.wrap .i64 (ishr .u64 wv 3)), .bool true] hQ (show ResOK _ _ _ [.tmp 2, .tmp 3] _ from .tmp (by kernel_rfl) (.tmp (by kernel_rfl) (.nil))) h
  ·rw [if_neg c3] at h
   have b4 : (!x_3) = true := congrArg Bool.not (eq_false_of_ne_true c3)
   have b42 : x_3 = false := eq_false_of_ne_true c3
   refine S_env [(0, .int .u64 wv), (12, .bool true)] (by simp only [b4, b42, Bool.not_true, Bool.not_false]) ?_
   clear b4 b42
   refine S_condT (.tmp 12) kk7 kk8 (by kernel_rfl) (by kernel_rfl) ?_
   refine T_sr 2 kk11 kk12 ?_
   refine N_run 2 [(2, .int .i64 0), (3, .bool false)] (fun _=>by kernel_rfl) ?_
   refine T_e ?_
   refine S_ret (by kernel_rfl) ?_
   show At _ _ _ _ _ (Q .ret)
   exact S_done (fn := Tryz.f102) [.int .i64 0, .bool false] hQ (show ResOK _ _ _ [.tmp 2, .tmp 3] _ from .tmp (by kernel_rfl) (.tmp (by kernel_rfl) (.nil))) h
 ·rw [if_neg c1] at h
  have b2 : (!x_2) = true := congrArg Bool.not (eq_false_of_ne_true c1)
  have b22 : x_2 = false := eq_false_of_ne_true c1
  refine N_env [(0, .int .u64 wv), (8, .bool true)] (by simp only [b2, b22, Bool.not_true, Bool.not_false]) ?_
  clear b2 b22
  refine N_run 4 [(0, .int .u64 wv), (12, .bool true)] (fun _=>by kernel_rfl) ?_
  refine T_e ?_
  refine S_condT (.tmp 12) kk7 kk8 (by kernel_rfl) (by kernel_rfl) ?_
  refine T_sr 2 kk11 kk12 ?_
  refine N_run 2 [(2, .int .i64 0), (3, .bool false)] (fun _=>by kernel_rfl) ?_
  refine T_e ?_
  refine S_ret (by kernel_rfl) ?_
  show At _ _ _ _ _ (Q .ret)
  exact S_done (fn := Tryz.f102) [.int .i64 0, .bool false] hQ (show ResOK _ _ _ [.tmp 2, .tmp 3] _ from .tmp (by kernel_rfl) (.tmp (by kernel_rfl) (.nil))) h
end word_Addr

/-! moraine/word.May -/
namespace word_May
def kk0 := Func.code Tryz.f108
def kk1 := Code.fa kk0
def kk2 := Code.fb kk0
def kk3 := Code.fa kk2
def kk4 := Code.fb kk2
def kk5 := Code.fa kk4
def kk6 := Code.fb kk4
def kk7 := Code.fa kk5
def kk8 := Code.fb kk5
def kk9 := Code.fa kk8
def kk10 := Code.fa kk9
def kk11 := Code.fb kk9
def kk12 := Code.fa kk10
def kk13 := Code.fa kk12
def kk14 := Code.fb kk12
def kk15 := Code.fa kk13
def kk16 := Code.fa kk15
def kk17 := Code.fb kk15
def kk18 := Code.fa kk16
def kk19 := Code.fa kk18
def kk20 := Code.fa kk19
def kk21 := Code.fa kk20
def kk22 := Code.fa kk21
def kk23 := Code.fb kk21
def kk24 := Code.fa kk22
def kk25 := Code.fa kk24
def kk26 := Code.fb kk24
def kk27 := Code.fa kk25
def kk28 := Code.fb kk25
def kk29 := Code.fa kk27
def kk30 := Code.fb kk27
def kk31 := Code.fa kk30
def kk32 := Code.fb kk30
def kk33 := Code.fa kk23
def kk34 := Code.fb kk23
def kk35 := Code.fa kk33
def kk36 := Code.fb kk33
def kk37 := Code.fa kk28
def kk38 := Code.fb kk28
def kk39 := Code.fa kk37
def kk40 := Code.fb kk37
def kk41 := Code.fa kk40
def kk42 := Code.fb kk40
def kk43 := Code.fa kk17
def kk44 := Code.fb kk17
def kk45 := Code.fa kk43
def kk46 := Code.fb kk43
def kk47 := Code.fa kk38
def kk48 := Code.fb kk38
def kk49 := Code.fa kk47
def kk50 := Code.fb kk47
def kk51 := Code.fa kk50
def kk52 := Code.fb kk50
def kk53 := Code.fa kk48
def kk54 := Code.fb kk48
def kk55 := Code.fa kk53
def kk56 := Code.fb kk53
def kk57 := Code.fa kk56
def kk58 := Code.fb kk56
def kk59 := Code.fa kk54
def kk60 := Code.fb kk54
def kk61 := Code.fa kk59
def kk62 := Code.fb kk59
def kk63 := Code.fa kk62
def kk64 := Code.fb kk62
def kk65 := Code.fa kk60
def kk66 := Code.fb kk60
def kk67 := Code.fa kk65
def kk68 := Code.fb kk65
def kk69 := Code.fa kk68
def kk70 := Code.fb kk68
def kk71 := Code.fa kk14
def kk72 := Code.fb kk14
def kk73 := Code.fa kk71
def kk74 := Code.fb kk71
def kk75 := Code.fa kk73
def kk76 := Code.fb kk73
def kk77 := Code.fa kk76
def kk78 := Code.fb kk76
def kk79 := Code.fa kk77
def kk80 := Code.fb kk77
def kk81 := Code.fa kk74
def kk82 := Code.fb kk74
def kk83 := Code.fa kk66
def kk84 := Code.fb kk66
def kk85 := Code.fa kk84
def kk86 := Code.fb kk84
def kk87 := Code.fa kk11
def kk88 := Code.fb kk11
def kk89 := Code.fa kk87
def kk90 := Code.fb kk87
def kk91 := Code.fa kk6
def kk92 := Code.fb kk6
end word_May
def word_May.pt (wv : Int) (H : Array Obj) (R : Value → Array Obj → Prop) : Prop :=
 word_parts.C wv H (fun v H1 => ∃ ra : Int, ∃ rb : Int, ∃ rc : Int, v = .tuple #[.int .i64 ra, .int .i64 rb, .int .u64 rc] ∧ 
 word_Tag.C wv H1 (fun v_2 H2 => ∃ x : Int, v_2 = .int .i64 x ∧ 
 if x = 0 then (
 R (.bool true) H2)
 else
 if x = 1 then (
 R (.bool (decide ((ishr .u64 wv 3) < 65536))) H2)
 else
 if x = 2 then (
 R (.bool (decide ((ishr .u64 wv 3) < 65536))) H2)
 else
 if x = 3 then (
 R (.bool (decide ((ishr .u64 wv 3) < 65536))) H2)
 else
 if x = 6 then (
 R (.bool (decide ((ishr .u64 wv 3) < 65536))) H2)
 else
 if x = 4 then (
 if ra = 7 then (
 word_letter.C (ishr .u64 wv 8) H2 (fun v_3 H3 => ∃ x_2 : Bool, v_3 = .bool x_2 ∧ 
 R (.bool x_2) H3))
 else
 R (.bool (decide ((ishr .u64 wv 3) ≤ 6))) H2)
 else
 if x = 5 then (
 R (.bool (((decide (ra ≥ 1)) && (decide (ra ≤ 13))) && (decide (rb ≤ 62)))) H2)
 else
 R (.bool false) H2))
namespace word_May
set_option maxRecDepth 100000 in
theorem link {wv : Int} {H : Array Obj} {R : Value → Array Obj → Prop} (h : pt wv H R) : C wv H R := by
 refine S_enter (fn := Tryz.f108) (c := kk0) 49 Tryz.func108 (by kernel_rfl) (by kernel_rfl) (Nat.le_of_ble_eq_true (by kernel_rfl)) ?_
 intro w0 Q hQ
 unfold pt at h
 refine S_sub [(0, .int .u64 wv)] (sb (by kernel_rfl)) ?_
 refine T_sr 0 kk1 kk2 ?_
 refine N_run 1 [(0, .int .u64 wv)] (fun _=>by kernel_rfl) ?_
 refine T_e ?_
 refine T_sr 1 kk3 kk4 ?_
 refine N_run 1 [(0, .int .u64 wv), (7, .int .u64 wv)] (fun _=>by kernel_rfl) ?_
 refine N_call (some 8) 109 #[.int .u64 wv] (fun _=>by kernel_rfl) h ?_; clear h
 rintro v H1 ⟨ra, rb, rc, rfl, h⟩
 refine ⟨[(0, .int .u64 wv), (8, .tuple #[.int .i64 ra, .int .i64 rb, .int .u64 rc])], ps (by kernel_rfl), ?_⟩
 refine N_run 7 [(0, .int .u64 wv), (3, .int .i64 ra), (4, .int .i64 rb)] (fun _=>by kernel_rfl) ?_
 refine T_e ?_
 refine S_seq kk5 kk6 (by kernel_rfl) ?_
 refine T_sr 2 kk7 kk8 ?_
 refine N_run 1 [(0, .int .u64 wv), (3, .int .i64 ra), (4, .int .i64 rb), (12, .int .u64 wv)] (fun _=>by kernel_rfl) ?_
 refine N_call (some 13) 58 #[.int .u64 wv] (fun _=>by kernel_rfl) h ?_; clear h
 rintro v_2 H2 ⟨x, rfl, h⟩
 refine ⟨[(0, .int .u64 wv), (3, .int .i64 ra), (4, .int .i64 rb), (13, .int .i64 x)], ps (by kernel_rfl), ?_⟩
 refine T_e ?_
 refine S_block 0 kk9 (by kernel_rfl) ?_
 refine S_seq kk10 kk11 (by kernel_rfl) ?_
 refine S_block 7 kk12 (by kernel_rfl) ?_
 refine S_seq kk13 kk14 (by kernel_rfl) ?_
 refine S_block 6 kk15 (by kernel_rfl) ?_
 refine S_seq kk16 kk17 (by kernel_rfl) ?_
 refine S_block 5 kk18 (by kernel_rfl) ?_
 refine S_block 4 kk19 (by kernel_rfl) ?_
 refine S_block 3 kk20 (by kernel_rfl) ?_
 refine S_block 2 kk21 (by kernel_rfl) ?_
 refine S_seq kk22 kk23 (by kernel_rfl) ?_
 refine S_block 1 kk24 (by kernel_rfl) ?_
 refine S_seq kk25 kk26 (by kernel_rfl) ?_
 refine S_seq kk27 kk28 (by kernel_rfl) ?_
 refine T_sr 3 kk29 kk30 ?_
 refine N_run 2 [(0, .int .u64 wv), (3, .int .i64 ra), (4, .int .i64 rb), (13, .int .i64 x), (14, .bool (x == 0))] (fun _=>by kernel_rfl) ?_
 refine T_e ?_
 by_cases c1 : x = 0
 ·rw [if_pos c1] at h
  have b2 : (x == 0) = true := beq_iff_eq.mpr c1
  refine S_env [(0, .int .u64 wv), (3, .int .i64 ra), (4, .int .i64 rb), (13, .int .i64 x), (14, .bool true)] (by simp only [b2, Bool.not_true, Bool.not_false]) ?_
  clear b2
  refine S_condT (.tmp 14) kk31 kk32 (by kernel_rfl) (by kernel_rfl) ?_
  refine S_exit 1 (by kernel_rfl) ?_
  refine S_exitThen ?_
  refine S_exitThen ?_
  refine S_exitHere ?_
  refine S_then ?_
  refine S_seq kk33 kk34 (by kernel_rfl) ?_
  refine T_sr 10 kk35 kk36 ?_
  refine N_run 1 [(2, .bool true)] (fun _=>by kernel_rfl) ?_
  refine T_e ?_
  refine S_ret (by kernel_rfl) ?_
  show At _ _ _ _ _ (Q .ret)
  exact S_done (fn := Tryz.f108) [.bool true] hQ (show ResOK _ _ _ [.tmp 2] _ from .tmp (by kernel_rfl) (.nil)) h
 ·rw [if_neg c1] at h
  have b2 : (x == 0) = false := beq_eq_false_iff_ne.mpr c1
  refine S_env [(0, .int .u64 wv), (3, .int .i64 ra), (4, .int .i64 rb), (13, .int .i64 x), (14, .bool false)] (by simp only [b2, Bool.not_true, Bool.not_false]) ?_
  clear b2
  refine S_condF (.tmp 14) kk31 kk32 (by kernel_rfl) (by kernel_rfl) ?_
  refine S_skip (by kernel_rfl) ?_
  refine S_then ?_
  refine S_seq kk37 kk38 (by kernel_rfl) ?_
  refine T_sr 4 kk39 kk40 ?_
  refine N_run 2 [(0, .int .u64 wv), (3, .int .i64 ra), (4, .int .i64 rb), (13, .int .i64 x), (16, .bool (x == 1))] (fun _=>by kernel_rfl) ?_
  refine T_e ?_
  by_cases c3 : x = 1
  ·rw [if_pos c3] at h
   have b4 : (x == 1) = true := beq_iff_eq.mpr c3
   refine S_env [(0, .int .u64 wv), (3, .int .i64 ra), (4, .int .i64 rb), (13, .int .i64 x), (16, .bool true)] (by simp only [b4, Bool.not_true, Bool.not_false]) ?_
   clear b4
   refine S_condT (.tmp 16) kk41 kk42 (by kernel_rfl) (by kernel_rfl) ?_
   refine S_exit 2 (by kernel_rfl) ?_
   refine S_exitThen ?_
   refine S_exitThen ?_
   refine S_exitPast (by kernel_rfl) ?_
   refine S_exitThen ?_
   refine S_exitHere ?_
   refine S_blockEnd ?_
   refine S_blockEnd ?_
   refine S_blockEnd ?_
   refine S_then ?_
   refine S_seq kk43 kk44 (by kernel_rfl) ?_
   refine T_sr 11 kk45 kk46 ?_
   refine N_run 4 [(2, .bool (decide ((ishr .u64 wv 3) < 65536)))] (fun _=>by kernel_rfl) ?_
   refine T_e ?_
   refine S_ret (by kernel_rfl) ?_
   show At _ _ _ _ _ (Q .ret)
   exact S_done (fn := Tryz.f108) [.bool (decide ((ishr .u64 wv 3) < 65536))] hQ (show ResOK _ _ _ [.tmp 2] _ from .tmp (by kernel_rfl) (.nil)) h
  ·rw [if_neg c3] at h
   have b4 : (x == 1) = false := beq_eq_false_iff_ne.mpr c3
   refine S_env [(0, .int .u64 wv), (3, .int .i64 ra), (4, .int .i64 rb), (13, .int .i64 x), (16, .bool false)] (by simp only [b4, Bool.not_true, Bool.not_false]) ?_
   clear b4
   refine S_condF (.tmp 16) kk41 kk42 (by kernel_rfl) (by kernel_rfl) ?_
   refine S_skip (by kernel_rfl) ?_
   refine S_then ?_
   refine S_seq kk47 kk48 (by kernel_rfl) ?_
   refine T_sr 5 kk49 kk50 ?_
   refine N_run 2 [(0, .int .u64 wv), (3, .int .i64 ra), (4, .int .i64 rb), (13, .int .i64 x), (18, .bool (x == 2))] (fun _=>by kernel_rfl) ?_
   refine T_e ?_
   by_cases c5 : x = 2
   ·rw [if_pos c5] at h
    have b6 : (x == 2) = true := beq_iff_eq.mpr c5
    refine S_env [(0, .int .u64 wv), (3, .int .i64 ra), (4, .int .i64 rb), (13, .int .i64 x), (18, .bool true)] (by simp only [b6, Bool.not_true, Bool.not_false]) ?_
    clear b6
    refine S_condT (.tmp 18) kk51 kk52 (by kernel_rfl) (by kernel_rfl) ?_
    refine S_exit 3 (by kernel_rfl) ?_
    refine S_exitThen ?_
    refine S_exitThen ?_
    refine S_exitPast (by kernel_rfl) ?_
    refine S_exitThen ?_
    refine S_exitPast (by kernel_rfl) ?_
    refine S_exitHere ?_
    refine S_blockEnd ?_
    refine S_blockEnd ?_
    refine S_then ?_
    refine S_seq kk43 kk44 (by kernel_rfl) ?_
    refine T_sr 11 kk45 kk46 ?_
    refine N_run 4 [(2, .bool (decide ((ishr .u64 wv 3) < 65536)))] (fun _=>by kernel_rfl) ?_
    refine T_e ?_
    refine S_ret (by kernel_rfl) ?_
    show At _ _ _ _ _ (Q .ret)
    exact S_done (fn := Tryz.f108) [.bool (decide ((ishr .u64 wv 3) < 65536))] hQ (show ResOK _ _ _ [.tmp 2] _ from .tmp (by kernel_rfl) (.nil)) h
   ·rw [if_neg c5] at h
    have b6 : (x == 2) = false := beq_eq_false_iff_ne.mpr c5
    refine S_env [(0, .int .u64 wv), (3, .int .i64 ra), (4, .int .i64 rb), (13, .int .i64 x), (18, .bool false)] (by simp only [b6, Bool.not_true, Bool.not_false]) ?_
    clear b6
    refine S_condF (.tmp 18) kk51 kk52 (by kernel_rfl) (by kernel_rfl) ?_
    refine S_skip (by kernel_rfl) ?_
    refine S_then ?_
    refine S_seq kk53 kk54 (by kernel_rfl) ?_
    refine T_sr 6 kk55 kk56 ?_
    refine N_run 2 [(0, .int .u64 wv), (3, .int .i64 ra), (4, .int .i64 rb), (13, .int .i64 x), (20, .bool (x == 3))] (fun _=>by kernel_rfl) ?_
    refine T_e ?_
    by_cases c7 : x = 3
    ·rw [if_pos c7] at h
     have b8 : (x == 3) = true := beq_iff_eq.mpr c7
     refine S_env [(0, .int .u64 wv), (3, .int .i64 ra), (4, .int .i64 rb), (13, .int .i64 x), (20, .bool true)] (by simp only [b8, Bool.not_true, Bool.not_false]) ?_
     clear b8
     refine S_condT (.tmp 20) kk57 kk58 (by kernel_rfl) (by kernel_rfl) ?_
     refine S_exit 4 (by kernel_rfl) ?_
     refine S_exitThen ?_
     refine S_exitThen ?_
     refine S_exitPast (by kernel_rfl) ?_
     refine S_exitThen ?_
     refine S_exitPast (by kernel_rfl) ?_
     refine S_exitPast (by kernel_rfl) ?_
     refine S_exitHere ?_
     refine S_blockEnd ?_
     refine S_then ?_
     refine S_seq kk43 kk44 (by kernel_rfl) ?_
     refine T_sr 11 kk45 kk46 ?_
     refine N_run 4 [(2, .bool (decide ((ishr .u64 wv 3) < 65536)))] (fun _=>by kernel_rfl) ?_
     refine T_e ?_
     refine S_ret (by kernel_rfl) ?_
     show At _ _ _ _ _ (Q .ret)
     exact S_done (fn := Tryz.f108) [.bool (decide ((ishr .u64 wv 3) < 65536))] hQ (show ResOK _ _ _ [.tmp 2] _ from .tmp (by kernel_rfl) (.nil)) h
    ·rw [if_neg c7] at h
     have b8 : (x == 3) = false := beq_eq_false_iff_ne.mpr c7
     refine S_env [(0, .int .u64 wv), (3, .int .i64 ra), (4, .int .i64 rb), (13, .int .i64 x), (20, .bool false)] (by simp only [b8, Bool.not_true, Bool.not_false]) ?_
     clear b8
     refine S_condF (.tmp 20) kk57 kk58 (by kernel_rfl) (by kernel_rfl) ?_
     refine S_skip (by kernel_rfl) ?_
     refine S_then ?_
     refine S_seq kk59 kk60 (by kernel_rfl) ?_
     refine T_sr 7 kk61 kk62 ?_
     refine N_run 2 [(0, .int .u64 wv), (3, .int .i64 ra), (4, .int .i64 rb), (13, .int .i64 x), (22, .bool (x == 6))] (fun _=>by kernel_rfl) ?_
     refine T_e ?_
     by_cases c9 : x = 6
     ·rw [if_pos c9] at h
      have b10 : (x == 6) = true := beq_iff_eq.mpr c9
      refine S_env [(0, .int .u64 wv), (3, .int .i64 ra), (4, .int .i64 rb), (13, .int .i64 x), (22, .bool true)] (by simp only [b10, Bool.not_true, Bool.not_false]) ?_
      clear b10
      refine S_condT (.tmp 22) kk63 kk64 (by kernel_rfl) (by kernel_rfl) ?_
      refine S_exit 5 (by kernel_rfl) ?_
      refine S_exitThen ?_
      refine S_exitThen ?_
      refine S_exitPast (by kernel_rfl) ?_
      refine S_exitThen ?_
      refine S_exitPast (by kernel_rfl) ?_
      refine S_exitPast (by kernel_rfl) ?_
      refine S_exitPast (by kernel_rfl) ?_
      refine S_exitHere ?_
      refine S_then ?_
      refine S_seq kk43 kk44 (by kernel_rfl) ?_
      refine T_sr 11 kk45 kk46 ?_
      refine N_run 4 [(2, .bool (decide ((ishr .u64 wv 3) < 65536)))] (fun _=>by kernel_rfl) ?_
      refine T_e ?_
      refine S_ret (by kernel_rfl) ?_
      show At _ _ _ _ _ (Q .ret)
      exact S_done (fn := Tryz.f108) [.bool (decide ((ishr .u64 wv 3) < 65536))] hQ (show ResOK _ _ _ [.tmp 2] _ from .tmp (by kernel_rfl) (.nil)) h
     ·rw [if_neg c9] at h
      have b10 : (x == 6) = false := beq_eq_false_iff_ne.mpr c9
      refine S_env [(0, .int .u64 wv), (3, .int .i64 ra), (4, .int .i64 rb), (13, .int .i64 x), (22, .bool false)] (by simp only [b10, Bool.not_true, Bool.not_false]) ?_
      clear b10
      refine S_condF (.tmp 22) kk63 kk64 (by kernel_rfl) (by kernel_rfl) ?_
      refine S_skip (by kernel_rfl) ?_
      refine S_then ?_
      refine S_seq kk65 kk66 (by kernel_rfl) ?_
      refine T_sr 8 kk67 kk68 ?_
      refine N_run 2 [(0, .int .u64 wv), (3, .int .i64 ra), (4, .int .i64 rb), (13, .int .i64 x), (24, .bool (x == 4))] (fun _=>by kernel_rfl) ?_
      refine T_e ?_
      by_cases c11 : x = 4
      ·rw [if_pos c11] at h
       have b12 : (x == 4) = true := beq_iff_eq.mpr c11
       refine S_env [(0, .int .u64 wv), (3, .int .i64 ra), (4, .int .i64 rb), (13, .int .i64 x), (24, .bool true)] (by simp only [b12, Bool.not_true, Bool.not_false]) ?_
       clear b12
       refine S_condT (.tmp 24) kk69 kk70 (by kernel_rfl) (by kernel_rfl) ?_
       refine S_exit 6 (by kernel_rfl) ?_
       refine S_exitThen ?_
       refine S_exitThen ?_
       refine S_exitPast (by kernel_rfl) ?_
       refine S_exitThen ?_
       refine S_exitPast (by kernel_rfl) ?_
       refine S_exitPast (by kernel_rfl) ?_
       refine S_exitPast (by kernel_rfl) ?_
       refine S_exitPast (by kernel_rfl) ?_
       refine S_exitThen ?_
       refine S_exitHere ?_
       refine S_then ?_
       refine S_seq kk71 kk72 (by kernel_rfl) ?_
       refine S_seq kk73 kk74 (by kernel_rfl) ?_
       refine T_sr 12 kk75 kk76 ?_
       refine N_run 2 [(0, .int .u64 wv), (32, .bool (ra == 7))] (fun _=>by kernel_rfl) ?_
       refine T_e ?_
       by_cases c13 : ra = 7
       ·rw [if_pos c13] at h
        have b14 : (ra == 7) = true := beq_iff_eq.mpr c13
        refine S_env [(0, .int .u64 wv), (32, .bool true)] (by simp only [b14, Bool.not_true, Bool.not_false]) ?_
        clear b14
        refine S_condT (.tmp 32) kk77 kk78 (by kernel_rfl) (by kernel_rfl) ?_
        refine T_sr 13 kk79 kk80 ?_
        refine N_run 2 [(34, .int .u64 (ishr .u64 wv 8))] (fun _=>by kernel_rfl) ?_
        refine N_call (some 35) 117 #[.int .u64 (ishr .u64 wv 8)] (fun _=>by kernel_rfl) h ?_; clear h
        rintro v_3 H3 ⟨x_2, rfl, h⟩
        refine ⟨[(35, .bool x_2)], ps (by kernel_rfl), ?_⟩
        refine N_run 1 [(2, .bool x_2)] (fun _=>by kernel_rfl) ?_
        refine T_e ?_
        refine S_ret (by kernel_rfl) ?_
        show At _ _ _ _ _ (Q .ret)
        exact S_done (fn := Tryz.f108) [.bool x_2] hQ (show ResOK _ _ _ [.tmp 2] _ from .tmp (by kernel_rfl) (.nil)) h
       ·rw [if_neg c13] at h
        have b14 : (ra == 7) = false := beq_eq_false_iff_ne.mpr c13
        refine S_env [(0, .int .u64 wv), (32, .bool false)] (by simp only [b14, Bool.not_true, Bool.not_false]) ?_
        clear b14
        refine S_condF (.tmp 32) kk77 kk78 (by kernel_rfl) (by kernel_rfl) ?_
        refine S_skip (by kernel_rfl) ?_
        refine S_then ?_
        refine T_sr 14 kk81 kk82 ?_
        refine N_run 4 [(2, .bool (decide ((ishr .u64 wv 3) ≤ 6)))] (fun _=>by kernel_rfl) ?_
        refine T_e ?_
        refine S_ret (by kernel_rfl) ?_
        show At _ _ _ _ _ (Q .ret)
        exact S_done (fn := Tryz.f108) [.bool (decide ((ishr .u64 wv 3) ≤ 6))] hQ (show ResOK _ _ _ [.tmp 2] _ from .tmp (by kernel_rfl) (.nil)) h
      ·rw [if_neg c11] at h
       have b12 : (x == 4) = false := beq_eq_false_iff_ne.mpr c11
       refine S_env [(0, .int .u64 wv), (3, .int .i64 ra), (4, .int .i64 rb), (13, .int .i64 x), (24, .bool false)] (by simp only [b12, Bool.not_true, Bool.not_false]) ?_
       clear b12
       refine S_condF (.tmp 24) kk69 kk70 (by kernel_rfl) (by kernel_rfl) ?_
       refine S_skip (by kernel_rfl) ?_
       refine S_then ?_
       refine T_sr 9 kk83 kk84 ?_
       refine N_run 2 [(3, .int .i64 ra), (4, .int .i64 rb), (26, .bool (x == 5))] (fun _=>by kernel_rfl) ?_
       refine T_e ?_
       by_cases c15 : x = 5
       ·rw [if_pos c15] at h
        have b16 : (x == 5) = true := beq_iff_eq.mpr c15
        refine S_env [(3, .int .i64 ra), (4, .int .i64 rb), (26, .bool true)] (by simp only [b16, Bool.not_true, Bool.not_false]) ?_
        clear b16
        refine S_condT (.tmp 26) kk85 kk86 (by kernel_rfl) (by kernel_rfl) ?_
        refine S_exit 7 (by kernel_rfl) ?_
        refine S_exitThen ?_
        refine S_exitPast (by kernel_rfl) ?_
        refine S_exitThen ?_
        refine S_exitPast (by kernel_rfl) ?_
        refine S_exitPast (by kernel_rfl) ?_
        refine S_exitPast (by kernel_rfl) ?_
        refine S_exitPast (by kernel_rfl) ?_
        refine S_exitThen ?_
        refine S_exitPast (by kernel_rfl) ?_
        refine S_exitThen ?_
        refine S_exitHere ?_
        refine S_then ?_
        refine S_seq kk87 kk88 (by kernel_rfl) ?_
        refine T_sr 15 kk89 kk90 ?_
        refine N_cut [(2, .bool (((decide (ra ≥ 1)) && (decide (ra ≤ 13))) && (decide (rb ≤ 62))))] ?_ ?_
        ·refine S_then ?_
         refine S_ret (by kernel_rfl) ?_
         show At _ _ _ _ _ (Q .ret)
         exact S_done (fn := Tryz.f108) [.bool (((decide (ra ≥ 1)) && (decide (ra ≤ 13))) && (decide (rb ≤ 62)))] hQ (show ResOK _ _ _ [.tmp 2] _ from .tmp (by kernel_rfl) (.nil)) h
        ·intro hk
         refine N_run 3 [(3, .int .i64 ra), (4, .int .i64 rb), (41, .bool (decide (ra ≥ 1)))] (fun _=>by kernel_rfl) ?_
         by_cases c17 : ra ≥ 1
         ·have b18 : (decide (ra ≥ 1)) = true := decide_eq_true c17
          refine N_env [(3, .int .i64 ra), (4, .int .i64 rb), (41, .bool true)] (by simp only [b18, Bool.not_true, Bool.not_false]) ?_
          refine N_run 4 [(4, .int .i64 rb), (45, .bool (decide (ra ≤ 13)))] (fun _=>by kernel_rfl) ?_
          by_cases c19 : ra ≤ 13
          ·have b20 : (decide (ra ≤ 13)) = true := decide_eq_true c19
           refine N_env [(4, .int .i64 rb), (45, .bool true)] (by simp only [b20, Bool.not_true, Bool.not_false]) ?_
           refine N_run 4 [(2, .bool (decide (rb ≤ 62)))] (fun _=>by kernel_rfl) ?_
           refine N_end (by kernel_rfl) ?_
           refine S_env [(2, .bool (((decide (ra ≥ 1)) && (decide (ra ≤ 13))) && (decide (rb ≤ 62))))] (by simp only [b18, b20, Bool.true_or, Bool.false_or, Bool.or_true, Bool.or_false, Bool.true_and, Bool.false_and, Bool.and_true, Bool.and_false, Bool.not_true, Bool.not_false, cond_true, cond_false]) ?_
           exact hk
          ·have b20 : (decide (ra ≤ 13)) = false := decide_eq_false c19
           refine N_env [(4, .int .i64 rb), (45, .bool false)] (by simp only [b20, Bool.not_true, Bool.not_false]) ?_
           refine N_run 4 [(2, .bool false)] (fun _=>by kernel_rfl) ?_
           refine N_end (by kernel_rfl) ?_
           refine S_env [(2, .bool (((decide (ra ≥ 1)) && (decide (ra ≤ 13))) && (decide (rb ≤ 62))))] (by simp only [b18, b20, Bool.true_or, Bool.false_or, Bool.or_true, Bool.or_false, Bool.true_and, Bool.false_and, Bool.and_true, Bool.and_false, Bool.not_true, Bool.not_false, cond_true, cond_false]) ?_
           exact hk
         ·have b18 : (decide (ra ≥ 1)) = false := decide_eq_false c17
          refine N_env [(3, .int .i64 ra), (4, .int .i64 rb), (41, .bool false)] (by simp only [b18, Bool.not_true, Bool.not_false]) ?_
          refine N_run 8 [(2, .bool false)] (fun _=>by kernel_rfl) ?_
          refine N_end (by kernel_rfl) ?_
          refine S_env [(2, .bool (((decide (ra ≥ 1)) && (decide (ra ≤ 13))) && (decide (rb ≤ 62))))] (by simp only [b18, Bool.true_or, Bool.false_or, Bool.or_true, Bool.or_false, Bool.true_and, Bool.false_and, Bool.and_true, Bool.and_false, Bool.not_true, Bool.not_false, cond_true, cond_false]) ?_
          exact hk
       ·rw [if_neg c15] at h
        have b16 : (x == 5) = false := beq_eq_false_iff_ne.mpr c15
        refine S_env [(3, .int .i64 ra), (4, .int .i64 rb), (26, .bool false)] (by simp only [b16, Bool.not_true, Bool.not_false]) ?_
        clear b16
        refine S_condF (.tmp 26) kk85 kk86 (by kernel_rfl) (by kernel_rfl) ?_
        refine S_skip (by kernel_rfl) ?_
        refine S_then ?_
        refine S_exit 0 (by kernel_rfl) ?_
        refine S_exitPast (by kernel_rfl) ?_
        refine S_exitThen ?_
        refine S_exitPast (by kernel_rfl) ?_
        refine S_exitPast (by kernel_rfl) ?_
        refine S_exitPast (by kernel_rfl) ?_
        refine S_exitPast (by kernel_rfl) ?_
        refine S_exitThen ?_
        refine S_exitPast (by kernel_rfl) ?_
        refine S_exitThen ?_
        refine S_exitPast (by kernel_rfl) ?_
        refine S_exitThen ?_
        refine S_exitHere ?_
        refine S_then ?_
        refine T_sr 16 kk91 kk92 ?_
        refine N_run 1 [(2, .bool false)] (fun _=>by kernel_rfl) ?_
        refine T_e ?_
        refine S_ret (by kernel_rfl) ?_
        show At _ _ _ _ _ (Q .ret)
        exact S_done (fn := Tryz.f108) [.bool false] hQ (show ResOK _ _ _ [.tmp 2] _ from .tmp (by kernel_rfl) (.nil)) h
end word_May

/-! moraine/word.parts -/
namespace word_parts
def kk0 := Func.code Tryz.f109
def kk1 := Code.fa kk0
def kk2 := Code.fb kk0
def kk3 := Code.fa kk2
def kk4 := Code.fb kk2
def kk5 := Code.fa kk4
def kk6 := Code.fb kk4
end word_parts
def word_parts.pt (wv : Int) (H : Array Obj) (R : Value → Array Obj → Prop) : Prop :=
 ∀ (b : Nat) (H1 : Array Obj), b = H.size → H1 = H.push (.cells #[.int .u64 wv] 26) →
 word_parts_1.C 3 5 (some (Addr.mk b 0 none)) H1 (fun v H2 => ∃ x : Int, v = .int .u64 x ∧ 
 word_parts_1.C 8 8 (some (Addr.mk b 0 none)) H2 (fun v_2 H3 => ∃ x_2 : Int, v_2 = .int .u64 x_2 ∧ 
 word_parts_1.C 16 48 (some (Addr.mk b 0 none)) H3 (fun v_3 H4 => ∃ x_3 : Int, v_3 = .int .u64 x_3 ∧ 
 R (.tuple #[.int .i64 (IntKind.wrap .i64 x), .int .i64 (IntKind.wrap .i64 x_2), .int .u64 x_3]) H4)))
namespace word_parts
set_option maxRecDepth 100000 in
theorem link {wv : Int} {H : Array Obj} {R : Value → Array Obj → Prop} (h : pt wv H R) : C wv H R := by
 refine S_enter (fn := Tryz.f109) (c := kk0) 15 Tryz.func109 (by kernel_rfl) (by kernel_rfl) (Nat.le_of_ble_eq_true (by kernel_rfl)) ?_
 intro w0 Q hQ
 unfold pt at h
 refine S_sub [(0, .int .u64 wv)] (sb (by kernel_rfl)) ?_
 refine T_sr 0 kk1 kk2 ?_
 refine N_new (some 1) (fun b => .pointer (some (Addr.mk b 0 none))) (.cells #[.int .u64 wv] 26) (fun _=>by kernel_rfl) ?_
 intro b H1 e1 e2
 replace h := h b H1 e1 e2
 refine ⟨[(1, .pointer (some (Addr.mk b 0 none)))], ps (by kernel_rfl), ?_⟩
 refine N_run 3 [(1, .pointer (some (Addr.mk b 0 none)))] (fun _=>by kernel_rfl) ?_
 refine T_e ?_
 refine T_sr 1 kk3 kk4 ?_
 refine N_run 2 [(5, .func (.func 118) #[] #[.pointer (some (Addr.mk b 0 none))])] (fun _=>by kernel_rfl) ?_
 refine T_e ?_
 refine T_sr 2 kk5 kk6 ?_
 refine N_run 1 [(5, .func (.func 118) #[] #[.pointer (some (Addr.mk b 0 none))]), (7, .func (.func 118) #[] #[.pointer (some (Addr.mk b 0 none))])] (fun _=>by kernel_rfl) ?_
 refine N_call (some 8) 118 #[.int .i64 3, .int .i64 5, .pointer (some (Addr.mk b 0 none))] (fun _=>by kernel_rfl) h ?_; clear h
 rintro v H2 ⟨x, rfl, h⟩
 refine ⟨[(5, .func (.func 118) #[] #[.pointer (some (Addr.mk b 0 none))]), (8, .int .u64 x)], ps (by kernel_rfl), ?_⟩
 refine N_run 2 [(5, .func (.func 118) #[] #[.pointer (some (Addr.mk b 0 none))]), (9, .int .i64 (IntKind.wrap .i64 x)), (10, .func (.func 118) #[] #[.pointer (some (Addr.mk b 0 none))])] (fun _=>by kernel_rfl) ?_
 refine N_call (some 11) 118 #[.int .i64 8, .int .i64 8, .pointer (some (Addr.mk b 0 none))] (fun _=>by kernel_rfl) h ?_; clear h
 rintro v_2 H3 ⟨x_2, rfl, h⟩
 refine ⟨[(5, .func (.func 118) #[] #[.pointer (some (Addr.mk b 0 none))]), (9, .int .i64 (IntKind.wrap .i64 x)), (11, .int .u64 x_2)], ps (by kernel_rfl), ?_⟩
 refine N_run 2 [(9, .int .i64 (IntKind.wrap .i64 x)), (12, .int .i64 (IntKind.wrap .i64 x_2)), (13, .func (.func 118) #[] #[.pointer (some (Addr.mk b 0 none))])] (fun _=>by kernel_rfl) ?_
 refine N_call (some 14) 118 #[.int .i64 16, .int .i64 48, .pointer (some (Addr.mk b 0 none))] (fun _=>by kernel_rfl) h ?_; clear h
 rintro v_3 H4 ⟨x_3, rfl, h⟩
 refine ⟨[(9, .int .i64 (IntKind.wrap .i64 x)), (12, .int .i64 (IntKind.wrap .i64 x_2)), (14, .int .u64 x_3)], ps (by kernel_rfl), ?_⟩
 refine N_run 3 [(2, .int .i64 (IntKind.wrap .i64 x)), (3, .int .i64 (IntKind.wrap .i64 x_2)), (4, .int .u64 x_3)] (fun _=>by kernel_rfl) ?_
 refine T_e ?_
 refine S_ret (by kernel_rfl) ?_
 show At _ _ _ _ _ (Q .ret)
 exact S_done (fn := Tryz.f109) [.int .i64 (IntKind.wrap .i64 x), .int .i64 (IntKind.wrap .i64 x_2), .int .u64 x_3] hQ (show ResOK _ _ _ [.tmp 2, .tmp 3, .tmp 4] _ from .tmp (by kernel_rfl) (.tmp (by kernel_rfl) (.tmp (by kernel_rfl) (.nil)))) h
end word_parts

/-! moraine/word.letter -/
namespace word_letter
def kk0 := Func.code Tryz.f117
def kk1 := Code.fa kk0
def kk2 := Code.fb kk0
def kk3 := Code.fa kk2
def kk4 := Code.fb kk2
end word_letter
def word_letter.pt (c : Int) (H : Array Obj) (R : Value → Array Obj → Prop) : Prop :=
 R (.bool ((decide (c ≤ 1114111)) && ((decide (c < 55296)) || (decide (c > 57343))))) H
namespace word_letter
set_option maxRecDepth 100000 in
theorem link {c : Int} {H : Array Obj} {R : Value → Array Obj → Prop} (h : pt c H R) : C c H R := by
 refine S_enter (fn := Tryz.f117) (c := kk0) 13 Tryz.func117 (by kernel_rfl) (by kernel_rfl) (Nat.le_of_ble_eq_true (by kernel_rfl)) ?_
 intro w0 Q hQ
 unfold pt at h
 refine S_sub [(0, .int .u64 c)] (sb (by kernel_rfl)) ?_
 refine T_sr 0 kk1 kk2 ?_
 refine N_run 1 [(0, .int .u64 c)] (fun _=>by kernel_rfl) ?_
 refine T_e ?_
 refine T_sr 1 kk3 kk4 ?_
 refine N_cut [(2, .bool ((decide (c ≤ 1114111)) && ((decide (c < 55296)) || (decide (c > 57343)))))] ?_ ?_
 ·refine S_then ?_
  refine S_ret (by kernel_rfl) ?_
  show At _ _ _ _ _ (Q .ret)
  exact S_done (fn := Tryz.f117) [.bool ((decide (c ≤ 1114111)) && ((decide (c < 55296)) || (decide (c > 57343))))] hQ (show ResOK _ _ _ [.tmp 2] _ from .tmp (by kernel_rfl) (.nil)) h
 ·intro hk
  refine N_run 3 [(0, .int .u64 c), (5, .bool (decide (c ≤ 1114111)))] (fun _=>by kernel_rfl) ?_
  by_cases c1 : c ≤ 1114111
  ·have b2 : (decide (c ≤ 1114111)) = true := decide_eq_true c1
   refine N_env [(0, .int .u64 c), (5, .bool true)] (by simp only [b2, Bool.not_true, Bool.not_false]) ?_
   refine N_run 3 [(0, .int .u64 c), (5, .bool true), (8, .bool (decide (c < 55296)))] (fun _=>by kernel_rfl) ?_
   by_cases c3 : c < 55296
   ·have b4 : (decide (c < 55296)) = true := decide_eq_true c3
    refine N_env [(0, .int .u64 c), (5, .bool true), (8, .bool true)] (by simp only [b4, Bool.not_true, Bool.not_false]) ?_
    refine N_run 5 [(2, .bool true)] (fun _=>by kernel_rfl) ?_
    refine N_end (by kernel_rfl) ?_
    refine S_env [(2, .bool ((decide (c ≤ 1114111)) && ((decide (c < 55296)) || (decide (c > 57343)))))] (by simp only [b2, b4, Bool.true_or, Bool.false_or, Bool.or_true, Bool.or_false, Bool.true_and, Bool.false_and, Bool.and_true, Bool.and_false, Bool.not_true, Bool.not_false, cond_true, cond_false]) ?_
    exact hk
   ·have b4 : (decide (c < 55296)) = false := decide_eq_false c3
    refine N_env [(0, .int .u64 c), (5, .bool true), (8, .bool false)] (by simp only [b4, Bool.not_true, Bool.not_false]) ?_
    refine N_run 5 [(2, .bool (decide (c > 57343)))] (fun _=>by kernel_rfl) ?_
    refine N_end (by kernel_rfl) ?_
    refine S_env [(2, .bool ((decide (c ≤ 1114111)) && ((decide (c < 55296)) || (decide (c > 57343)))))] (by simp only [b2, b4, Bool.true_or, Bool.false_or, Bool.or_true, Bool.or_false, Bool.true_and, Bool.false_and, Bool.and_true, Bool.and_false, Bool.not_true, Bool.not_false, cond_true, cond_false]) ?_
    exact hk
  ·have b2 : (decide (c ≤ 1114111)) = false := decide_eq_false c1
   refine N_env [(0, .int .u64 c), (5, .bool false)] (by simp only [b2, Bool.not_true, Bool.not_false]) ?_
   refine N_run 8 [(2, .bool false)] (fun _=>by kernel_rfl) ?_
   refine N_end (by kernel_rfl) ?_
   refine S_env [(2, .bool ((decide (c ≤ 1114111)) && ((decide (c < 55296)) || (decide (c > 57343)))))] (by simp only [b2, Bool.true_or, Bool.false_or, Bool.or_true, Bool.or_false, Bool.true_and, Bool.false_and, Bool.and_true, Bool.and_false, Bool.not_true, Bool.not_false, cond_true, cond_false]) ?_
   exact hk
end word_letter

/-! moraine/word.parts.1 -/
namespace word_parts_1
def kk0 := Func.code Tryz.f118
def kk1 := Code.fa kk0
def kk2 := Code.fb kk0
def kk3 := Code.fa kk2
def kk4 := Code.fb kk2
end word_parts_1
def word_parts_1.pt (fromv : Int) (bits : Int) (cap0 : Option Addr) (H : Array Obj) (R : Value → Array Obj → Prop) : Prop :=
 ∃ cap0A : Addr, cap0 = some cap0A ∧
 ∃ x : Int, hat H cap0A = some (.int .u64 x) ∧
 (0 ≤ fromv) ∧
 (0 ≤ bits) ∧
 R (.int .u64 (iand .u64 (ishr .u64 x fromv) (IntKind.wrap .u64 ((ishl .u64 1 bits) - 1)))) H
namespace word_parts_1
set_option maxRecDepth 100000 in
theorem link {fromv : Int} {bits : Int} {cap0 : Option Addr} {H : Array Obj} {R : Value → Array Obj → Prop} (h : pt fromv bits cap0 H R) : C fromv bits cap0 H R := by
 refine S_enter (fn := Tryz.f118) (c := kk0) 13 Tryz.func118 (by kernel_rfl) (by kernel_rfl) (Nat.le_of_ble_eq_true (by kernel_rfl)) ?_
 intro w0 Q hQ
 unfold pt at h
 refine S_sub [(0, .int .i64 fromv), (1, .int .i64 bits), (2, .pointer cap0)] (sb (by kernel_rfl)) ?_
 refine T_sr 0 kk1 kk2 ?_
 refine N_run 1 [(0, .int .i64 fromv), (1, .int .i64 bits), (2, .pointer cap0)] (fun _=>by kernel_rfl) ?_
 refine T_e ?_
 refine S_seq kk3 kk4 (by kernel_rfl) ?_
 refine S_regionQ 1 (Code.ops kk3) (by kernel_rfl) (by kernel_rfl) (by kernel_rfl) ?_
 obtain ⟨cap0A, rfl, h⟩ := h
 obtain ⟨x, q1, h⟩ := h
 refine Q_op (some 6) (loadN 26 (.pointer (some cap0A))) (.int .u64 x) (fun _=>by kernel_rfl) (loadN_run (loadOK_one (fun _=>by kernel_rfl) q1)) [(0, .int .i64 fromv), (1, .int .i64 bits), (6, .int .u64 x)] (ps (by kernel_rfl)) ?_
 refine Q_one (.int .i64 fromv) [(1, .int .i64 bits), (6, .int .u64 x), (7, .int .i64 fromv)] (some 7) (by kernel_rfl) (fun _=>by kernel_rfl) (ps (by kernel_rfl)) ?_
 obtain ⟨q2, h⟩ := h
 refine Q_op (some 8) (binN .shr 25 (.int .u64 x) (.int .i64 fromv)) (.int .u64 (ishr .u64 x fromv)) (fun _=>by kernel_rfl) (fun w _ => shr_run (P := Tryz.prog) (t := 25) (k := .u64) (k' := .i64) (x := x) (y := fromv) q2 w) [(1, .int .i64 bits), (8, .int .u64 (ishr .u64 x fromv))] (ps (by kernel_rfl)) ?_
 refine Q_one (.int .i64 bits) [(8, .int .u64 (ishr .u64 x fromv)), (9, .int .i64 bits)] (some 9) (by kernel_rfl) (fun _=>by kernel_rfl) (ps (by kernel_rfl)) ?_
 obtain ⟨q3, h⟩ := h
 refine Q_op (some 10) (binN .shl 25 (.int .u64 1) (.int .i64 bits)) (.int .u64 (ishl .u64 1 bits)) (fun _=>by kernel_rfl) (fun w _ => shl_run (P := Tryz.prog) (t := 25) (k := .u64) (k' := .i64) (x := 1) (y := bits) q3 w) [(8, .int .u64 (ishr .u64 x fromv)), (10, .int .u64 (ishl .u64 1 bits))] (ps (by kernel_rfl)) ?_
 refine Q_one (.int .u64 (IntKind.wrap .u64 ((ishl .u64 1 bits) - 1))) [(8, .int .u64 (ishr .u64 x fromv)), (11, .int .u64 (IntKind.wrap .u64 ((ishl .u64 1 bits) - 1)))] (some 11) (by kernel_rfl) (fun _=>by kernel_rfl) (ps (by kernel_rfl)) ?_
 refine Q_one (.int .u64 (iand .u64 (ishr .u64 x fromv) (IntKind.wrap .u64 ((ishl .u64 1 bits) - 1)))) [(12, .int .u64 (iand .u64 (ishr .u64 x fromv) (IntKind.wrap .u64 ((ishl .u64 1 bits) - 1))))] (some 12) (by kernel_rfl) (fun _=>by kernel_rfl) (ps (by kernel_rfl)) ?_
 refine Q_one (.int .u64 (iand .u64 (ishr .u64 x fromv) (IntKind.wrap .u64 ((ishl .u64 1 bits) - 1)))) [(5, .int .u64 (iand .u64 (ishr .u64 x fromv) (IntKind.wrap .u64 ((ishl .u64 1 bits) - 1))))] (some 5) (by kernel_rfl) (fun _=>by kernel_rfl) (ps (by kernel_rfl)) ?_
 refine Q_sub [(5, .int .u64 (iand .u64 (ishr .u64 x fromv) (IntKind.wrap .u64 ((ishl .u64 1 bits) - 1))))] (sb (by kernel_rfl)) ?_
 refine Q_end (by kernel_rfl) ?_
 refine S_then ?_
 refine S_ret (by kernel_rfl) ?_
 show At _ _ _ _ _ (Q .ret)
 exact S_done (fn := Tryz.f118) [.int .u64 (iand .u64 (ishr .u64 x fromv) (IntKind.wrap .u64 ((ishl .u64 1 bits) - 1)))] hQ (show ResOK _ _ _ [.tmp 5] _ from .tmp (by kernel_rfl) (.nil)) h
end word_parts_1

end Go.Proofs.YthlohokmnajpoaaGreat
