/-
 Written by a program of mine (gen.py): for functions of this translation a predicate transformer over heaps (.pt), and the proof that it is sound for the call (.link).
-/
import Derived.Test.YtillpfaabdlaiaaFnsC
set_option linter.unusedSimpArgs false
set_option linter.unusedVariables false
set_option maxHeartbeats 1000000
noncomputable section
namespace Go.Proofs.Ytillpfaabdlaiaa
open Go
/-! moraine/word.Header -/
namespace word_Header
def kk0 := Func.code Try.f25
def kk1 := Code.fa kk0
def kk2 := Code.fb kk0
def kk3 := Code.fa kk2
def kk4 := Code.fb kk2
def kk5 := Code.fa kk3
def kk6 := Code.fb kk3
def kk7 := Code.fa kk6
def kk8 := Code.fb kk6
def kk9 := Code.fa kk7
def kk10 := Code.fb kk7
def kk11 := Code.fa kk4
def kk12 := Code.fb kk4
end word_Header
def word_Header.pt (kind : Int) (nv : Int) (more : Int) (H : Array Obj) (R : Value → Array Obj → Prop) : Prop :=
 if (((((decide (kind < 1)) || (decide (kind > 13))) || (decide (nv < 0))) || (decide (nv > 62))) || (decide (more ≥ 281474976710656))) = true then (
 R (.tuple #[.int .u64 0, .int .i64 1]) H)
 else
 R (.tuple #[.int .u64 (ior .u64 (ior .u64 (ior .u64 (ishl .u64 more 16) (ishl .u64 (IntKind.wrap .u64 nv) 8)) (ishl .u64 (IntKind.wrap .u64 kind) 3)) 5), .int .i64 0]) H
namespace word_Header
set_option maxRecDepth 100000 in
theorem link {kind : Int} {nv : Int} {more : Int} {H : Array Obj} {R : Value → Array Obj → Prop} (h : pt kind nv more H R) : C kind nv more H R := by
 refine S_enter (fn := Try.f25) (c := kk0) 37 Try.func25 (by kernel_rfl) (by kernel_rfl) (Nat.le_of_ble_eq_true (by kernel_rfl)) ?_
 intro w0 Q hQ
 unfold pt at h
 refine T_su [(0, vi kind), (1, vi nv), (2, vu more)] ?_
 refine T_sr 0 kk1 kk2 ?_
 refine T_ne 2 [(0, vi kind), (1, vi nv), (2, vu more)] ?_
 refine T_s kk3 kk4 ?_
 refine T_sr 1 kk5 kk6 ?_
 refine N_cut [(0, vi kind), (1, vi nv), (2, vu more), (25, .bool (((((decide (kind < 1)) || (decide (kind > 13))) || (decide (nv < 0))) || (decide (nv > 62))) || (decide (more ≥ 281474976710656))))] ?_ ?_
 ·refine S_then ?_
  by_cases c9 : (((((decide (kind < 1)) || (decide (kind > 13))) || (decide (nv < 0))) || (decide (nv > 62))) || (decide (more ≥ 281474976710656))) = true
  ·rw [if_pos c9] at h
   have b10 : (((((decide (kind < 1)) || (decide (kind > 13))) || (decide (nv < 0))) || (decide (nv > 62))) || (decide (more ≥ 281474976710656))) = true := c9
   refine S_env [(0, vi kind), (1, vi nv), (2, vu more), (25, .bool true)] (by simp only [b10, Bool.not_true, Bool.not_false]) ?_
   clear b10
   refine T_t 25 kk7 kk8 ?_
   refine T_sr 2 kk9 kk10 ?_
   refine T_ne 2 [(6, vu 0), (7, vi 1)] ?_
   refine S_ret (by kernel_rfl) ?_
   show At _ _ _ _ _ (Q .ret)
   exact S_done (fn := Try.f25) [vu 0, vi 1] hQ (show ResOK _ _ _ [.tmp 6, .tmp 7] _ from .tmp (by kernel_rfl) (.tmp (by kernel_rfl) (.nil))) h
  ·rw [if_neg c9] at h
   have b10 : (((((decide (kind < 1)) || (decide (kind > 13))) || (decide (nv < 0))) || (decide (nv > 62))) || (decide (more ≥ 281474976710656))) = false := eq_false_of_ne_true c9
   refine S_env [(0, vi kind), (1, vi nv), (2, vu more), (25, .bool false)] (by simp only [b10, Bool.not_true, Bool.not_false]) ?_
   clear b10
   refine T_f 25 kk7 kk8 ?_
   refine T_kt ?_
   refine T_sr 3 kk11 kk12 ?_
   refine T_ne 13 [(6, vu (ior .u64 (ior .u64 (ior .u64 (ishl .u64 more 16) (ishl .u64 (IntKind.wrap .u64 nv) 8)) (ishl .u64 (IntKind.wrap .u64 kind) 3)) 5)), (7, vi 0)] ?_
   refine S_ret (by kernel_rfl) ?_
   show At _ _ _ _ _ (Q .ret)
   exact S_done (fn := Try.f25) [vu (ior .u64 (ior .u64 (ior .u64 (ishl .u64 more 16) (ishl .u64 (IntKind.wrap .u64 nv) 8)) (ishl .u64 (IntKind.wrap .u64 kind) 3)) 5), vi 0] hQ (show ResOK _ _ _ [.tmp 6, .tmp 7] _ from .tmp (by kernel_rfl) (.tmp (by kernel_rfl) (.nil))) h
 ·intro hk
  refine T_n 3 [(0, vi kind), (1, vi nv), (2, vu more), (10, .bool (decide (kind < 1)))] ?_
  by_cases c1 : kind < 1
  ·have b2 : (decide (kind < 1)) = true := decide_eq_true c1
   refine N_env [(0, vi kind), (1, vi nv), (2, vu more), (10, .bool true)] (by simp only [b2, Bool.not_true, Bool.not_false]) ?_
   refine T_n 15 [(0, vi kind), (1, vi nv), (2, vu more), (25, .bool true)] ?_
   refine N_end (by kernel_rfl) ?_
   refine S_env [(0, vi kind), (1, vi nv), (2, vu more), (25, .bool (((((decide (kind < 1)) || (decide (kind > 13))) || (decide (nv < 0))) || (decide (nv > 62))) || (decide (more ≥ 281474976710656))))] (by simp only [b2, Bool.true_or, Bool.false_or, Bool.or_true, Bool.or_false, Bool.true_and, Bool.false_and, Bool.and_true, Bool.and_false, Bool.not_true, Bool.not_false, cond_true, cond_false]) ?_
   exact hk
  ·have b2 : (decide (kind < 1)) = false := decide_eq_false c1
   refine N_env [(0, vi kind), (1, vi nv), (2, vu more), (10, .bool false)] (by simp only [b2, Bool.not_true, Bool.not_false]) ?_
   refine T_n 4 [(0, vi kind), (1, vi nv), (2, vu more), (14, .bool (decide (kind > 13)))] ?_
   by_cases c3 : kind > 13
   ·have b4 : (decide (kind > 13)) = true := decide_eq_true c3
    refine N_env [(0, vi kind), (1, vi nv), (2, vu more), (14, .bool true)] (by simp only [b4, Bool.not_true, Bool.not_false]) ?_
    refine T_n 11 [(0, vi kind), (1, vi nv), (2, vu more), (25, .bool true)] ?_
    refine N_end (by kernel_rfl) ?_
    refine S_env [(0, vi kind), (1, vi nv), (2, vu more), (25, .bool (((((decide (kind < 1)) || (decide (kind > 13))) || (decide (nv < 0))) || (decide (nv > 62))) || (decide (more ≥ 281474976710656))))] (by simp only [b2, b4, Bool.true_or, Bool.false_or, Bool.or_true, Bool.or_false, Bool.true_and, Bool.false_and, Bool.and_true, Bool.and_false, Bool.not_true, Bool.not_false, cond_true, cond_false]) ?_
    exact hk
   ·have b4 : (decide (kind > 13)) = false := decide_eq_false c3
    refine N_env [(0, vi kind), (1, vi nv), (2, vu more), (14, .bool false)] (by simp only [b4, Bool.not_true, Bool.not_false]) ?_
    refine T_n 4 [(0, vi kind), (1, vi nv), (2, vu more), (18, .bool (decide (nv < 0)))] ?_
    by_cases c5 : nv < 0
    ·have b6 : (decide (nv < 0)) = true := decide_eq_true c5
     refine N_env [(0, vi kind), (1, vi nv), (2, vu more), (18, .bool true)] (by simp only [b6, Bool.not_true, Bool.not_false]) ?_
     refine T_n 7 [(0, vi kind), (1, vi nv), (2, vu more), (25, .bool true)] ?_
     refine N_end (by kernel_rfl) ?_
     refine S_env [(0, vi kind), (1, vi nv), (2, vu more), (25, .bool (((((decide (kind < 1)) || (decide (kind > 13))) || (decide (nv < 0))) || (decide (nv > 62))) || (decide (more ≥ 281474976710656))))] (by simp only [b2, b4, b6, Bool.true_or, Bool.false_or, Bool.or_true, Bool.or_false, Bool.true_and, Bool.false_and, Bool.and_true, Bool.and_false, Bool.not_true, Bool.not_false, cond_true, cond_false]) ?_
     exact hk
    ·have b6 : (decide (nv < 0)) = false := decide_eq_false c5
     refine N_env [(0, vi kind), (1, vi nv), (2, vu more), (18, .bool false)] (by simp only [b6, Bool.not_true, Bool.not_false]) ?_
     refine T_n 4 [(0, vi kind), (1, vi nv), (2, vu more), (22, .bool (decide (nv > 62)))] ?_
     by_cases c7 : nv > 62
     ·have b8 : (decide (nv > 62)) = true := decide_eq_true c7
      refine N_env [(0, vi kind), (1, vi nv), (2, vu more), (22, .bool true)] (by simp only [b8, Bool.not_true, Bool.not_false]) ?_
      refine T_n 3 [(0, vi kind), (1, vi nv), (2, vu more), (25, .bool true)] ?_
      refine N_end (by kernel_rfl) ?_
      refine S_env [(0, vi kind), (1, vi nv), (2, vu more), (25, .bool (((((decide (kind < 1)) || (decide (kind > 13))) || (decide (nv < 0))) || (decide (nv > 62))) || (decide (more ≥ 281474976710656))))] (by simp only [b2, b4, b6, b8, Bool.true_or, Bool.false_or, Bool.or_true, Bool.or_false, Bool.true_and, Bool.false_and, Bool.and_true, Bool.and_false, Bool.not_true, Bool.not_false, cond_true, cond_false]) ?_
      exact hk
     ·have b8 : (decide (nv > 62)) = false := decide_eq_false c7
      refine N_env [(0, vi kind), (1, vi nv), (2, vu more), (22, .bool false)] (by simp only [b8, Bool.not_true, Bool.not_false]) ?_
      refine T_n 3 [(0, vi kind), (1, vi nv), (2, vu more), (25, .bool (decide (more ≥ 281474976710656)))] ?_
      refine N_end (by kernel_rfl) ?_
      refine S_env [(0, vi kind), (1, vi nv), (2, vu more), (25, .bool (((((decide (kind < 1)) || (decide (kind > 13))) || (decide (nv < 0))) || (decide (nv > 62))) || (decide (more ≥ 281474976710656))))] (by simp only [b2, b4, b6, b8, Bool.true_or, Bool.false_or, Bool.or_true, Bool.or_false, Bool.true_and, Bool.false_and, Bool.and_true, Bool.and_false, Bool.not_true, Bool.not_false, cond_true, cond_false]) ?_
      exact hk
end word_Header

/-! moraine/word.Fix -/
namespace word_Fix
def kk0 := Func.code Try.f30
def kk1 := Code.fa kk0
def kk2 := Code.fb kk0
def kk3 := Code.fa kk2
def kk4 := Code.fb kk2
def kk5 := Code.fa kk3
def kk6 := Code.fb kk3
def kk7 := Code.fa kk6
def kk8 := Code.fb kk6
def kk9 := Code.fa kk7
def kk10 := Code.fb kk7
def kk11 := Code.fa kk4
def kk12 := Code.fb kk4
end word_Fix
def word_Fix.pt (x : Int) (H : Array Obj) (R : Value → Array Obj → Prop) : Prop :=
 if ((decide (x < (-1152921504606846976))) || (decide (x ≥ 1152921504606846976))) = true then (
 R (.tuple #[.int .u64 0, .int .i64 4]) H)
 else
 R (.tuple #[.int .u64 (IntKind.wrap .u64 (ishl .i64 x 3)), .int .i64 0]) H
namespace word_Fix
set_option maxRecDepth 100000 in
theorem link {x : Int} {H : Array Obj} {R : Value → Array Obj → Prop} (h : pt x H R) : C x H R := by
 refine S_enter (fn := Try.f30) (c := kk0) 13 Try.func30 (by kernel_rfl) (by kernel_rfl) (Nat.le_of_ble_eq_true (by kernel_rfl)) ?_
 intro w0 Q hQ
 unfold pt at h
 refine T_su [(0, vi x)] ?_
 refine T_sr 0 kk1 kk2 ?_
 refine T_ne 2 [(0, vi x)] ?_
 refine T_s kk3 kk4 ?_
 refine T_sr 1 kk5 kk6 ?_
 refine N_cut [(0, vi x), (9, .bool ((decide (x < (-1152921504606846976))) || (decide (x ≥ 1152921504606846976))))] ?_ ?_
 ·refine S_then ?_
  by_cases c3 : ((decide (x < (-1152921504606846976))) || (decide (x ≥ 1152921504606846976))) = true
  ·rw [if_pos c3] at h
   have b4 : ((decide (x < (-1152921504606846976))) || (decide (x ≥ 1152921504606846976))) = true := c3
   refine S_env [(0, vi x), (9, .bool true)] (by simp only [b4, Bool.not_true, Bool.not_false]) ?_
   clear b4
   refine T_t 9 kk7 kk8 ?_
   refine T_sr 2 kk9 kk10 ?_
   refine T_ne 2 [(2, vu 0), (3, vi 4)] ?_
   refine S_ret (by kernel_rfl) ?_
   show At _ _ _ _ _ (Q .ret)
   exact S_done (fn := Try.f30) [vu 0, vi 4] hQ (show ResOK _ _ _ [.tmp 2, .tmp 3] _ from .tmp (by kernel_rfl) (.tmp (by kernel_rfl) (.nil))) h
  ·rw [if_neg c3] at h
   have b4 : ((decide (x < (-1152921504606846976))) || (decide (x ≥ 1152921504606846976))) = false := eq_false_of_ne_true c3
   refine S_env [(0, vi x), (9, .bool false)] (by simp only [b4, Bool.not_true, Bool.not_false]) ?_
   clear b4
   refine T_f 9 kk7 kk8 ?_
   refine T_kt ?_
   refine T_sr 3 kk11 kk12 ?_
   refine T_ne 5 [(2, vu (IntKind.wrap .u64 (ishl .i64 x 3))), (3, vi 0)] ?_
   refine S_ret (by kernel_rfl) ?_
   show At _ _ _ _ _ (Q .ret)
   exact S_done (fn := Try.f30) [vu (IntKind.wrap .u64 (ishl .i64 x 3)), vi 0] hQ (show ResOK _ _ _ [.tmp 2, .tmp 3] _ from .tmp (by kernel_rfl) (.tmp (by kernel_rfl) (.nil))) h
 ·intro hk
  refine T_n 3 [(0, vi x), (6, .bool (decide (x < (-1152921504606846976))))] ?_
  by_cases c1 : x < (-1152921504606846976)
  ·have b2 : (decide (x < (-1152921504606846976))) = true := decide_eq_true c1
   refine N_env [(0, vi x), (6, .bool true)] (by simp only [b2, Bool.not_true, Bool.not_false]) ?_
   refine T_n 3 [(0, vi x), (9, .bool true)] ?_
   refine N_end (by kernel_rfl) ?_
   refine S_env [(0, vi x), (9, .bool ((decide (x < (-1152921504606846976))) || (decide (x ≥ 1152921504606846976))))] (by simp only [b2, Bool.true_or, Bool.false_or, Bool.or_true, Bool.or_false, Bool.true_and, Bool.false_and, Bool.and_true, Bool.and_false, Bool.not_true, Bool.not_false, cond_true, cond_false]) ?_
   exact hk
  ·have b2 : (decide (x < (-1152921504606846976))) = false := decide_eq_false c1
   refine N_env [(0, vi x), (6, .bool false)] (by simp only [b2, Bool.not_true, Bool.not_false]) ?_
   refine T_n 3 [(0, vi x), (9, .bool (decide (x ≥ 1152921504606846976)))] ?_
   refine N_end (by kernel_rfl) ?_
   refine S_env [(0, vi x), (9, .bool ((decide (x < (-1152921504606846976))) || (decide (x ≥ 1152921504606846976))))] (by simp only [b2, Bool.true_or, Bool.false_or, Bool.or_true, Bool.or_false, Bool.true_and, Bool.false_and, Bool.and_true, Bool.and_false, Bool.not_true, Bool.not_false, cond_true, cond_false]) ?_
   exact hk
end word_Fix

/-! moraine/word.Addr -/
namespace word_Addr
def kk0 := Func.code Try.f33
def kk1 := Code.fa kk0
def kk2 := Code.fb kk0
def kk3 := Code.fa kk2
def kk4 := Code.fb kk2
def kk5 := Code.fa kk3
def kk6 := Code.fb kk3
def kk7 := Code.fa kk6
def kk8 := Code.fb kk6
def kk9 := Code.fa kk4
def kk10 := Code.fb kk4
def kk11 := Code.fa kk7
def kk12 := Code.fb kk7
end word_Addr
def word_Addr.pt (wv : Int) (H : Array Obj) (R : Value → Array Obj → Prop) : Prop :=
 word_Tag.C wv H (fun v H1 => ∃ x : Int, v = .int .i64 x ∧ 
 word_place.C x H1 (fun d H2 => ∃ b : Bool, d = .bool b ∧ 
 if b = true then (
 word_May.C wv H2 (fun e H3 => ∃ a : Bool, e = .bool a ∧ 
 if a = true then (
 R (.tuple #[.int .i64 (IntKind.wrap .i64 (ishr .u64 wv 3)), .bool true]) H3)
 else
 R (.tuple #[.int .i64 0, .bool false]) H3))
 else
 R (.tuple #[.int .i64 0, .bool false]) H2))
namespace word_Addr
set_option maxRecDepth 100000 in
theorem link {wv : Int} {H : Array Obj} {R : Value → Array Obj → Prop} (h : pt wv H R) : C wv H R := by
 refine S_enter (fn := Try.f33) (c := kk0) 16 Try.func33 (by kernel_rfl) (by kernel_rfl) (Nat.le_of_ble_eq_true (by kernel_rfl)) ?_
 intro w0 Q hQ
 unfold pt at h
 refine T_su [(0, vu wv)] ?_
 refine T_sr 0 kk1 kk2 ?_
 refine T_ne 2 [(0, vu wv)] ?_
 refine T_s kk3 kk4 ?_
 refine T_sr 1 kk5 kk6 ?_
 refine T_n 1 [(0, vu wv), (4, vu wv)] ?_
 refine N_call (some 5) 35 #[vu wv] (fun _=>by kernel_rfl) h ?_; clear h
 rintro v H1 ⟨x, rfl, h⟩
 refine ⟨[(0, vu wv), (5, vi x)], pk, ?_⟩
 refine N_call (some 6) 54 #[vi x] (fun _=>by kernel_rfl) h ?_; clear h
 rintro d H2 ⟨b, rfl, h⟩
 refine ⟨[(0, vu wv), (6, .bool b)], pk, ?_⟩
 refine T_n 2 [(0, vu wv), (8, .bool (!b))] ?_
 by_cases c1 : b = true
 ·rw [if_pos c1] at h
  have b2 : (!b) = false := congrArg Bool.not (c1)
  have b22 : b = true := c1
  refine N_env [(0, vu wv), (8, .bool false)] (by simp only [b2, b22, Bool.not_true, Bool.not_false]) ?_
  clear b2 b22
  refine T_n 1 [(0, vu wv), (8, .bool false), (9, vu wv)] ?_
  refine N_call (some 10) 55 #[vu wv] (fun _=>by kernel_rfl) h ?_; clear h
  rintro e H3 ⟨a, rfl, h⟩
  refine ⟨[(0, vu wv), (8, .bool false), (10, .bool a)], pk, ?_⟩
  refine T_ne 2 [(0, vu wv), (12, .bool (!a))] ?_
  by_cases c3 : a = true
  ·rw [if_pos c3] at h
   have b4 : (!a) = false := congrArg Bool.not (c3)
   have b42 : a = true := c3
   refine S_env [(0, vu wv), (12, .bool false)] (by simp only [b4, b42, Bool.not_true, Bool.not_false]) ?_
   clear b4 b42
   refine T_f 12 kk7 kk8 ?_
   refine T_kt ?_
   refine T_sr 3 kk9 kk10 ?_
   refine T_ne 5 [(2, vi (IntKind.wrap .i64 (ishr .u64 wv 3))), (3, .bool true)] ?_
   refine S_ret (by kernel_rfl) ?_
   show At _ _ _ _ _ (Q .ret)
   exact S_done (fn := Try.f33) [vi (IntKind.wrap .i64 (ishr .u64 wv 3)), .bool true] hQ (show ResOK _ _ _ [.tmp 2, .tmp 3] _ from .tmp (by kernel_rfl) (.tmp (by kernel_rfl) (.nil))) h
  ·rw [if_neg c3] at h
   have b4 : (!a) = true := congrArg Bool.not (eq_false_of_ne_true c3)
   have b42 : a = false := eq_false_of_ne_true c3
   refine S_env [(0, vu wv), (12, .bool true)] (by simp only [b4, b42, Bool.not_true, Bool.not_false]) ?_
   clear b4 b42
   refine T_t 12 kk7 kk8 ?_
   refine T_sr 2 kk11 kk12 ?_
   refine T_ne 2 [(2, vi 0), (3, .bool false)] ?_
   refine S_ret (by kernel_rfl) ?_
   show At _ _ _ _ _ (Q .ret)
   exact S_done (fn := Try.f33) [vi 0, .bool false] hQ (show ResOK _ _ _ [.tmp 2, .tmp 3] _ from .tmp (by kernel_rfl) (.tmp (by kernel_rfl) (.nil))) h
 ·rw [if_neg c1] at h
  have b2 : (!b) = true := congrArg Bool.not (eq_false_of_ne_true c1)
  have b22 : b = false := eq_false_of_ne_true c1
  refine N_env [(0, vu wv), (8, .bool true)] (by simp only [b2, b22, Bool.not_true, Bool.not_false]) ?_
  clear b2 b22
  refine T_ne 4 [(0, vu wv), (12, .bool true)] ?_
  refine T_t 12 kk7 kk8 ?_
  refine T_sr 2 kk11 kk12 ?_
  refine T_ne 2 [(2, vi 0), (3, .bool false)] ?_
  refine S_ret (by kernel_rfl) ?_
  show At _ _ _ _ _ (Q .ret)
  exact S_done (fn := Try.f33) [vi 0, .bool false] hQ (show ResOK _ _ _ [.tmp 2, .tmp 3] _ from .tmp (by kernel_rfl) (.tmp (by kernel_rfl) (.nil))) h
end word_Addr

/-! moraine/word.Tag -/
namespace word_Tag
def kk0 := Func.code Try.f35
def kk1 := Code.fa kk0
def kk2 := Code.fb kk0
def kk3 := Code.fa kk2
def kk4 := Code.fb kk2
end word_Tag
def word_Tag.pt (wv : Int) (H : Array Obj) (R : Value → Array Obj → Prop) : Prop :=
 R (.int .i64 (IntKind.wrap .i64 (iand .u64 wv 7))) H
namespace word_Tag
set_option maxRecDepth 100000 in
theorem link {wv : Int} {H : Array Obj} {R : Value → Array Obj → Prop} (h : pt wv H R) : C wv H R := by
 refine S_enter (fn := Try.f35) (c := kk0) 6 Try.func35 (by kernel_rfl) (by kernel_rfl) (Nat.le_of_ble_eq_true (by kernel_rfl)) ?_
 intro w0 Q hQ
 unfold pt at h
 refine T_su [(0, vu wv)] ?_
 refine T_sr 0 kk1 kk2 ?_
 refine T_ne 1 [(0, vu wv)] ?_
 refine T_sr 1 kk3 kk4 ?_
 refine T_ne 4 [(2, vi (IntKind.wrap .i64 (iand .u64 wv 7)))] ?_
 refine S_ret (by kernel_rfl) ?_
 show At _ _ _ _ _ (Q .ret)
 exact S_done (fn := Try.f35) [vi (IntKind.wrap .i64 (iand .u64 wv 7))] hQ (show ResOK _ _ _ [.tmp 2] _ from .tmp (by kernel_rfl) (.nil)) h
end word_Tag

/-! moraine/word.At -/
namespace word_At
def kk0 := Func.code Try.f47
def kk1 := Code.fa kk0
def kk2 := Code.fb kk0
def kk3 := Code.fa kk2
def kk4 := Code.fb kk2
def kk5 := Code.fa kk3
def kk6 := Code.fa kk5
def kk7 := Code.fb kk5
def kk8 := Code.fa kk7
def kk9 := Code.fb kk7
def kk10 := Code.fa kk9
def kk11 := Code.fb kk9
def kk12 := Code.fa kk11
def kk13 := Code.fb kk11
def kk14 := Code.fa kk12
def kk15 := Code.fb kk12
def kk16 := Code.fa kk4
def kk17 := Code.fb kk4
def kk18 := Code.fa kk8
def kk19 := Code.fb kk8
end word_At
def word_At.pt (tag : Int) (addr : Int) (H : Array Obj) (R : Value → Array Obj → Prop) : Prop :=
 word_place.C tag H (fun v H1 => ∃ x : Bool, v = .bool x ∧ 
 if x = true then (
 if ((decide (addr < 0)) || (decide (addr ≥ 65536))) = true then (
 R (.tuple #[.int .u64 0, .int .i64 18]) H1)
 else
 R (.tuple #[.int .u64 (ior .u64 (ishl .u64 (IntKind.wrap .u64 addr) 3) (IntKind.wrap .u64 tag)), .int .i64 0]) H1)
 else
 R (.tuple #[.int .u64 0, .int .i64 1]) H1)
namespace word_At
set_option maxRecDepth 100000 in
theorem link {tag : Int} {addr : Int} {H : Array Obj} {R : Value → Array Obj → Prop} (h : pt tag addr H R) : C tag addr H R := by
 refine S_enter (fn := Try.f47) (c := kk0) 23 Try.func47 (by kernel_rfl) (by kernel_rfl) (Nat.le_of_ble_eq_true (by kernel_rfl)) ?_
 intro w0 Q hQ
 unfold pt at h
 refine T_su [(0, vi tag), (1, vi addr)] ?_
 refine T_sr 0 kk1 kk2 ?_
 refine T_ne 2 [(0, vi tag), (1, vi addr)] ?_
 refine T_s kk3 kk4 ?_
 refine T_b 0 kk5 ?_
 refine T_sr 1 kk6 kk7 ?_
 refine T_n 1 [(0, vi tag), (1, vi addr), (7, vi tag)] ?_
 refine N_call (some 8) 54 #[vi tag] (fun _=>by kernel_rfl) h ?_; clear h
 rintro v H1 ⟨x, rfl, h⟩
 refine ⟨[(0, vi tag), (1, vi addr), (8, .bool x)], pk, ?_⟩
 refine T_ne 2 [(0, vi tag), (1, vi addr), (6, .bool (!x))] ?_
 by_cases c1 : x = true
 ·rw [if_pos c1] at h
  have b2 : (!x) = false := congrArg Bool.not (c1)
  have b22 : x = true := c1
  refine S_env [(0, vi tag), (1, vi addr), (6, .bool false)] (by simp only [b2, b22, Bool.not_true, Bool.not_false]) ?_
  clear b2 b22
  refine T_f 6 kk8 kk9 ?_
  refine T_sr 3 kk10 kk11 ?_
  refine N_cut [(0, vi tag), (1, vi addr), (10, .bool ((decide (addr < 0)) || (decide (addr ≥ 65536))))] ?_ ?_
  ·refine S_then ?_
   by_cases c5 : ((decide (addr < 0)) || (decide (addr ≥ 65536))) = true
   ·rw [if_pos c5] at h
    have b6 : ((decide (addr < 0)) || (decide (addr ≥ 65536))) = true := c5
    refine S_env [(0, vi tag), (1, vi addr), (10, .bool true)] (by simp only [b6, Bool.not_true, Bool.not_false]) ?_
    clear b6
    refine T_t 10 kk12 kk13 ?_
    refine T_sr 4 kk14 kk15 ?_
    refine T_ne 2 [(4, vu 0), (5, vi 18)] ?_
    refine S_ret (by kernel_rfl) ?_
    show At _ _ _ _ _ (Q .ret)
    exact S_done (fn := Try.f47) [vu 0, vi 18] hQ (show ResOK _ _ _ [.tmp 4, .tmp 5] _ from .tmp (by kernel_rfl) (.tmp (by kernel_rfl) (.nil))) h
   ·rw [if_neg c5] at h
    have b6 : ((decide (addr < 0)) || (decide (addr ≥ 65536))) = false := eq_false_of_ne_true c5
    refine S_env [(0, vi tag), (1, vi addr), (10, .bool false)] (by simp only [b6, Bool.not_true, Bool.not_false]) ?_
    clear b6
    refine T_f 10 kk12 kk13 ?_
    refine T_k ?_
    refine S_blockEnd ?_
    refine S_then ?_
    refine T_sr 5 kk16 kk17 ?_
    refine T_ne 8 [(4, vu (ior .u64 (ishl .u64 (IntKind.wrap .u64 addr) 3) (IntKind.wrap .u64 tag))), (5, vi 0)] ?_
    refine S_ret (by kernel_rfl) ?_
    show At _ _ _ _ _ (Q .ret)
    exact S_done (fn := Try.f47) [vu (ior .u64 (ishl .u64 (IntKind.wrap .u64 addr) 3) (IntKind.wrap .u64 tag)), vi 0] hQ (show ResOK _ _ _ [.tmp 4, .tmp 5] _ from .tmp (by kernel_rfl) (.tmp (by kernel_rfl) (.nil))) h
  ·intro hk
   refine T_n 3 [(0, vi tag), (1, vi addr), (13, .bool (decide (addr < 0)))] ?_
   by_cases c3 : addr < 0
   ·have b4 : (decide (addr < 0)) = true := decide_eq_true c3
    refine N_env [(0, vi tag), (1, vi addr), (13, .bool true)] (by simp only [b4, Bool.not_true, Bool.not_false]) ?_
    refine T_n 4 [(0, vi tag), (1, vi addr), (10, .bool true)] ?_
    refine N_end (by kernel_rfl) ?_
    refine S_env [(0, vi tag), (1, vi addr), (10, .bool ((decide (addr < 0)) || (decide (addr ≥ 65536))))] (by simp only [b4, Bool.true_or, Bool.false_or, Bool.or_true, Bool.or_false, Bool.true_and, Bool.false_and, Bool.and_true, Bool.and_false, Bool.not_true, Bool.not_false, cond_true, cond_false]) ?_
    exact hk
   ·have b4 : (decide (addr < 0)) = false := decide_eq_false c3
    refine N_env [(0, vi tag), (1, vi addr), (13, .bool false)] (by simp only [b4, Bool.not_true, Bool.not_false]) ?_
    refine T_n 4 [(0, vi tag), (1, vi addr), (10, .bool (decide (addr ≥ 65536)))] ?_
    refine N_end (by kernel_rfl) ?_
    refine S_env [(0, vi tag), (1, vi addr), (10, .bool ((decide (addr < 0)) || (decide (addr ≥ 65536))))] (by simp only [b4, Bool.true_or, Bool.false_or, Bool.or_true, Bool.or_false, Bool.true_and, Bool.false_and, Bool.and_true, Bool.and_false, Bool.not_true, Bool.not_false, cond_true, cond_false]) ?_
    exact hk
 ·rw [if_neg c1] at h
  have b2 : (!x) = true := congrArg Bool.not (eq_false_of_ne_true c1)
  have b22 : x = false := eq_false_of_ne_true c1
  refine S_env [(0, vi tag), (1, vi addr), (6, .bool true)] (by simp only [b2, b22, Bool.not_true, Bool.not_false]) ?_
  clear b2 b22
  refine T_t 6 kk8 kk9 ?_
  refine T_sr 2 kk18 kk19 ?_
  refine T_ne 2 [(4, vu 0), (5, vi 1)] ?_
  refine S_ret (by kernel_rfl) ?_
  show At _ _ _ _ _ (Q .ret)
  exact S_done (fn := Try.f47) [vu 0, vi 1] hQ (show ResOK _ _ _ [.tmp 4, .tmp 5] _ from .tmp (by kernel_rfl) (.tmp (by kernel_rfl) (.nil))) h
end word_At

/-! moraine/word.Head -/
namespace word_Head
def kk0 := Func.code Try.f53
def kk1 := Code.fa kk0
def kk2 := Code.fb kk0
def kk3 := Code.fa kk2
def kk4 := Code.fb kk2
def kk5 := Code.fa kk3
def kk6 := Code.fb kk3
def kk7 := Code.fa kk6
def kk8 := Code.fb kk6
def kk9 := Code.fa kk4
def kk10 := Code.fb kk4
def kk11 := Code.fa kk10
def kk12 := Code.fb kk10
def kk13 := Code.fa kk7
def kk14 := Code.fb kk7
end word_Head
def word_Head.pt (wv : Int) (H : Array Obj) (R : Value → Array Obj → Prop) : Prop :=
 word_Tag.C wv H (fun v H1 => ∃ x : Int, v = .int .i64 x ∧ 
 if x = 5 then (
 word_May.C wv H1 (fun b H2 => ∃ a : Bool, b = .bool a ∧ 
 if a = true then (
 word_parts.C wv H2 (fun d H3 => ∃ ra : Int, ∃ rb : Int, ∃ rc : Int, d = .tuple #[.int .i64 ra, .int .i64 rb, .int .u64 rc] ∧ 
 R (.tuple #[.int .i64 ra, .int .i64 rb, .int .u64 rc, .bool true]) H3))
 else
 R (.tuple #[.int .i64 0, .int .i64 0, .int .u64 0, .bool false]) H2))
 else
 R (.tuple #[.int .i64 0, .int .i64 0, .int .u64 0, .bool false]) H1)
namespace word_Head
set_option maxRecDepth 100000 in
theorem link {wv : Int} {H : Array Obj} {R : Value → Array Obj → Prop} (h : pt wv H R) : C wv H R := by
 refine S_enter (fn := Try.f53) (c := kk0) 23 Try.func53 (by kernel_rfl) (by kernel_rfl) (Nat.le_of_ble_eq_true (by kernel_rfl)) ?_
 intro w0 Q hQ
 unfold pt at h
 refine T_su [(0, vu wv)] ?_
 refine T_sr 0 kk1 kk2 ?_
 refine T_ne 4 [(0, vu wv)] ?_
 refine T_s kk3 kk4 ?_
 refine T_sr 1 kk5 kk6 ?_
 refine T_n 1 [(0, vu wv), (6, vu wv)] ?_
 refine N_call (some 7) 35 #[vu wv] (fun _=>by kernel_rfl) h ?_; clear h
 rintro v H1 ⟨x, rfl, h⟩
 refine ⟨[(0, vu wv), (7, vi x)], pk, ?_⟩
 refine T_n 2 [(0, vu wv), (9, .bool (x != 5))] ?_
 by_cases c1 : x = 5
 ·rw [if_pos c1] at h
  have b2 : (x != 5) = false := bne_eq_false_iff_eq.mpr c1
  refine N_env [(0, vu wv), (9, .bool false)] (by simp only [b2, Bool.not_true, Bool.not_false]) ?_
  clear b2
  refine T_n 1 [(0, vu wv), (9, .bool false), (10, vu wv)] ?_
  refine N_call (some 11) 55 #[vu wv] (fun _=>by kernel_rfl) h ?_; clear h
  rintro b H2 ⟨a, rfl, h⟩
  refine ⟨[(0, vu wv), (9, .bool false), (11, .bool a)], pk, ?_⟩
  refine T_ne 2 [(0, vu wv), (13, .bool (!a))] ?_
  by_cases c3 : a = true
  ·rw [if_pos c3] at h
   have b4 : (!a) = false := congrArg Bool.not (c3)
   have b42 : a = true := c3
   refine S_env [(0, vu wv), (13, .bool false)] (by simp only [b4, b42, Bool.not_true, Bool.not_false]) ?_
   clear b4 b42
   refine T_f 13 kk7 kk8 ?_
   refine T_kt ?_
   refine T_sr 3 kk9 kk10 ?_
   refine T_n 1 [(15, vu wv)] ?_
   refine N_call (some 16) 70 #[vu wv] (fun _=>by kernel_rfl) h ?_; clear h
   rintro d H3 ⟨ra, rb, rc, rfl, h⟩
   refine ⟨[(16, .tuple #[vi ra, vi rb, vu rc])], pk, ?_⟩
   refine T_ne 7 [(2, vi ra), (3, vi rb), (4, vu rc)] ?_
   refine T_sr 4 kk11 kk12 ?_
   refine T_ne 7 [(2, vi ra), (3, vi rb), (4, vu rc), (5, .bool true)] ?_
   refine S_ret (by kernel_rfl) ?_
   show At _ _ _ _ _ (Q .ret)
   exact S_done (fn := Try.f53) [vi ra, vi rb, vu rc, .bool true] hQ (show ResOK _ _ _ [.tmp 2, .tmp 3, .tmp 4, .tmp 5] _ from .tmp (by kernel_rfl) (.tmp (by kernel_rfl) (.tmp (by kernel_rfl) (.tmp (by kernel_rfl) (.nil))))) h
  ·rw [if_neg c3] at h
   have b4 : (!a) = true := congrArg Bool.not (eq_false_of_ne_true c3)
   have b42 : a = false := eq_false_of_ne_true c3
   refine S_env [(0, vu wv), (13, .bool true)] (by simp only [b4, b42, Bool.not_true, Bool.not_false]) ?_
   clear b4 b42
   refine T_t 13 kk7 kk8 ?_
   refine T_sr 2 kk13 kk14 ?_
   refine T_ne 4 [(2, vi 0), (3, vi 0), (4, vu 0), (5, .bool false)] ?_
   refine S_ret (by kernel_rfl) ?_
   show At _ _ _ _ _ (Q .ret)
   exact S_done (fn := Try.f53) [vi 0, vi 0, vu 0, .bool false] hQ (show ResOK _ _ _ [.tmp 2, .tmp 3, .tmp 4, .tmp 5] _ from .tmp (by kernel_rfl) (.tmp (by kernel_rfl) (.tmp (by kernel_rfl) (.tmp (by kernel_rfl) (.nil))))) h
 ·rw [if_neg c1] at h
  have b2 : (x != 5) = true := bne_iff_ne.mpr c1
  refine N_env [(0, vu wv), (9, .bool true)] (by simp only [b2, Bool.not_true, Bool.not_false]) ?_
  clear b2
  refine T_ne 4 [(0, vu wv), (13, .bool true)] ?_
  refine T_t 13 kk7 kk8 ?_
  refine T_sr 2 kk13 kk14 ?_
  refine T_ne 4 [(2, vi 0), (3, vi 0), (4, vu 0), (5, .bool false)] ?_
  refine S_ret (by kernel_rfl) ?_
  show At _ _ _ _ _ (Q .ret)
  exact S_done (fn := Try.f53) [vi 0, vi 0, vu 0, .bool false] hQ (show ResOK _ _ _ [.tmp 2, .tmp 3, .tmp 4, .tmp 5] _ from .tmp (by kernel_rfl) (.tmp (by kernel_rfl) (.tmp (by kernel_rfl) (.tmp (by kernel_rfl) (.nil))))) h
end word_Head

/-! moraine/word.place -/
namespace word_place
def kk0 := Func.code Try.f54
def kk1 := Code.fa kk0
def kk2 := Code.fb kk0
def kk3 := Code.fa kk2
def kk4 := Code.fb kk2
end word_place
def word_place.pt (tag : Int) (H : Array Obj) (R : Value → Array Obj → Prop) : Prop :=
 R (.bool (((decide (tag ≥ 1)) && (decide (tag ≤ 3))) || (tag == 6))) H
namespace word_place
set_option maxRecDepth 100000 in
theorem link {tag : Int} {H : Array Obj} {R : Value → Array Obj → Prop} (h : pt tag H R) : C tag H R := by
 refine S_enter (fn := Try.f54) (c := kk0) 13 Try.func54 (by kernel_rfl) (by kernel_rfl) (Nat.le_of_ble_eq_true (by kernel_rfl)) ?_
 intro w0 Q hQ
 unfold pt at h
 refine T_su [(0, vi tag)] ?_
 refine T_sr 0 kk1 kk2 ?_
 refine T_ne 1 [(0, vi tag)] ?_
 refine T_sr 1 kk3 kk4 ?_
 refine N_cut [(2, .bool (((decide (tag ≥ 1)) && (decide (tag ≤ 3))) || (tag == 6)))] ?_ ?_
 ·refine S_then ?_
  refine S_ret (by kernel_rfl) ?_
  show At _ _ _ _ _ (Q .ret)
  exact S_done (fn := Try.f54) [.bool (((decide (tag ≥ 1)) && (decide (tag ≤ 3))) || (tag == 6))] hQ (show ResOK _ _ _ [.tmp 2] _ from .tmp (by kernel_rfl) (.nil)) h
 ·intro hk
  refine T_n 3 [(0, vi tag), (5, .bool (decide (tag ≥ 1)))] ?_
  by_cases c1 : tag ≥ 1
  ·have b2 : (decide (tag ≥ 1)) = true := decide_eq_true c1
   refine N_env [(0, vi tag), (5, .bool true)] (by simp only [b2, Bool.not_true, Bool.not_false]) ?_
   refine T_n 4 [(0, vi tag), (9, .bool (decide (tag ≤ 3)))] ?_
   by_cases c3 : tag ≤ 3
   ·have b4 : (decide (tag ≤ 3)) = true := decide_eq_true c3
    refine N_env [(0, vi tag), (9, .bool true)] (by simp only [b4, Bool.not_true, Bool.not_false]) ?_
    refine T_n 4 [(2, .bool true)] ?_
    refine N_end (by kernel_rfl) ?_
    refine S_env [(2, .bool (((decide (tag ≥ 1)) && (decide (tag ≤ 3))) || (tag == 6)))] (by simp only [b2, b4, Bool.true_or, Bool.false_or, Bool.or_true, Bool.or_false, Bool.true_and, Bool.false_and, Bool.and_true, Bool.and_false, Bool.not_true, Bool.not_false, cond_true, cond_false]) ?_
    exact hk
   ·have b4 : (decide (tag ≤ 3)) = false := decide_eq_false c3
    refine N_env [(0, vi tag), (9, .bool false)] (by simp only [b4, Bool.not_true, Bool.not_false]) ?_
    refine T_n 4 [(2, .bool (tag == 6))] ?_
    refine N_end (by kernel_rfl) ?_
    refine S_env [(2, .bool (((decide (tag ≥ 1)) && (decide (tag ≤ 3))) || (tag == 6)))] (by simp only [b2, b4, Bool.true_or, Bool.false_or, Bool.or_true, Bool.or_false, Bool.true_and, Bool.false_and, Bool.and_true, Bool.and_false, Bool.not_true, Bool.not_false, cond_true, cond_false]) ?_
    exact hk
  ·have b2 : (decide (tag ≥ 1)) = false := decide_eq_false c1
   refine N_env [(0, vi tag), (5, .bool false)] (by simp only [b2, Bool.not_true, Bool.not_false]) ?_
   refine T_n 8 [(2, .bool (tag == 6))] ?_
   refine N_end (by kernel_rfl) ?_
   refine S_env [(2, .bool (((decide (tag ≥ 1)) && (decide (tag ≤ 3))) || (tag == 6)))] (by simp only [b2, Bool.true_or, Bool.false_or, Bool.or_true, Bool.or_false, Bool.true_and, Bool.false_and, Bool.and_true, Bool.and_false, Bool.not_true, Bool.not_false, cond_true, cond_false]) ?_
   exact hk
end word_place

/-! moraine/word.May -/
namespace word_May
def kk0 := Func.code Try.f55
def kk1 := Code.fa kk0
def kk2 := Code.fb kk0
def kk3 := Code.fa kk2
def kk4 := Code.fb kk2
def kk5 := Code.fa kk4
def kk6 := Code.fb kk4
def kk7 := Code.fa kk5
def kk8 := Code.fb kk5
def kk9 := Code.fa kk8
def kk10 := Code.fa kk9
def kk11 := Code.fb kk9
def kk12 := Code.fa kk10
def kk13 := Code.fa kk12
def kk14 := Code.fb kk12
def kk15 := Code.fa kk13
def kk16 := Code.fa kk15
def kk17 := Code.fb kk15
def kk18 := Code.fa kk16
def kk19 := Code.fa kk18
def kk20 := Code.fa kk19
def kk21 := Code.fa kk20
def kk22 := Code.fa kk21
def kk23 := Code.fb kk21
def kk24 := Code.fa kk22
def kk25 := Code.fa kk24
def kk26 := Code.fb kk24
def kk27 := Code.fa kk25
def kk28 := Code.fb kk25
def kk29 := Code.fa kk27
def kk30 := Code.fb kk27
def kk31 := Code.fa kk30
def kk32 := Code.fb kk30
def kk33 := Code.fa kk23
def kk34 := Code.fb kk23
def kk35 := Code.fa kk33
def kk36 := Code.fb kk33
def kk37 := Code.fa kk28
def kk38 := Code.fb kk28
def kk39 := Code.fa kk37
def kk40 := Code.fb kk37
def kk41 := Code.fa kk40
def kk42 := Code.fb kk40
def kk43 := Code.fa kk17
def kk44 := Code.fb kk17
def kk45 := Code.fa kk43
def kk46 := Code.fb kk43
def kk47 := Code.fa kk38
def kk48 := Code.fb kk38
def kk49 := Code.fa kk47
def kk50 := Code.fb kk47
def kk51 := Code.fa kk50
def kk52 := Code.fb kk50
def kk53 := Code.fa kk48
def kk54 := Code.fb kk48
def kk55 := Code.fa kk53
def kk56 := Code.fb kk53
def kk57 := Code.fa kk56
def kk58 := Code.fb kk56
def kk59 := Code.fa kk54
def kk60 := Code.fb kk54
def kk61 := Code.fa kk59
def kk62 := Code.fb kk59
def kk63 := Code.fa kk62
def kk64 := Code.fb kk62
def kk65 := Code.fa kk60
def kk66 := Code.fb kk60
def kk67 := Code.fa kk65
def kk68 := Code.fb kk65
def kk69 := Code.fa kk68
def kk70 := Code.fb kk68
def kk71 := Code.fa kk14
def kk72 := Code.fb kk14
def kk73 := Code.fa kk71
def kk74 := Code.fb kk71
def kk75 := Code.fa kk73
def kk76 := Code.fb kk73
def kk77 := Code.fa kk76
def kk78 := Code.fb kk76
def kk79 := Code.fa kk77
def kk80 := Code.fb kk77
def kk81 := Code.fa kk74
def kk82 := Code.fb kk74
def kk83 := Code.fa kk66
def kk84 := Code.fb kk66
def kk85 := Code.fa kk84
def kk86 := Code.fb kk84
def kk87 := Code.fa kk11
def kk88 := Code.fb kk11
def kk89 := Code.fa kk87
def kk90 := Code.fb kk87
def kk91 := Code.fa kk6
def kk92 := Code.fb kk6
end word_May
def word_May.pt (wv : Int) (H : Array Obj) (R : Value → Array Obj → Prop) : Prop :=
 word_parts.C wv H (fun v H1 => ∃ ra : Int, ∃ rb : Int, ∃ rc : Int, v = .tuple #[.int .i64 ra, .int .i64 rb, .int .u64 rc] ∧ 
 word_Tag.C wv H1 (fun b H2 => ∃ x : Int, b = .int .i64 x ∧ 
 if x = 0 then (
 R (.bool true) H2)
 else
 if x = 1 then (
 R (.bool (decide ((ishr .u64 wv 3) < 65536))) H2)
 else
 if x = 2 then (
 R (.bool (decide ((ishr .u64 wv 3) < 65536))) H2)
 else
 if x = 3 then (
 R (.bool (decide ((ishr .u64 wv 3) < 65536))) H2)
 else
 if x = 6 then (
 R (.bool (decide ((ishr .u64 wv 3) < 65536))) H2)
 else
 if x = 4 then (
 if ra = 7 then (
 word_letter.C (ishr .u64 wv 8) H2 (fun d H3 => ∃ a : Bool, d = .bool a ∧ 
 R (.bool a) H3))
 else
 R (.bool (decide ((ishr .u64 wv 3) ≤ 6))) H2)
 else
 if x = 5 then (
 R (.bool (((decide (ra ≥ 1)) && (decide (ra ≤ 13))) && (decide (rb ≤ 62)))) H2)
 else
 R (.bool false) H2))
namespace word_May
set_option maxRecDepth 100000 in
theorem link {wv : Int} {H : Array Obj} {R : Value → Array Obj → Prop} (h : pt wv H R) : C wv H R := by
 refine S_enter (fn := Try.f55) (c := kk0) 49 Try.func55 (by kernel_rfl) (by kernel_rfl) (Nat.le_of_ble_eq_true (by kernel_rfl)) ?_
 intro w0 Q hQ
 unfold pt at h
 refine T_su [(0, vu wv)] ?_
 refine T_sr 0 kk1 kk2 ?_
 refine T_ne 1 [(0, vu wv)] ?_
 refine T_sr 1 kk3 kk4 ?_
 refine T_n 1 [(0, vu wv), (7, vu wv)] ?_
 refine N_call (some 8) 70 #[vu wv] (fun _=>by kernel_rfl) h ?_; clear h
 rintro v H1 ⟨ra, rb, rc, rfl, h⟩
 refine ⟨[(0, vu wv), (8, .tuple #[vi ra, vi rb, vu rc])], pk, ?_⟩
 refine T_ne 7 [(0, vu wv), (3, vi ra), (4, vi rb)] ?_
 refine T_s kk5 kk6 ?_
 refine T_sr 2 kk7 kk8 ?_
 refine T_n 1 [(0, vu wv), (3, vi ra), (4, vi rb), (12, vu wv)] ?_
 refine N_call (some 13) 35 #[vu wv] (fun _=>by kernel_rfl) h ?_; clear h
 rintro b H2 ⟨x, rfl, h⟩
 refine ⟨[(0, vu wv), (3, vi ra), (4, vi rb), (13, vi x)], pk, ?_⟩
 refine T_e ?_
 refine T_b 0 kk9 ?_
 refine T_s kk10 kk11 ?_
 refine T_b 7 kk12 ?_
 refine T_s kk13 kk14 ?_
 refine T_b 6 kk15 ?_
 refine T_s kk16 kk17 ?_
 refine T_b 5 kk18 ?_
 refine T_b 4 kk19 ?_
 refine T_b 3 kk20 ?_
 refine T_b 2 kk21 ?_
 refine T_s kk22 kk23 ?_
 refine T_b 1 kk24 ?_
 refine T_s kk25 kk26 ?_
 refine T_s kk27 kk28 ?_
 refine T_sr 3 kk29 kk30 ?_
 refine T_ne 2 [(0, vu wv), (3, vi ra), (4, vi rb), (13, vi x), (14, .bool (x == 0))] ?_
 by_cases c1 : x = 0
 ·rw [if_pos c1] at h
  have b2 : (x == 0) = true := beq_iff_eq.mpr c1
  refine S_env [(0, vu wv), (3, vi ra), (4, vi rb), (13, vi x), (14, .bool true)] (by simp only [b2, Bool.not_true, Bool.not_false]) ?_
  clear b2
  refine T_t 14 kk31 kk32 ?_
  refine S_exit 1 (by kernel_rfl) ?_
  refine S_exitThen ?_
  refine S_exitThen ?_
  refine S_exitHere ?_
  refine S_then ?_
  refine T_s kk33 kk34 ?_
  refine T_sr 10 kk35 kk36 ?_
  refine T_ne 1 [(2, .bool true)] ?_
  refine S_ret (by kernel_rfl) ?_
  show At _ _ _ _ _ (Q .ret)
  exact S_done (fn := Try.f55) [.bool true] hQ (show ResOK _ _ _ [.tmp 2] _ from .tmp (by kernel_rfl) (.nil)) h
 ·rw [if_neg c1] at h
  have b2 : (x == 0) = false := beq_eq_false_iff_ne.mpr c1
  refine S_env [(0, vu wv), (3, vi ra), (4, vi rb), (13, vi x), (14, .bool false)] (by simp only [b2, Bool.not_true, Bool.not_false]) ?_
  clear b2
  refine T_f 14 kk31 kk32 ?_
  refine T_kt ?_
  refine T_s kk37 kk38 ?_
  refine T_sr 4 kk39 kk40 ?_
  refine T_ne 2 [(0, vu wv), (3, vi ra), (4, vi rb), (13, vi x), (16, .bool (x == 1))] ?_
  by_cases c3 : x = 1
  ·rw [if_pos c3] at h
   have b4 : (x == 1) = true := beq_iff_eq.mpr c3
   refine S_env [(0, vu wv), (3, vi ra), (4, vi rb), (13, vi x), (16, .bool true)] (by simp only [b4, Bool.not_true, Bool.not_false]) ?_
   clear b4
   refine T_t 16 kk41 kk42 ?_
   refine S_exit 2 (by kernel_rfl) ?_
   refine S_exitThen ?_
   refine S_exitThen ?_
   refine S_exitPast (by kernel_rfl) ?_
   refine S_exitThen ?_
   refine S_exitHere ?_
   refine S_blockEnd ?_
   refine S_blockEnd ?_
   refine S_blockEnd ?_
   refine S_then ?_
   refine T_s kk43 kk44 ?_
   refine T_sr 11 kk45 kk46 ?_
   refine T_ne 4 [(2, .bool (decide ((ishr .u64 wv 3) < 65536)))] ?_
   refine S_ret (by kernel_rfl) ?_
   show At _ _ _ _ _ (Q .ret)
   exact S_done (fn := Try.f55) [.bool (decide ((ishr .u64 wv 3) < 65536))] hQ (show ResOK _ _ _ [.tmp 2] _ from .tmp (by kernel_rfl) (.nil)) h
  ·rw [if_neg c3] at h
   have b4 : (x == 1) = false := beq_eq_false_iff_ne.mpr c3
   refine S_env [(0, vu wv), (3, vi ra), (4, vi rb), (13, vi x), (16, .bool false)] (by simp only [b4, Bool.not_true, Bool.not_false]) ?_
   clear b4
   refine T_f 16 kk41 kk42 ?_
   refine T_kt ?_
   refine T_s kk47 kk48 ?_
   refine T_sr 5 kk49 kk50 ?_
   refine T_ne 2 [(0, vu wv), (3, vi ra), (4, vi rb), (13, vi x), (18, .bool (x == 2))] ?_
   by_cases c5 : x = 2
   ·rw [if_pos c5] at h
    have b6 : (x == 2) = true := beq_iff_eq.mpr c5
    refine S_env [(0, vu wv), (3, vi ra), (4, vi rb), (13, vi x), (18, .bool true)] (by simp only [b6, Bool.not_true, Bool.not_false]) ?_
    clear b6
    refine T_t 18 kk51 kk52 ?_
    refine S_exit 3 (by kernel_rfl) ?_
    refine S_exitThen ?_
    refine S_exitThen ?_
    refine S_exitPast (by kernel_rfl) ?_
    refine S_exitThen ?_
    refine S_exitPast (by kernel_rfl) ?_
    refine S_exitHere ?_
    refine S_blockEnd ?_
    refine S_blockEnd ?_
    refine S_then ?_
    refine T_s kk43 kk44 ?_
    refine T_sr 11 kk45 kk46 ?_
    refine T_ne 4 [(2, .bool (decide ((ishr .u64 wv 3) < 65536)))] ?_
    refine S_ret (by kernel_rfl) ?_
    show At _ _ _ _ _ (Q .ret)
    exact S_done (fn := Try.f55) [.bool (decide ((ishr .u64 wv 3) < 65536))] hQ (show ResOK _ _ _ [.tmp 2] _ from .tmp (by kernel_rfl) (.nil)) h
   ·rw [if_neg c5] at h
    have b6 : (x == 2) = false := beq_eq_false_iff_ne.mpr c5
    refine S_env [(0, vu wv), (3, vi ra), (4, vi rb), (13, vi x), (18, .bool false)] (by simp only [b6, Bool.not_true, Bool.not_false]) ?_
    clear b6
    refine T_f 18 kk51 kk52 ?_
    refine T_kt ?_
    refine T_s kk53 kk54 ?_
    refine T_sr 6 kk55 kk56 ?_
    refine T_ne 2 [(0, vu wv), (3, vi ra), (4, vi rb), (13, vi x), (20, .bool (x == 3))] ?_
    by_cases c7 : x = 3
    ·rw [if_pos c7] at h
     have b8 : (x == 3) = true := beq_iff_eq.mpr c7
     refine S_env [(0, vu wv), (3, vi ra), (4, vi rb), (13, vi x), (20, .bool true)] (by simp only [b8, Bool.not_true, Bool.not_false]) ?_
     clear b8
     refine T_t 20 kk57 kk58 ?_
     refine S_exit 4 (by kernel_rfl) ?_
     refine S_exitThen ?_
     refine S_exitThen ?_
     refine S_exitPast (by kernel_rfl) ?_
     refine S_exitThen ?_
     refine S_exitPast (by kernel_rfl) ?_
     refine S_exitPast (by kernel_rfl) ?_
     refine S_exitHere ?_
     refine S_blockEnd ?_
     refine S_then ?_
     refine T_s kk43 kk44 ?_
     refine T_sr 11 kk45 kk46 ?_
     refine T_ne 4 [(2, .bool (decide ((ishr .u64 wv 3) < 65536)))] ?_
     refine S_ret (by kernel_rfl) ?_
     show At _ _ _ _ _ (Q .ret)
     exact S_done (fn := Try.f55) [.bool (decide ((ishr .u64 wv 3) < 65536))] hQ (show ResOK _ _ _ [.tmp 2] _ from .tmp (by kernel_rfl) (.nil)) h
    ·rw [if_neg c7] at h
     have b8 : (x == 3) = false := beq_eq_false_iff_ne.mpr c7
     refine S_env [(0, vu wv), (3, vi ra), (4, vi rb), (13, vi x), (20, .bool false)] (by simp only [b8, Bool.not_true, Bool.not_false]) ?_
     clear b8
     refine T_f 20 kk57 kk58 ?_
     refine T_kt ?_
     refine T_s kk59 kk60 ?_
     refine T_sr 7 kk61 kk62 ?_
     refine T_ne 2 [(0, vu wv), (3, vi ra), (4, vi rb), (13, vi x), (22, .bool (x == 6))] ?_
     by_cases c9 : x = 6
     ·rw [if_pos c9] at h
      have b10 : (x == 6) = true := beq_iff_eq.mpr c9
      refine S_env [(0, vu wv), (3, vi ra), (4, vi rb), (13, vi x), (22, .bool true)] (by simp only [b10, Bool.not_true, Bool.not_false]) ?_
      clear b10
      refine T_t 22 kk63 kk64 ?_
      refine S_exit 5 (by kernel_rfl) ?_
      refine S_exitThen ?_
      refine S_exitThen ?_
      refine S_exitPast (by kernel_rfl) ?_
      refine S_exitThen ?_
      refine S_exitPast (by kernel_rfl) ?_
      refine S_exitPast (by kernel_rfl) ?_
      refine S_exitPast (by kernel_rfl) ?_
      refine S_exitHere ?_
      refine S_then ?_
      refine T_s kk43 kk44 ?_
      refine T_sr 11 kk45 kk46 ?_
      refine T_ne 4 [(2, .bool (decide ((ishr .u64 wv 3) < 65536)))] ?_
      refine S_ret (by kernel_rfl) ?_
      show At _ _ _ _ _ (Q .ret)
      exact S_done (fn := Try.f55) [.bool (decide ((ishr .u64 wv 3) < 65536))] hQ (show ResOK _ _ _ [.tmp 2] _ from .tmp (by kernel_rfl) (.nil)) h
     ·rw [if_neg c9] at h
      have b10 : (x == 6) = false := beq_eq_false_iff_ne.mpr c9
      refine S_env [(0, vu wv), (3, vi ra), (4, vi rb), (13, vi x), (22, .bool false)] (by simp only [b10, Bool.not_true, Bool.not_false]) ?_
      clear b10
      refine T_f 22 kk63 kk64 ?_
      refine T_kt ?_
      refine T_s kk65 kk66 ?_
      refine T_sr 8 kk67 kk68 ?_
      refine T_ne 2 [(0, vu wv), (3, vi ra), (4, vi rb), (13, vi x), (24, .bool (x == 4))] ?_
      by_cases c11 : x = 4
      ·rw [if_pos c11] at h
       have b12 : (x == 4) = true := beq_iff_eq.mpr c11
       refine S_env [(0, vu wv), (3, vi ra), (4, vi rb), (13, vi x), (24, .bool true)] (by simp only [b12, Bool.not_true, Bool.not_false]) ?_
       clear b12
       refine T_t 24 kk69 kk70 ?_
       refine S_exit 6 (by kernel_rfl) ?_
       refine S_exitThen ?_
       refine S_exitThen ?_
       refine S_exitPast (by kernel_rfl) ?_
       refine S_exitThen ?_
       refine S_exitPast (by kernel_rfl) ?_
       refine S_exitPast (by kernel_rfl) ?_
       refine S_exitPast (by kernel_rfl) ?_
       refine S_exitPast (by kernel_rfl) ?_
       refine S_exitThen ?_
       refine S_exitHere ?_
       refine S_then ?_
       refine T_s kk71 kk72 ?_
       refine T_s kk73 kk74 ?_
       refine T_sr 12 kk75 kk76 ?_
       refine T_ne 2 [(0, vu wv), (32, .bool (ra == 7))] ?_
       by_cases c13 : ra = 7
       ·rw [if_pos c13] at h
        have b14 : (ra == 7) = true := beq_iff_eq.mpr c13
        refine S_env [(0, vu wv), (32, .bool true)] (by simp only [b14, Bool.not_true, Bool.not_false]) ?_
        clear b14
        refine T_t 32 kk77 kk78 ?_
        refine T_sr 13 kk79 kk80 ?_
        refine T_n 2 [(34, vu (ishr .u64 wv 8))] ?_
        refine N_call (some 35) 71 #[vu (ishr .u64 wv 8)] (fun _=>by kernel_rfl) h ?_; clear h
        rintro d H3 ⟨a, rfl, h⟩
        refine ⟨[(35, .bool a)], pk, ?_⟩
        refine T_ne 1 [(2, .bool a)] ?_
        refine S_ret (by kernel_rfl) ?_
        show At _ _ _ _ _ (Q .ret)
        exact S_done (fn := Try.f55) [.bool a] hQ (show ResOK _ _ _ [.tmp 2] _ from .tmp (by kernel_rfl) (.nil)) h
       ·rw [if_neg c13] at h
        have b14 : (ra == 7) = false := beq_eq_false_iff_ne.mpr c13
        refine S_env [(0, vu wv), (32, .bool false)] (by simp only [b14, Bool.not_true, Bool.not_false]) ?_
        clear b14
        refine T_f 32 kk77 kk78 ?_
        refine T_kt ?_
        refine T_sr 14 kk81 kk82 ?_
        refine T_ne 4 [(2, .bool (decide ((ishr .u64 wv 3) ≤ 6)))] ?_
        refine S_ret (by kernel_rfl) ?_
        show At _ _ _ _ _ (Q .ret)
        exact S_done (fn := Try.f55) [.bool (decide ((ishr .u64 wv 3) ≤ 6))] hQ (show ResOK _ _ _ [.tmp 2] _ from .tmp (by kernel_rfl) (.nil)) h
      ·rw [if_neg c11] at h
       have b12 : (x == 4) = false := beq_eq_false_iff_ne.mpr c11
       refine S_env [(0, vu wv), (3, vi ra), (4, vi rb), (13, vi x), (24, .bool false)] (by simp only [b12, Bool.not_true, Bool.not_false]) ?_
       clear b12
       refine T_f 24 kk69 kk70 ?_
       refine T_kt ?_
       refine T_sr 9 kk83 kk84 ?_
       refine T_ne 2 [(3, vi ra), (4, vi rb), (26, .bool (x == 5))] ?_
       by_cases c15 : x = 5
       ·rw [if_pos c15] at h
        have b16 : (x == 5) = true := beq_iff_eq.mpr c15
        refine S_env [(3, vi ra), (4, vi rb), (26, .bool true)] (by simp only [b16, Bool.not_true, Bool.not_false]) ?_
        clear b16
        refine T_t 26 kk85 kk86 ?_
        refine S_exit 7 (by kernel_rfl) ?_
        refine S_exitThen ?_
        refine S_exitPast (by kernel_rfl) ?_
        refine S_exitThen ?_
        refine S_exitPast (by kernel_rfl) ?_
        refine S_exitPast (by kernel_rfl) ?_
        refine S_exitPast (by kernel_rfl) ?_
        refine S_exitPast (by kernel_rfl) ?_
        refine S_exitThen ?_
        refine S_exitPast (by kernel_rfl) ?_
        refine S_exitThen ?_
        refine S_exitHere ?_
        refine S_then ?_
        refine T_s kk87 kk88 ?_
        refine T_sr 15 kk89 kk90 ?_
        refine N_cut [(2, .bool (((decide (ra ≥ 1)) && (decide (ra ≤ 13))) && (decide (rb ≤ 62))))] ?_ ?_
        ·refine S_then ?_
         refine S_ret (by kernel_rfl) ?_
         show At _ _ _ _ _ (Q .ret)
         exact S_done (fn := Try.f55) [.bool (((decide (ra ≥ 1)) && (decide (ra ≤ 13))) && (decide (rb ≤ 62)))] hQ (show ResOK _ _ _ [.tmp 2] _ from .tmp (by kernel_rfl) (.nil)) h
        ·intro hk
         refine T_n 3 [(3, vi ra), (4, vi rb), (41, .bool (decide (ra ≥ 1)))] ?_
         by_cases c17 : ra ≥ 1
         ·have b18 : (decide (ra ≥ 1)) = true := decide_eq_true c17
          refine N_env [(3, vi ra), (4, vi rb), (41, .bool true)] (by simp only [b18, Bool.not_true, Bool.not_false]) ?_
          refine T_n 4 [(4, vi rb), (45, .bool (decide (ra ≤ 13)))] ?_
          by_cases c19 : ra ≤ 13
          ·have b20 : (decide (ra ≤ 13)) = true := decide_eq_true c19
           refine N_env [(4, vi rb), (45, .bool true)] (by simp only [b20, Bool.not_true, Bool.not_false]) ?_
           refine T_n 4 [(2, .bool (decide (rb ≤ 62)))] ?_
           refine N_end (by kernel_rfl) ?_
           refine S_env [(2, .bool (((decide (ra ≥ 1)) && (decide (ra ≤ 13))) && (decide (rb ≤ 62))))] (by simp only [b18, b20, Bool.true_or, Bool.false_or, Bool.or_true, Bool.or_false, Bool.true_and, Bool.false_and, Bool.and_true, Bool.and_false, Bool.not_true, Bool.not_false, cond_true, cond_false]) ?_
           exact hk
          ·have b20 : (decide (ra ≤ 13)) = false := decide_eq_false c19
           refine N_env [(4, vi rb), (45, .bool false)] (by simp only [b20, Bool.not_true, Bool.not_false]) ?_
           refine T_n 4 [(2, .bool false)] ?_
           refine N_end (by kernel_rfl) ?_
           refine S_env [(2, .bool (((decide (ra ≥ 1)) && (decide (ra ≤ 13))) && (decide (rb ≤ 62))))] (by simp only [b18, b20, Bool.true_or, Bool.false_or, Bool.or_true, Bool.or_false, Bool.true_and, Bool.false_and, Bool.and_true, Bool.and_false, Bool.not_true, Bool.not_false, cond_true, cond_false]) ?_
           exact hk
         ·have b18 : (decide (ra ≥ 1)) = false := decide_eq_false c17
          refine N_env [(3, vi ra), (4, vi rb), (41, .bool false)] (by simp only [b18, Bool.not_true, Bool.not_false]) ?_
          refine T_n 8 [(2, .bool false)] ?_
          refine N_end (by kernel_rfl) ?_
          refine S_env [(2, .bool (((decide (ra ≥ 1)) && (decide (ra ≤ 13))) && (decide (rb ≤ 62))))] (by simp only [b18, Bool.true_or, Bool.false_or, Bool.or_true, Bool.or_false, Bool.true_and, Bool.false_and, Bool.and_true, Bool.and_false, Bool.not_true, Bool.not_false, cond_true, cond_false]) ?_
          exact hk
       ·rw [if_neg c15] at h
        have b16 : (x == 5) = false := beq_eq_false_iff_ne.mpr c15
        refine S_env [(3, vi ra), (4, vi rb), (26, .bool false)] (by simp only [b16, Bool.not_true, Bool.not_false]) ?_
        clear b16
        refine T_f 26 kk85 kk86 ?_
        refine T_kt ?_
        refine S_exit 0 (by kernel_rfl) ?_
        refine S_exitPast (by kernel_rfl) ?_
        refine S_exitThen ?_
        refine S_exitPast (by kernel_rfl) ?_
        refine S_exitPast (by kernel_rfl) ?_
        refine S_exitPast (by kernel_rfl) ?_
        refine S_exitPast (by kernel_rfl) ?_
        refine S_exitThen ?_
        refine S_exitPast (by kernel_rfl) ?_
        refine S_exitThen ?_
        refine S_exitPast (by kernel_rfl) ?_
        refine S_exitThen ?_
        refine S_exitHere ?_
        refine S_then ?_
        refine T_sr 16 kk91 kk92 ?_
        refine T_ne 1 [(2, .bool false)] ?_
        refine S_ret (by kernel_rfl) ?_
        show At _ _ _ _ _ (Q .ret)
        exact S_done (fn := Try.f55) [.bool false] hQ (show ResOK _ _ _ [.tmp 2] _ from .tmp (by kernel_rfl) (.nil)) h
end word_May

/-! moraine/word.parts -/
namespace word_parts
def kk0 := Func.code Try.f70
def kk1 := Code.fa kk0
def kk2 := Code.fb kk0
def kk3 := Code.fa kk2
def kk4 := Code.fb kk2
def kk5 := Code.fa kk4
def kk6 := Code.fb kk4
end word_parts
def word_parts.pt (wv : Int) (H : Array Obj) (R : Value → Array Obj → Prop) : Prop :=
 ∀ (b : Nat) (H1 : Array Obj), b = H.size → H1 = H.push (.cells #[.int .u64 wv] 32) →
 word_parts_1.C 3 5 (some (Addr.mk b 0 none)) H1 (fun v H2 => ∃ x : Int, v = .int .u64 x ∧ 
 word_parts_1.C 8 8 (some (Addr.mk b 0 none)) H2 (fun e H3 => ∃ a : Int, e = .int .u64 a ∧ 
 word_parts_1.C 16 48 (some (Addr.mk b 0 none)) H3 (fun f H4 => ∃ d : Int, f = .int .u64 d ∧ 
 R (.tuple #[.int .i64 (IntKind.wrap .i64 x), .int .i64 (IntKind.wrap .i64 a), .int .u64 d]) H4)))
namespace word_parts
set_option maxRecDepth 100000 in
theorem link {wv : Int} {H : Array Obj} {R : Value → Array Obj → Prop} (h : pt wv H R) : C wv H R := by
 refine S_enter (fn := Try.f70) (c := kk0) 15 Try.func70 (by kernel_rfl) (by kernel_rfl) (Nat.le_of_ble_eq_true (by kernel_rfl)) ?_
 intro w0 Q hQ
 unfold pt at h
 refine T_su [(0, vu wv)] ?_
 refine T_sr 0 kk1 kk2 ?_
 refine N_new (some 1) (fun b => vp (pa b)) (.cells #[vu wv] 32) (fun _=>by kernel_rfl) ?_
 intro b H1 e1 e2
 replace h := h b H1 e1 e2
 refine ⟨[(1, vp (pa b))], pk, ?_⟩
 refine T_ne 3 [(1, vp (pa b))] ?_
 refine T_sr 1 kk3 kk4 ?_
 refine T_ne 2 [(5, .func (.func 76) #[] #[vp (pa b)])] ?_
 refine T_sr 2 kk5 kk6 ?_
 refine T_n 1 [(5, .func (.func 76) #[] #[vp (pa b)]), (7, .func (.func 76) #[] #[vp (pa b)])] ?_
 refine N_call (some 8) 76 #[vi 3, vi 5, vp (pa b)] (fun _=>by kernel_rfl) h ?_; clear h
 rintro v H2 ⟨x, rfl, h⟩
 refine ⟨[(5, .func (.func 76) #[] #[vp (pa b)]), (8, vu x)], pk, ?_⟩
 refine T_n 2 [(5, .func (.func 76) #[] #[vp (pa b)]), (9, vi (IntKind.wrap .i64 x)), (10, .func (.func 76) #[] #[vp (pa b)])] ?_
 refine N_call (some 11) 76 #[vi 8, vi 8, vp (pa b)] (fun _=>by kernel_rfl) h ?_; clear h
 rintro e H3 ⟨a, rfl, h⟩
 refine ⟨[(5, .func (.func 76) #[] #[vp (pa b)]), (9, vi (IntKind.wrap .i64 x)), (11, vu a)], pk, ?_⟩
 refine T_n 2 [(9, vi (IntKind.wrap .i64 x)), (12, vi (IntKind.wrap .i64 a)), (13, .func (.func 76) #[] #[vp (pa b)])] ?_
 refine N_call (some 14) 76 #[vi 16, vi 48, vp (pa b)] (fun _=>by kernel_rfl) h ?_; clear h
 rintro f H4 ⟨d, rfl, h⟩
 refine ⟨[(9, vi (IntKind.wrap .i64 x)), (12, vi (IntKind.wrap .i64 a)), (14, vu d)], pk, ?_⟩
 refine T_ne 3 [(2, vi (IntKind.wrap .i64 x)), (3, vi (IntKind.wrap .i64 a)), (4, vu d)] ?_
 refine S_ret (by kernel_rfl) ?_
 show At _ _ _ _ _ (Q .ret)
 exact S_done (fn := Try.f70) [vi (IntKind.wrap .i64 x), vi (IntKind.wrap .i64 a), vu d] hQ (show ResOK _ _ _ [.tmp 2, .tmp 3, .tmp 4] _ from .tmp (by kernel_rfl) (.tmp (by kernel_rfl) (.tmp (by kernel_rfl) (.nil)))) h
end word_parts

/-! moraine/word.letter -/
namespace word_letter
def kk0 := Func.code Try.f71
def kk1 := Code.fa kk0
def kk2 := Code.fb kk0
def kk3 := Code.fa kk2
def kk4 := Code.fb kk2
end word_letter
def word_letter.pt (c : Int) (H : Array Obj) (R : Value → Array Obj → Prop) : Prop :=
 R (.bool ((decide (c ≤ 1114111)) && ((decide (c < 55296)) || (decide (c > 57343))))) H
namespace word_letter
set_option maxRecDepth 100000 in
theorem link {c : Int} {H : Array Obj} {R : Value → Array Obj → Prop} (h : pt c H R) : C c H R := by
 refine S_enter (fn := Try.f71) (c := kk0) 13 Try.func71 (by kernel_rfl) (by kernel_rfl) (Nat.le_of_ble_eq_true (by kernel_rfl)) ?_
 intro w0 Q hQ
 unfold pt at h
 refine T_su [(0, vu c)] ?_
 refine T_sr 0 kk1 kk2 ?_
 refine T_ne 1 [(0, vu c)] ?_
 refine T_sr 1 kk3 kk4 ?_
 refine N_cut [(2, .bool ((decide (c ≤ 1114111)) && ((decide (c < 55296)) || (decide (c > 57343)))))] ?_ ?_
 ·refine S_then ?_
  refine S_ret (by kernel_rfl) ?_
  show At _ _ _ _ _ (Q .ret)
  exact S_done (fn := Try.f71) [.bool ((decide (c ≤ 1114111)) && ((decide (c < 55296)) || (decide (c > 57343))))] hQ (show ResOK _ _ _ [.tmp 2] _ from .tmp (by kernel_rfl) (.nil)) h
 ·intro hk
  refine T_n 3 [(0, vu c), (5, .bool (decide (c ≤ 1114111)))] ?_
  by_cases c1 : c ≤ 1114111
  ·have b2 : (decide (c ≤ 1114111)) = true := decide_eq_true c1
   refine N_env [(0, vu c), (5, .bool true)] (by simp only [b2, Bool.not_true, Bool.not_false]) ?_
   refine T_n 3 [(0, vu c), (5, .bool true), (8, .bool (decide (c < 55296)))] ?_
   by_cases c3 : c < 55296
   ·have b4 : (decide (c < 55296)) = true := decide_eq_true c3
    refine N_env [(0, vu c), (5, .bool true), (8, .bool true)] (by simp only [b4, Bool.not_true, Bool.not_false]) ?_
    refine T_n 5 [(2, .bool true)] ?_
    refine N_end (by kernel_rfl) ?_
    refine S_env [(2, .bool ((decide (c ≤ 1114111)) && ((decide (c < 55296)) || (decide (c > 57343)))))] (by simp only [b2, b4, Bool.true_or, Bool.false_or, Bool.or_true, Bool.or_false, Bool.true_and, Bool.false_and, Bool.and_true, Bool.and_false, Bool.not_true, Bool.not_false, cond_true, cond_false]) ?_
    exact hk
   ·have b4 : (decide (c < 55296)) = false := decide_eq_false c3
    refine N_env [(0, vu c), (5, .bool true), (8, .bool false)] (by simp only [b4, Bool.not_true, Bool.not_false]) ?_
    refine T_n 5 [(2, .bool (decide (c > 57343)))] ?_
    refine N_end (by kernel_rfl) ?_
    refine S_env [(2, .bool ((decide (c ≤ 1114111)) && ((decide (c < 55296)) || (decide (c > 57343)))))] (by simp only [b2, b4, Bool.true_or, Bool.false_or, Bool.or_true, Bool.or_false, Bool.true_and, Bool.false_and, Bool.and_true, Bool.and_false, Bool.not_true, Bool.not_false, cond_true, cond_false]) ?_
    exact hk
  ·have b2 : (decide (c ≤ 1114111)) = false := decide_eq_false c1
   refine N_env [(0, vu c), (5, .bool false)] (by simp only [b2, Bool.not_true, Bool.not_false]) ?_
   refine T_n 8 [(2, .bool false)] ?_
   refine N_end (by kernel_rfl) ?_
   refine S_env [(2, .bool ((decide (c ≤ 1114111)) && ((decide (c < 55296)) || (decide (c > 57343)))))] (by simp only [b2, Bool.true_or, Bool.false_or, Bool.or_true, Bool.or_false, Bool.true_and, Bool.false_and, Bool.and_true, Bool.and_false, Bool.not_true, Bool.not_false, cond_true, cond_false]) ?_
   exact hk
end word_letter

/-! moraine/word.parts.1 -/
namespace word_parts_1
def kk0 := Func.code Try.f76
def kk1 := Code.fa kk0
def kk2 := Code.fb kk0
def kk3 := Code.fa kk2
def kk4 := Code.fb kk2
end word_parts_1
def word_parts_1.pt (fromv : Int) (bits : Int) (cap0 : Option Addr) (H : Array Obj) (R : Value → Array Obj → Prop) : Prop :=
 ∃ a : Addr, cap0 = some a ∧
 ∃ x : Int, hat H a = some (.int .u64 x) ∧
 (0 ≤ fromv) ∧
 (0 ≤ bits) ∧
 R (.int .u64 (iand .u64 (ishr .u64 x fromv) (IntKind.wrap .u64 ((ishl .u64 1 bits) - 1)))) H
namespace word_parts_1
set_option maxRecDepth 100000 in
theorem link {fromv : Int} {bits : Int} {cap0 : Option Addr} {H : Array Obj} {R : Value → Array Obj → Prop} (h : pt fromv bits cap0 H R) : C fromv bits cap0 H R := by
 refine S_enter (fn := Try.f76) (c := kk0) 13 Try.func76 (by kernel_rfl) (by kernel_rfl) (Nat.le_of_ble_eq_true (by kernel_rfl)) ?_
 intro w0 Q hQ
 unfold pt at h
 refine T_su [(0, vi fromv), (1, vi bits), (2, vp cap0)] ?_
 refine T_sr 0 kk1 kk2 ?_
 refine T_ne 1 [(0, vi fromv), (1, vi bits), (2, vp cap0)] ?_
 refine T_s kk3 kk4 ?_
 refine T_rq 1 kk3 ?_
 obtain ⟨a, rfl, h⟩ := h
 obtain ⟨x, q1, h⟩ := h
 refine T_ql (some 6) 32 q1 [(0, vi fromv), (1, vi bits), (6, vu x)] ?_
 refine T_q (some 7) (vi fromv) [(1, vi bits), (6, vu x), (7, vi fromv)] ?_
 obtain ⟨q2, h⟩ := h
 refine Q_op (some 8) (binN .shr 31 (vu x) (vi fromv)) (vu (ishr .u64 x fromv)) (fun _=>by kernel_rfl) (fun w _ => shr_run (P := Try.prog) (t := 31) (k := .u64) (k' := .i64) (x := x) (y := fromv) q2 w) [(1, vi bits), (8, vu (ishr .u64 x fromv))] pk ?_
 refine T_q (some 9) (vi bits) [(8, vu (ishr .u64 x fromv)), (9, vi bits)] ?_
 obtain ⟨q3, h⟩ := h
 refine Q_op (some 10) (binN .shl 31 (vu 1) (vi bits)) (vu (ishl .u64 1 bits)) (fun _=>by kernel_rfl) (fun w _ => shl_run (P := Try.prog) (t := 31) (k := .u64) (k' := .i64) (x := 1) (y := bits) q3 w) [(8, vu (ishr .u64 x fromv)), (10, vu (ishl .u64 1 bits))] pk ?_
 refine T_q (some 11) (vu (IntKind.wrap .u64 ((ishl .u64 1 bits) - 1))) [(8, vu (ishr .u64 x fromv)), (11, vu (IntKind.wrap .u64 ((ishl .u64 1 bits) - 1)))] ?_
 refine T_q (some 12) (vu (iand .u64 (ishr .u64 x fromv) (IntKind.wrap .u64 ((ishl .u64 1 bits) - 1)))) [(12, vu (iand .u64 (ishr .u64 x fromv) (IntKind.wrap .u64 ((ishl .u64 1 bits) - 1))))] ?_
 refine T_q (some 5) (vu (iand .u64 (ishr .u64 x fromv) (IntKind.wrap .u64 ((ishl .u64 1 bits) - 1)))) [(5, vu (iand .u64 (ishr .u64 x fromv) (IntKind.wrap .u64 ((ishl .u64 1 bits) - 1))))] ?_
 refine Q_sub [(5, vu (iand .u64 (ishr .u64 x fromv) (IntKind.wrap .u64 ((ishl .u64 1 bits) - 1))))] sk ?_
 refine T_qe ?_
 refine S_ret (by kernel_rfl) ?_
 show At _ _ _ _ _ (Q .ret)
 exact S_done (fn := Try.f76) [vu (iand .u64 (ishr .u64 x fromv) (IntKind.wrap .u64 ((ishl .u64 1 bits) - 1)))] hQ (show ResOK _ _ _ [.tmp 5] _ from .tmp (by kernel_rfl) (.nil)) h
end word_parts_1

end Go.Proofs.Ytillpfaabdlaiaa
