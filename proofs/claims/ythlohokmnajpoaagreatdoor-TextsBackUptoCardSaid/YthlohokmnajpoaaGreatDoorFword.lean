/- Printed: what each function asks, and that it is sound. -/
import Derived.Test.YthlohokmnajpoaaGreatDoorFnsC
set_option linter.unusedSimpArgs false
set_option linter.unusedVariables false
set_option maxHeartbeats 1000000
noncomputable section
namespace Go.Proofs.YthlohokmnajpoaaGreatDoor
open Go
/-! moraine/word.Char -/
namespace word_Char
def K0 := Func.code Tryz.f38
def K1 := ca K0
def K2 := cb K0
def K3 := ca K2
def K4 := cb K2
def K5 := ca K3
def K6 := cb K3
def K7 := ca K6
def K8 := cb K6
def K9 := ca K7
def K10 := cb K7
def K11 := ca K4
def K12 := cb K4
end word_Char
def word_Char.pt (c : Int) (H : Array Obj) (R : Value → Array Obj → Prop) : Prop :=
 if c < 0 then (
 R (.tuple #[.int .u64 0, .int .i64 4]) H)
 else
 word_letter.C (IntKind.wrap .u64 c) H (fun v H1 => ∃ x : Bool, v = .bool x ∧ 
 if x = true then (
 R (.tuple #[.int .u64 (ior .u64 (ior .u64 (ishl .u64 (IntKind.wrap .u64 c) 8) 56) 4), .int .i64 0]) H1)
 else
 R (.tuple #[.int .u64 0, .int .i64 4]) H1)
namespace word_Char
set_option maxRecDepth 100000 in
theorem link {c : Int} {H : Array Obj} {R : Value → Array Obj → Prop} (h : pt c H R) : C c H R := by
 refine T_en K0 17 Tryz.func38 ?_
 intro w0 Q hQ
 unfold pt at h
 refine T_su [(0, .int .i32 c)] ?_
 refine T_sr 0 K1 K2 ?_
 refine T_ne 2 [(0, .int .i32 c)] ?_
 refine T_s K3 K4 ?_
 refine T_sr 1 K5 K6 ?_
 refine T_n 3 [(0, .int .i32 c), (6, .bool (decide (c < 0)))] ?_
 by_cases c1 : c < 0
 ·rw [if_pos c1] at h
  have b2 : (decide (c < 0)) = true := decide_eq_true c1
  refine N_env [(0, .int .i32 c), (6, .bool true)] (by rw [b2]) ?_
  clear b2
  refine T_ne 5 [(0, .int .i32 c), (11, .bool true)] ?_
  refine T_t 11 K7 K8 ?_
  refine T_sr 2 K9 K10 ?_
  refine T_ne 2 [(2, vu 0), (3, vi 4)] ?_
  exact T_ret [2, 3] [vu 0, vi 4] hQ h
 rw [if_neg c1] at h
 have b2 : (decide (c < 0)) = false := decide_eq_false c1
 refine N_env [(0, .int .i32 c), (6, .bool false)] (by rw [b2]) ?_
 clear b2
 refine T_n 2 [(0, .int .i32 c), (6, .bool false), (8, vu (IntKind.wrap .u64 c))] ?_
 refine T_c (some 9) h ?_; clear h
 rintro v H1 ⟨x, rfl, h⟩
 refine ⟨[(0, .int .i32 c), (6, .bool false), (9, .bool x)], pk, ?_⟩
 refine T_ne 2 [(0, .int .i32 c), (11, .bool (!x))] ?_
 by_cases c3 : x = true
 ·rw [if_pos c3] at h
  have b4 : (!x) = false := congrArg Bool.not (c3)
  refine T_cF 11 K7 K8 b4 ?_
  refine T_kt ?_
  refine T_sr 3 K11 K12 ?_
  refine T_ne 7 [(2, vu (ior .u64 (ior .u64 (ishl .u64 (IntKind.wrap .u64 c) 8) 56) 4)), (3, vi 0)] ?_
  exact T_ret [2, 3] [vu (ior .u64 (ior .u64 (ishl .u64 (IntKind.wrap .u64 c) 8) 56) 4), vi 0] hQ h
 rw [if_neg c3] at h
 have b4 : (!x) = true := congrArg Bool.not (eq_false_of_ne_true c3)
 refine T_cT 11 K7 K8 b4 ?_
 refine T_sr 2 K9 K10 ?_
 refine T_ne 2 [(2, vu 0), (3, vi 4)] ?_
 exact T_ret [2, 3] [vu 0, vi 4] hQ h
end word_Char

/-! moraine/word.Int -/
namespace word_Int
def K0 := Func.code Tryz.f59
def K1 := ca K0
def K2 := cb K0
def K3 := ca K2
def K4 := cb K2
def K5 := ca K3
def K6 := cb K3
def K7 := ca K6
def K8 := cb K6
def K9 := ca K4
def K10 := cb K4
def K11 := ca K7
def K12 := cb K7
end word_Int
def word_Int.pt (wv : Int) (H : Array Obj) (R : Value → Array Obj → Prop) : Prop :=
 word_Tag.C wv H (fun v H1 => ∃ x : Int, v = .int .i64 x ∧ 
 if x = 0 then (
 R (.tuple #[.int .i64 (ishr .i64 (IntKind.wrap .i64 wv) 3), .bool true]) H1)
 else
 R (.tuple #[.int .i64 0, .bool false]) H1)
namespace word_Int
set_option maxRecDepth 100000 in
theorem link {wv : Int} {H : Array Obj} {R : Value → Array Obj → Prop} (h : pt wv H R) : C wv H R := by
 refine T_en K0 10 Tryz.func59 ?_
 intro w0 Q hQ
 unfold pt at h
 refine T_su [(0, vu wv)] ?_
 refine T_sr 0 K1 K2 ?_
 refine T_ne 2 [(0, vu wv)] ?_
 refine T_s K3 K4 ?_
 refine T_sr 1 K5 K6 ?_
 refine T_n 1 [(0, vu wv), (4, vu wv)] ?_
 refine T_c (some 5) h ?_; clear h
 rintro v H1 ⟨x, rfl, h⟩
 refine ⟨[(0, vu wv), (5, vi x)], pk, ?_⟩
 refine T_ne 1 [(0, vu wv), (6, .bool (x != 0))] ?_
 by_cases c1 : x = 0
 ·rw [if_pos c1] at h
  have b2 : (x != 0) = false := bne_eq_false_iff_eq.mpr c1
  refine T_cF 6 K7 K8 b2 ?_
  refine T_kt ?_
  refine T_sr 3 K9 K10 ?_
  refine T_ne 5 [(2, vi (ishr .i64 (IntKind.wrap .i64 wv) 3)), (3, .bool true)] ?_
  exact T_ret [2, 3] [vi (ishr .i64 (IntKind.wrap .i64 wv) 3), .bool true] hQ h
 rw [if_neg c1] at h
 have b2 : (x != 0) = true := bne_iff_ne.mpr c1
 refine T_cT 6 K7 K8 b2 ?_
 refine T_sr 2 K11 K12 ?_
 refine T_ne 2 [(2, vi 0), (3, .bool false)] ?_
 exact T_ret [2, 3] [vi 0, .bool false] hQ h
end word_Int

/-! moraine/word.letter -/
namespace word_letter
def K0 := Func.code Tryz.f79
def K1 := ca K0
def K2 := cb K0
def K3 := ca K2
def K4 := cb K2
end word_letter
def word_letter.pt (c : Int) (H : Array Obj) (R : Value → Array Obj → Prop) : Prop :=
 R (.bool ((decide (c ≤ 1114111)) && ((decide (c < 55296)) || (decide (c > 57343))))) H
namespace word_letter
set_option maxRecDepth 100000 in
theorem link {c : Int} {H : Array Obj} {R : Value → Array Obj → Prop} (h : pt c H R) : C c H R := by
 refine T_en K0 13 Tryz.func79 ?_
 intro w0 Q hQ
 unfold pt at h
 refine T_su [(0, vu c)] ?_
 refine T_sr 0 K1 K2 ?_
 refine T_ne 1 [(0, vu c)] ?_
 refine T_sr 1 K3 K4 ?_
 refine N_cut [(2, .bool ((decide (c ≤ 1114111)) && ((decide (c < 55296)) || (decide (c > 57343)))))] ?_ ?_
 ·refine S_then ?_
  exact T_ret [2] [.bool ((decide (c ≤ 1114111)) && ((decide (c < 55296)) || (decide (c > 57343))))] hQ h
 intro hk
 refine T_n 3 [(0, vu c), (5, .bool (decide (c ≤ 1114111)))] ?_
 by_cases c1 : c ≤ 1114111
 ·have b2 : (decide (c ≤ 1114111)) = true := decide_eq_true c1
  refine N_env [(0, vu c), (5, .bool true)] (by rw [b2]) ?_
  refine T_n 3 [(0, vu c), (5, .bool true), (8, .bool (decide (c < 55296)))] ?_
  by_cases c3 : c < 55296
  ·have b4 : (decide (c < 55296)) = true := decide_eq_true c3
   refine N_env [(0, vu c), (5, .bool true), (8, .bool true)] (by rw [b4]) ?_
   refine T_n 5 [(2, .bool true)] ?_
   refine N_end (by kernel_rfl) ?_
   refine S_env [(2, .bool ((decide (c ≤ 1114111)) && ((decide (c < 55296)) || (decide (c > 57343)))))] (by simp only [b2, b4, BL]) ?_
   exact hk
  have b4 : (decide (c < 55296)) = false := decide_eq_false c3
  refine N_env [(0, vu c), (5, .bool true), (8, .bool false)] (by rw [b4]) ?_
  refine T_n 5 [(2, .bool (decide (c > 57343)))] ?_
  refine N_end (by kernel_rfl) ?_
  refine S_env [(2, .bool ((decide (c ≤ 1114111)) && ((decide (c < 55296)) || (decide (c > 57343)))))] (by simp only [b2, b4, BL]) ?_
  exact hk
 have b2 : (decide (c ≤ 1114111)) = false := decide_eq_false c1
 refine N_env [(0, vu c), (5, .bool false)] (by rw [b2]) ?_
 refine T_n 8 [(2, .bool false)] ?_
 refine N_end (by kernel_rfl) ?_
 refine S_env [(2, .bool ((decide (c ≤ 1114111)) && ((decide (c < 55296)) || (decide (c > 57343)))))] (by simp only [b2, BL]) ?_
 exact hk
end word_letter

/-! moraine/word.Fix -/
namespace word_Fix
def K0 := Func.code Tryz.f82
def K1 := ca K0
def K2 := cb K0
def K3 := ca K2
def K4 := cb K2
def K5 := ca K3
def K6 := cb K3
def K7 := ca K6
def K8 := cb K6
def K9 := ca K7
def K10 := cb K7
def K11 := ca K4
def K12 := cb K4
end word_Fix
def word_Fix.pt (x : Int) (H : Array Obj) (R : Value → Array Obj → Prop) : Prop :=
 if ((decide (x < (-1152921504606846976))) || (decide (x ≥ 1152921504606846976))) = true then (
 R (.tuple #[.int .u64 0, .int .i64 4]) H)
 else
 R (.tuple #[.int .u64 (IntKind.wrap .u64 (ishl .i64 x 3)), .int .i64 0]) H
namespace word_Fix
set_option maxRecDepth 100000 in
theorem link {x : Int} {H : Array Obj} {R : Value → Array Obj → Prop} (h : pt x H R) : C x H R := by
 refine T_en K0 13 Tryz.func82 ?_
 intro w0 Q hQ
 unfold pt at h
 refine T_su [(0, vi x)] ?_
 refine T_sr 0 K1 K2 ?_
 refine T_ne 2 [(0, vi x)] ?_
 refine T_s K3 K4 ?_
 refine T_sr 1 K5 K6 ?_
 refine N_cut [(0, vi x), (9, .bool ((decide (x < (-1152921504606846976))) || (decide (x ≥ 1152921504606846976))))] ?_ ?_
 ·refine S_then ?_
  by_cases c3 : ((decide (x < (-1152921504606846976))) || (decide (x ≥ 1152921504606846976))) = true
  ·rw [if_pos c3] at h
   have b4 : ((decide (x < (-1152921504606846976))) || (decide (x ≥ 1152921504606846976))) = true := c3
   refine T_cT 9 K7 K8 b4 ?_
   refine T_sr 2 K9 K10 ?_
   refine T_ne 2 [(2, vu 0), (3, vi 4)] ?_
   exact T_ret [2, 3] [vu 0, vi 4] hQ h
  rw [if_neg c3] at h
  have b4 : ((decide (x < (-1152921504606846976))) || (decide (x ≥ 1152921504606846976))) = false := eq_false_of_ne_true c3
  refine T_cF 9 K7 K8 b4 ?_
  refine T_kt ?_
  refine T_sr 3 K11 K12 ?_
  refine T_ne 5 [(2, vu (IntKind.wrap .u64 (ishl .i64 x 3))), (3, vi 0)] ?_
  exact T_ret [2, 3] [vu (IntKind.wrap .u64 (ishl .i64 x 3)), vi 0] hQ h
 intro hk
 refine T_n 3 [(0, vi x), (6, .bool (decide (x < (-1152921504606846976))))] ?_
 by_cases c1 : x < (-1152921504606846976)
 ·have b2 : (decide (x < (-1152921504606846976))) = true := decide_eq_true c1
  refine N_env [(0, vi x), (6, .bool true)] (by rw [b2]) ?_
  refine T_n 3 [(0, vi x), (9, .bool true)] ?_
  refine N_end (by kernel_rfl) ?_
  refine S_env [(0, vi x), (9, .bool ((decide (x < (-1152921504606846976))) || (decide (x ≥ 1152921504606846976))))] (by simp only [b2, BL]) ?_
  exact hk
 have b2 : (decide (x < (-1152921504606846976))) = false := decide_eq_false c1
 refine N_env [(0, vi x), (6, .bool false)] (by rw [b2]) ?_
 refine T_n 3 [(0, vi x), (9, .bool (decide (x ≥ 1152921504606846976)))] ?_
 refine N_end (by kernel_rfl) ?_
 refine S_env [(0, vi x), (9, .bool ((decide (x < (-1152921504606846976))) || (decide (x ≥ 1152921504606846976))))] (by simp only [b2, BL]) ?_
 exact hk
end word_Fix

/-! moraine/word.Header -/
namespace word_Header
def K0 := Func.code Tryz.f86
def K1 := ca K0
def K2 := cb K0
def K3 := ca K2
def K4 := cb K2
def K5 := ca K3
def K6 := cb K3
def K7 := ca K6
def K8 := cb K6
def K9 := ca K7
def K10 := cb K7
def K11 := ca K4
def K12 := cb K4
end word_Header
def word_Header.pt (kind : Int) (nv : Int) (more : Int) (H : Array Obj) (R : Value → Array Obj → Prop) : Prop :=
 if (((((decide (kind < 1)) || (decide (kind > 13))) || (decide (nv < 0))) || (decide (nv > 62))) || (decide (more ≥ 281474976710656))) = true then (
 R (.tuple #[.int .u64 0, .int .i64 1]) H)
 else
 R (.tuple #[.int .u64 (ior .u64 (ior .u64 (ior .u64 (ishl .u64 more 16) (ishl .u64 (IntKind.wrap .u64 nv) 8)) (ishl .u64 (IntKind.wrap .u64 kind) 3)) 5), .int .i64 0]) H
namespace word_Header
set_option maxRecDepth 100000 in
theorem link {kind : Int} {nv : Int} {more : Int} {H : Array Obj} {R : Value → Array Obj → Prop} (h : pt kind nv more H R) : C kind nv more H R := by
 refine T_en K0 37 Tryz.func86 ?_
 intro w0 Q hQ
 unfold pt at h
 refine T_su [(0, vi kind), (1, vi nv), (2, vu more)] ?_
 refine T_sr 0 K1 K2 ?_
 refine T_ne 2 [(0, vi kind), (1, vi nv), (2, vu more)] ?_
 refine T_s K3 K4 ?_
 refine T_sr 1 K5 K6 ?_
 refine N_cut [(0, vi kind), (1, vi nv), (2, vu more), (25, .bool (((((decide (kind < 1)) || (decide (kind > 13))) || (decide (nv < 0))) || (decide (nv > 62))) || (decide (more ≥ 281474976710656))))] ?_ ?_
 ·refine S_then ?_
  by_cases c9 : (((((decide (kind < 1)) || (decide (kind > 13))) || (decide (nv < 0))) || (decide (nv > 62))) || (decide (more ≥ 281474976710656))) = true
  ·rw [if_pos c9] at h
   have b10 : (((((decide (kind < 1)) || (decide (kind > 13))) || (decide (nv < 0))) || (decide (nv > 62))) || (decide (more ≥ 281474976710656))) = true := c9
   refine T_cT 25 K7 K8 b10 ?_
   refine T_sr 2 K9 K10 ?_
   refine T_ne 2 [(6, vu 0), (7, vi 1)] ?_
   exact T_ret [6, 7] [vu 0, vi 1] hQ h
  rw [if_neg c9] at h
  have b10 : (((((decide (kind < 1)) || (decide (kind > 13))) || (decide (nv < 0))) || (decide (nv > 62))) || (decide (more ≥ 281474976710656))) = false := eq_false_of_ne_true c9
  refine T_cF 25 K7 K8 b10 ?_
  refine T_kt ?_
  refine T_sr 3 K11 K12 ?_
  refine T_ne 13 [(6, vu (ior .u64 (ior .u64 (ior .u64 (ishl .u64 more 16) (ishl .u64 (IntKind.wrap .u64 nv) 8)) (ishl .u64 (IntKind.wrap .u64 kind) 3)) 5)), (7, vi 0)] ?_
  exact T_ret [6, 7] [vu (ior .u64 (ior .u64 (ior .u64 (ishl .u64 more 16) (ishl .u64 (IntKind.wrap .u64 nv) 8)) (ishl .u64 (IntKind.wrap .u64 kind) 3)) 5), vi 0] hQ h
 intro hk
 refine T_n 3 [(0, vi kind), (1, vi nv), (2, vu more), (10, .bool (decide (kind < 1)))] ?_
 by_cases c1 : kind < 1
 ·have b2 : (decide (kind < 1)) = true := decide_eq_true c1
  refine N_env [(0, vi kind), (1, vi nv), (2, vu more), (10, .bool true)] (by rw [b2]) ?_
  refine T_n 15 [(0, vi kind), (1, vi nv), (2, vu more), (25, .bool true)] ?_
  refine N_end (by kernel_rfl) ?_
  refine S_env [(0, vi kind), (1, vi nv), (2, vu more), (25, .bool (((((decide (kind < 1)) || (decide (kind > 13))) || (decide (nv < 0))) || (decide (nv > 62))) || (decide (more ≥ 281474976710656))))] (by simp only [b2, BL]) ?_
  exact hk
 have b2 : (decide (kind < 1)) = false := decide_eq_false c1
 refine N_env [(0, vi kind), (1, vi nv), (2, vu more), (10, .bool false)] (by rw [b2]) ?_
 refine T_n 4 [(0, vi kind), (1, vi nv), (2, vu more), (14, .bool (decide (kind > 13)))] ?_
 by_cases c3 : kind > 13
 ·have b4 : (decide (kind > 13)) = true := decide_eq_true c3
  refine N_env [(0, vi kind), (1, vi nv), (2, vu more), (14, .bool true)] (by rw [b4]) ?_
  refine T_n 11 [(0, vi kind), (1, vi nv), (2, vu more), (25, .bool true)] ?_
  refine N_end (by kernel_rfl) ?_
  refine S_env [(0, vi kind), (1, vi nv), (2, vu more), (25, .bool (((((decide (kind < 1)) || (decide (kind > 13))) || (decide (nv < 0))) || (decide (nv > 62))) || (decide (more ≥ 281474976710656))))] (by simp only [b2, b4, BL]) ?_
  exact hk
 have b4 : (decide (kind > 13)) = false := decide_eq_false c3
 refine N_env [(0, vi kind), (1, vi nv), (2, vu more), (14, .bool false)] (by rw [b4]) ?_
 refine T_n 4 [(0, vi kind), (1, vi nv), (2, vu more), (18, .bool (decide (nv < 0)))] ?_
 by_cases c5 : nv < 0
 ·have b6 : (decide (nv < 0)) = true := decide_eq_true c5
  refine N_env [(0, vi kind), (1, vi nv), (2, vu more), (18, .bool true)] (by rw [b6]) ?_
  refine T_n 7 [(0, vi kind), (1, vi nv), (2, vu more), (25, .bool true)] ?_
  refine N_end (by kernel_rfl) ?_
  refine S_env [(0, vi kind), (1, vi nv), (2, vu more), (25, .bool (((((decide (kind < 1)) || (decide (kind > 13))) || (decide (nv < 0))) || (decide (nv > 62))) || (decide (more ≥ 281474976710656))))] (by simp only [b2, b4, b6, BL]) ?_
  exact hk
 have b6 : (decide (nv < 0)) = false := decide_eq_false c5
 refine N_env [(0, vi kind), (1, vi nv), (2, vu more), (18, .bool false)] (by rw [b6]) ?_
 refine T_n 4 [(0, vi kind), (1, vi nv), (2, vu more), (22, .bool (decide (nv > 62)))] ?_
 by_cases c7 : nv > 62
 ·have b8 : (decide (nv > 62)) = true := decide_eq_true c7
  refine N_env [(0, vi kind), (1, vi nv), (2, vu more), (22, .bool true)] (by rw [b8]) ?_
  refine T_n 3 [(0, vi kind), (1, vi nv), (2, vu more), (25, .bool true)] ?_
  refine N_end (by kernel_rfl) ?_
  refine S_env [(0, vi kind), (1, vi nv), (2, vu more), (25, .bool (((((decide (kind < 1)) || (decide (kind > 13))) || (decide (nv < 0))) || (decide (nv > 62))) || (decide (more ≥ 281474976710656))))] (by simp only [b2, b4, b6, b8, BL]) ?_
  exact hk
 have b8 : (decide (nv > 62)) = false := decide_eq_false c7
 refine N_env [(0, vi kind), (1, vi nv), (2, vu more), (22, .bool false)] (by rw [b8]) ?_
 refine T_n 3 [(0, vi kind), (1, vi nv), (2, vu more), (25, .bool (decide (more ≥ 281474976710656)))] ?_
 refine N_end (by kernel_rfl) ?_
 refine S_env [(0, vi kind), (1, vi nv), (2, vu more), (25, .bool (((((decide (kind < 1)) || (decide (kind > 13))) || (decide (nv < 0))) || (decide (nv > 62))) || (decide (more ≥ 281474976710656))))] (by simp only [b2, b4, b6, b8, BL]) ?_
 exact hk
end word_Header

/-! moraine/word.Tag -/
namespace word_Tag
def K0 := Func.code Tryz.f96
def K1 := ca K0
def K2 := cb K0
def K3 := ca K2
def K4 := cb K2
end word_Tag
def word_Tag.pt (wv : Int) (H : Array Obj) (R : Value → Array Obj → Prop) : Prop :=
 R (.int .i64 (IntKind.wrap .i64 (iand .u64 wv 7))) H
namespace word_Tag
set_option maxRecDepth 100000 in
theorem link {wv : Int} {H : Array Obj} {R : Value → Array Obj → Prop} (h : pt wv H R) : C wv H R := by
 refine T_en K0 6 Tryz.func96 ?_
 intro w0 Q hQ
 unfold pt at h
 refine T_su [(0, vu wv)] ?_
 refine T_sr 0 K1 K2 ?_
 refine T_ne 1 [(0, vu wv)] ?_
 refine T_sr 1 K3 K4 ?_
 refine T_ne 4 [(2, vi (IntKind.wrap .i64 (iand .u64 wv 7)))] ?_
 exact T_ret [2] [vi (IntKind.wrap .i64 (iand .u64 wv 7))] hQ h
end word_Tag

/-! moraine/word.Head -/
namespace word_Head
def K0 := Func.code Tryz.f102
def K1 := ca K0
def K2 := cb K0
def K3 := ca K2
def K4 := cb K2
def K5 := ca K3
def K6 := cb K3
def K7 := ca K6
def K8 := cb K6
def K9 := ca K4
def K10 := cb K4
def K11 := ca K10
def K12 := cb K10
def K13 := ca K7
def K14 := cb K7
end word_Head
def word_Head.pt (wv : Int) (H : Array Obj) (R : Value → Array Obj → Prop) : Prop :=
 word_Tag.C wv H (fun v H1 => ∃ x : Int, v = .int .i64 x ∧ 
 if x = 5 then (
 word_May.C wv H1 (fun b H2 => ∃ a : Bool, b = .bool a ∧ 
 if a = true then (
 word_parts.C wv H2 (fun d H3 => ∃ ra : Int, ∃ rb : Int, ∃ rc : Int, d = .tuple #[.int .i64 ra, .int .i64 rb, .int .u64 rc] ∧ 
 R (.tuple #[.int .i64 ra, .int .i64 rb, .int .u64 rc, .bool true]) H3))
 else
 R (.tuple #[.int .i64 0, .int .i64 0, .int .u64 0, .bool false]) H2))
 else
 R (.tuple #[.int .i64 0, .int .i64 0, .int .u64 0, .bool false]) H1)
namespace word_Head
set_option maxRecDepth 100000 in
theorem link {wv : Int} {H : Array Obj} {R : Value → Array Obj → Prop} (h : pt wv H R) : C wv H R := by
 refine T_en K0 23 Tryz.func102 ?_
 intro w0 Q hQ
 unfold pt at h
 refine T_su [(0, vu wv)] ?_
 refine T_sr 0 K1 K2 ?_
 refine T_ne 4 [(0, vu wv)] ?_
 refine T_s K3 K4 ?_
 refine T_sr 1 K5 K6 ?_
 refine T_n 1 [(0, vu wv), (6, vu wv)] ?_
 refine T_c (some 7) h ?_; clear h
 rintro v H1 ⟨x, rfl, h⟩
 refine ⟨[(0, vu wv), (7, vi x)], pk, ?_⟩
 refine T_n 2 [(0, vu wv), (9, .bool (x != 5))] ?_
 by_cases c1 : x = 5
 ·rw [if_pos c1] at h
  have b2 : (x != 5) = false := bne_eq_false_iff_eq.mpr c1
  refine N_env [(0, vu wv), (9, .bool false)] (by rw [b2]) ?_
  clear b2
  refine T_n 1 [(0, vu wv), (9, .bool false), (10, vu wv)] ?_
  refine T_c (some 11) h ?_; clear h
  rintro b H2 ⟨a, rfl, h⟩
  refine ⟨[(0, vu wv), (9, .bool false), (11, .bool a)], pk, ?_⟩
  refine T_ne 2 [(0, vu wv), (13, .bool (!a))] ?_
  by_cases c3 : a = true
  ·rw [if_pos c3] at h
   have b4 : (!a) = false := congrArg Bool.not (c3)
   refine T_cF 13 K7 K8 b4 ?_
   refine T_kt ?_
   refine T_sr 3 K9 K10 ?_
   refine T_n 1 [(15, vu wv)] ?_
   refine T_c (some 16) h ?_; clear h
   rintro d H3 ⟨ra, rb, rc, rfl, h⟩
   refine ⟨[(16, .tuple #[vi ra, vi rb, vu rc])], pk, ?_⟩
   refine T_ne 7 [(2, vi ra), (3, vi rb), (4, vu rc)] ?_
   refine T_sr 4 K11 K12 ?_
   refine T_ne 7 [(2, vi ra), (3, vi rb), (4, vu rc), (5, .bool true)] ?_
   exact T_ret [2, 3, 4, 5] [vi ra, vi rb, vu rc, .bool true] hQ h
  rw [if_neg c3] at h
  have b4 : (!a) = true := congrArg Bool.not (eq_false_of_ne_true c3)
  refine T_cT 13 K7 K8 b4 ?_
  refine T_sr 2 K13 K14 ?_
  refine T_ne 4 [(2, vi 0), (3, vi 0), (4, vu 0), (5, .bool false)] ?_
  exact T_ret [2, 3, 4, 5] [vi 0, vi 0, vu 0, .bool false] hQ h
 rw [if_neg c1] at h
 have b2 : (x != 5) = true := bne_iff_ne.mpr c1
 refine N_env [(0, vu wv), (9, .bool true)] (by rw [b2]) ?_
 clear b2
 refine T_ne 4 [(0, vu wv), (13, .bool true)] ?_
 refine T_t 13 K7 K8 ?_
 refine T_sr 2 K13 K14 ?_
 refine T_ne 4 [(2, vi 0), (3, vi 0), (4, vu 0), (5, .bool false)] ?_
 exact T_ret [2, 3, 4, 5] [vi 0, vi 0, vu 0, .bool false] hQ h
end word_Head

/-! moraine/word.Rune -/
namespace word_Rune
def K0 := Func.code Tryz.f110
def K1 := ca K0
def K2 := cb K0
def K3 := ca K2
def K4 := cb K2
def K5 := ca K3
def K6 := cb K3
def K7 := ca K6
def K8 := cb K6
def K9 := ca K8
def K10 := cb K8
def K11 := ca K4
def K12 := cb K4
def K13 := ca K9
def K14 := cb K9
end word_Rune
def word_Rune.pt (wv : Int) (H : Array Obj) (R : Value → Array Obj → Prop) : Prop :=
 word_parts.C wv H (fun v H1 => ∃ ra : Int, ∃ rb : Int, ∃ rc : Int, v = .tuple #[.int .i64 ra, .int .i64 rb, .int .u64 rc] ∧ 
 word_Tag.C wv H1 (fun b H2 => ∃ x : Int, b = .int .i64 x ∧ 
 if x = 4 then (
 if ra = 7 then (
 word_May.C wv H2 (fun d H3 => ∃ a : Bool, d = .bool a ∧ 
 if a = true then (
 R (.tuple #[.int .i32 (IntKind.wrap .i32 (ishr .u64 wv 8)), .bool true]) H3)
 else
 R (.tuple #[.int .i32 0, .bool false]) H3))
 else
 R (.tuple #[.int .i32 0, .bool false]) H2)
 else
 R (.tuple #[.int .i32 0, .bool false]) H2))
namespace word_Rune
set_option maxRecDepth 100000 in
theorem link {wv : Int} {H : Array Obj} {R : Value → Array Obj → Prop} (h : pt wv H R) : C wv H R := by
 refine T_en K0 28 Tryz.func110 ?_
 intro w0 Q hQ
 unfold pt at h
 refine T_su [(0, vu wv)] ?_
 refine T_sr 0 K1 K2 ?_
 refine T_ne 2 [(0, vu wv)] ?_
 refine T_s K3 K4 ?_
 refine T_sr 1 K5 K6 ?_
 refine T_n 1 [(0, vu wv), (8, vu wv)] ?_
 refine T_c (some 9) h ?_; clear h
 rintro v H1 ⟨ra, rb, rc, rfl, h⟩
 refine ⟨[(0, vu wv), (9, .tuple #[vi ra, vi rb, vu rc])], pk, ?_⟩
 refine T_ne 7 [(0, vu wv), (4, vi ra)] ?_
 refine T_sr 2 K7 K8 ?_
 refine T_n 1 [(0, vu wv), (4, vi ra), (13, vu wv)] ?_
 refine T_c (some 14) h ?_; clear h
 rintro b H2 ⟨x, rfl, h⟩
 refine ⟨[(0, vu wv), (4, vi ra), (14, vi x)], pk, ?_⟩
 refine T_n 2 [(0, vu wv), (4, vi ra), (16, .bool (x != 4))] ?_
 by_cases c1 : x = 4
 ·rw [if_pos c1] at h
  have b2 : (x != 4) = false := bne_eq_false_iff_eq.mpr c1
  refine N_env [(0, vu wv), (4, vi ra), (16, .bool false)] (by rw [b2]) ?_
  clear b2
  refine T_n 4 [(0, vu wv), (20, .bool (ra != 7))] ?_
  by_cases c3 : ra = 7
  ·rw [if_pos c3] at h
   have b4 : (ra != 7) = false := bne_eq_false_iff_eq.mpr c3
   refine N_env [(0, vu wv), (20, .bool false)] (by rw [b4]) ?_
   clear b4
   refine T_n 1 [(0, vu wv), (20, .bool false), (21, vu wv)] ?_
   refine T_c (some 22) h ?_; clear h
   rintro d H3 ⟨a, rfl, h⟩
   refine ⟨[(0, vu wv), (20, .bool false), (22, .bool a)], pk, ?_⟩
   refine T_ne 2 [(0, vu wv), (24, .bool (!a))] ?_
   by_cases c5 : a = true
   ·rw [if_pos c5] at h
    have b6 : (!a) = false := congrArg Bool.not (c5)
    refine T_cF 24 K9 K10 b6 ?_
    refine T_kt ?_
    refine T_sr 4 K11 K12 ?_
    refine T_ne 5 [(2, .int .i32 (IntKind.wrap .i32 (ishr .u64 wv 8))), (3, .bool true)] ?_
    exact T_ret [2, 3] [.int .i32 (IntKind.wrap .i32 (ishr .u64 wv 8)), .bool true] hQ h
   rw [if_neg c5] at h
   have b6 : (!a) = true := congrArg Bool.not (eq_false_of_ne_true c5)
   refine T_cT 24 K9 K10 b6 ?_
   refine T_sr 3 K13 K14 ?_
   refine T_ne 2 [(2, .int .i32 0), (3, .bool false)] ?_
   exact T_ret [2, 3] [.int .i32 0, .bool false] hQ h
  rw [if_neg c3] at h
  have b4 : (ra != 7) = true := bne_iff_ne.mpr c3
  refine N_env [(0, vu wv), (20, .bool true)] (by rw [b4]) ?_
  clear b4
  refine T_ne 4 [(0, vu wv), (24, .bool true)] ?_
  refine T_t 24 K9 K10 ?_
  refine T_sr 3 K13 K14 ?_
  refine T_ne 2 [(2, .int .i32 0), (3, .bool false)] ?_
  exact T_ret [2, 3] [.int .i32 0, .bool false] hQ h
 rw [if_neg c1] at h
 have b2 : (x != 4) = true := bne_iff_ne.mpr c1
 refine N_env [(0, vu wv), (4, vi ra), (16, .bool true)] (by rw [b2]) ?_
 clear b2
 refine T_ne 8 [(0, vu wv), (24, .bool true)] ?_
 refine T_t 24 K9 K10 ?_
 refine T_sr 3 K13 K14 ?_
 refine T_ne 2 [(2, .int .i32 0), (3, .bool false)] ?_
 exact T_ret [2, 3] [.int .i32 0, .bool false] hQ h
end word_Rune

/-! moraine/word.At -/
namespace word_At
def K0 := Func.code Tryz.f142
def K1 := ca K0
def K2 := cb K0
def K3 := ca K2
def K4 := cb K2
def K5 := ca K3
def K6 := ca K5
def K7 := cb K5
def K8 := ca K7
def K9 := cb K7
def K10 := ca K9
def K11 := cb K9
def K12 := ca K11
def K13 := cb K11
def K14 := ca K12
def K15 := cb K12
def K16 := ca K4
def K17 := cb K4
def K18 := ca K8
def K19 := cb K8
end word_At
def word_At.pt (tag : Int) (addr : Int) (H : Array Obj) (R : Value → Array Obj → Prop) : Prop :=
 word_place.C tag H (fun v H1 => ∃ x : Bool, v = .bool x ∧ 
 if x = true then (
 if ((decide (addr < 0)) || (decide (addr ≥ 65536))) = true then (
 R (.tuple #[.int .u64 0, .int .i64 18]) H1)
 else
 R (.tuple #[.int .u64 (ior .u64 (ishl .u64 (IntKind.wrap .u64 addr) 3) (IntKind.wrap .u64 tag)), .int .i64 0]) H1)
 else
 R (.tuple #[.int .u64 0, .int .i64 1]) H1)
namespace word_At
set_option maxRecDepth 100000 in
theorem link {tag : Int} {addr : Int} {H : Array Obj} {R : Value → Array Obj → Prop} (h : pt tag addr H R) : C tag addr H R := by
 refine T_en K0 23 Tryz.func142 ?_
 intro w0 Q hQ
 unfold pt at h
 refine T_su [(0, vi tag), (1, vi addr)] ?_
 refine T_sr 0 K1 K2 ?_
 refine T_ne 2 [(0, vi tag), (1, vi addr)] ?_
 refine T_s K3 K4 ?_
 refine T_b 0 K5 ?_
 refine T_sr 1 K6 K7 ?_
 refine T_n 1 [(0, vi tag), (1, vi addr), (7, vi tag)] ?_
 refine T_c (some 8) h ?_; clear h
 rintro v H1 ⟨x, rfl, h⟩
 refine ⟨[(0, vi tag), (1, vi addr), (8, .bool x)], pk, ?_⟩
 refine T_ne 2 [(0, vi tag), (1, vi addr), (6, .bool (!x))] ?_
 by_cases c1 : x = true
 ·rw [if_pos c1] at h
  have b2 : (!x) = false := congrArg Bool.not (c1)
  refine T_cF 6 K8 K9 b2 ?_
  refine T_sr 3 K10 K11 ?_
  refine N_cut [(0, vi tag), (1, vi addr), (10, .bool ((decide (addr < 0)) || (decide (addr ≥ 65536))))] ?_ ?_
  ·refine S_then ?_
   by_cases c5 : ((decide (addr < 0)) || (decide (addr ≥ 65536))) = true
   ·rw [if_pos c5] at h
    have b6 : ((decide (addr < 0)) || (decide (addr ≥ 65536))) = true := c5
    refine T_cT 10 K12 K13 b6 ?_
    refine T_sr 4 K14 K15 ?_
    refine T_ne 2 [(4, vu 0), (5, vi 18)] ?_
    exact T_ret [4, 5] [vu 0, vi 18] hQ h
   rw [if_neg c5] at h
   have b6 : ((decide (addr < 0)) || (decide (addr ≥ 65536))) = false := eq_false_of_ne_true c5
   refine T_cF 10 K12 K13 b6 ?_
   refine T_k ?_
   refine S_blockEnd ?_
   refine S_then ?_
   refine T_sr 5 K16 K17 ?_
   refine T_ne 8 [(4, vu (ior .u64 (ishl .u64 (IntKind.wrap .u64 addr) 3) (IntKind.wrap .u64 tag))), (5, vi 0)] ?_
   exact T_ret [4, 5] [vu (ior .u64 (ishl .u64 (IntKind.wrap .u64 addr) 3) (IntKind.wrap .u64 tag)), vi 0] hQ h
  intro hk
  refine T_n 3 [(0, vi tag), (1, vi addr), (13, .bool (decide (addr < 0)))] ?_
  by_cases c3 : addr < 0
  ·have b4 : (decide (addr < 0)) = true := decide_eq_true c3
   refine N_env [(0, vi tag), (1, vi addr), (13, .bool true)] (by rw [b4]) ?_
   refine T_n 4 [(0, vi tag), (1, vi addr), (10, .bool true)] ?_
   refine N_end (by kernel_rfl) ?_
   refine S_env [(0, vi tag), (1, vi addr), (10, .bool ((decide (addr < 0)) || (decide (addr ≥ 65536))))] (by simp only [b4, BL]) ?_
   exact hk
  have b4 : (decide (addr < 0)) = false := decide_eq_false c3
  refine N_env [(0, vi tag), (1, vi addr), (13, .bool false)] (by rw [b4]) ?_
  refine T_n 4 [(0, vi tag), (1, vi addr), (10, .bool (decide (addr ≥ 65536)))] ?_
  refine N_end (by kernel_rfl) ?_
  refine S_env [(0, vi tag), (1, vi addr), (10, .bool ((decide (addr < 0)) || (decide (addr ≥ 65536))))] (by simp only [b4, BL]) ?_
  exact hk
 rw [if_neg c1] at h
 have b2 : (!x) = true := congrArg Bool.not (eq_false_of_ne_true c1)
 refine T_cT 6 K8 K9 b2 ?_
 refine T_sr 2 K18 K19 ?_
 refine T_ne 2 [(4, vu 0), (5, vi 1)] ?_
 exact T_ret [4, 5] [vu 0, vi 1] hQ h
end word_At

/-! moraine/word.Addr -/
namespace word_Addr
def K0 := Func.code Tryz.f149
def K1 := ca K0
def K2 := cb K0
def K3 := ca K2
def K4 := cb K2
def K5 := ca K3
def K6 := cb K3
def K7 := ca K6
def K8 := cb K6
def K9 := ca K4
def K10 := cb K4
def K11 := ca K7
def K12 := cb K7
end word_Addr
def word_Addr.pt (wv : Int) (H : Array Obj) (R : Value → Array Obj → Prop) : Prop :=
 word_Tag.C wv H (fun v H1 => ∃ x : Int, v = .int .i64 x ∧ 
 word_place.C x H1 (fun d H2 => ∃ a : Bool, d = .bool a ∧ 
 if a = true then (
 word_May.C wv H2 (fun e H3 => ∃ b : Bool, e = .bool b ∧ 
 if b = true then (
 R (.tuple #[.int .i64 (IntKind.wrap .i64 (ishr .u64 wv 3)), .bool true]) H3)
 else
 R (.tuple #[.int .i64 0, .bool false]) H3))
 else
 R (.tuple #[.int .i64 0, .bool false]) H2))
namespace word_Addr
set_option maxRecDepth 100000 in
theorem link {wv : Int} {H : Array Obj} {R : Value → Array Obj → Prop} (h : pt wv H R) : C wv H R := by
 refine T_en K0 16 Tryz.func149 ?_
 intro w0 Q hQ
 unfold pt at h
 refine T_su [(0, vu wv)] ?_
 refine T_sr 0 K1 K2 ?_
 refine T_ne 2 [(0, vu wv)] ?_
 refine T_s K3 K4 ?_
 refine T_sr 1 K5 K6 ?_
 refine T_n 1 [(0, vu wv), (4, vu wv)] ?_
 refine T_c (some 5) h ?_; clear h
 rintro v H1 ⟨x, rfl, h⟩
 refine ⟨[(0, vu wv), (5, vi x)], pk, ?_⟩
 refine T_c (some 6) h ?_; clear h
 rintro d H2 ⟨a, rfl, h⟩
 refine ⟨[(0, vu wv), (6, .bool a)], pk, ?_⟩
 refine T_n 2 [(0, vu wv), (8, .bool (!a))] ?_
 by_cases c1 : a = true
 ·rw [if_pos c1] at h
  have b2 : (!a) = false := congrArg Bool.not (c1)
  have b22 : a = true := c1
  refine N_env [(0, vu wv), (8, .bool false)] (by simp only [b2, b22, Bool.not_true, Bool.not_false]) ?_
  clear b2 b22
  refine T_n 1 [(0, vu wv), (8, .bool false), (9, vu wv)] ?_
  refine T_c (some 10) h ?_; clear h
  rintro e H3 ⟨b, rfl, h⟩
  refine ⟨[(0, vu wv), (8, .bool false), (10, .bool b)], pk, ?_⟩
  refine T_ne 2 [(0, vu wv), (12, .bool (!b))] ?_
  by_cases c3 : b = true
  ·rw [if_pos c3] at h
   have b4 : (!b) = false := congrArg Bool.not (c3)
   refine T_cF 12 K7 K8 b4 ?_
   refine T_kt ?_
   refine T_sr 3 K9 K10 ?_
   refine T_ne 5 [(2, vi (IntKind.wrap .i64 (ishr .u64 wv 3))), (3, .bool true)] ?_
   exact T_ret [2, 3] [vi (IntKind.wrap .i64 (ishr .u64 wv 3)), .bool true] hQ h
  rw [if_neg c3] at h
  have b4 : (!b) = true := congrArg Bool.not (eq_false_of_ne_true c3)
  refine T_cT 12 K7 K8 b4 ?_
  refine T_sr 2 K11 K12 ?_
  refine T_ne 2 [(2, vi 0), (3, .bool false)] ?_
  exact T_ret [2, 3] [vi 0, .bool false] hQ h
 rw [if_neg c1] at h
 have b2 : (!a) = true := congrArg Bool.not (eq_false_of_ne_true c1)
 have b22 : a = false := eq_false_of_ne_true c1
 refine N_env [(0, vu wv), (8, .bool true)] (by simp only [b2, b22, Bool.not_true, Bool.not_false]) ?_
 clear b2 b22
 refine T_ne 4 [(0, vu wv), (12, .bool true)] ?_
 refine T_t 12 K7 K8 ?_
 refine T_sr 2 K11 K12 ?_
 refine T_ne 2 [(2, vi 0), (3, .bool false)] ?_
 exact T_ret [2, 3] [vi 0, .bool false] hQ h
end word_Addr

/-! moraine/word.May -/
namespace word_May
def K0 := Func.code Tryz.f151
def K1 := ca K0
def K2 := cb K0
def K3 := ca K2
def K4 := cb K2
def K5 := ca K4
def K6 := cb K4
def K7 := ca K5
def K8 := cb K5
def K9 := ca K8
def K10 := ca K9
def K11 := cb K9
def K12 := ca K10
def K13 := ca K12
def K14 := cb K12
def K15 := ca K13
def K16 := ca K15
def K17 := cb K15
def K18 := ca K16
def K19 := ca K18
def K20 := ca K19
def K21 := ca K20
def K22 := ca K21
def K23 := cb K21
def K24 := ca K22
def K25 := ca K24
def K26 := cb K24
def K27 := ca K25
def K28 := cb K25
def K29 := ca K27
def K30 := cb K27
def K31 := ca K30
def K32 := cb K30
def K33 := ca K23
def K34 := cb K23
def K35 := ca K33
def K36 := cb K33
def K37 := ca K28
def K38 := cb K28
def K39 := ca K37
def K40 := cb K37
def K41 := ca K40
def K42 := cb K40
def K43 := ca K17
def K44 := cb K17
def K45 := ca K43
def K46 := cb K43
def K47 := ca K38
def K48 := cb K38
def K49 := ca K47
def K50 := cb K47
def K51 := ca K50
def K52 := cb K50
def K53 := ca K48
def K54 := cb K48
def K55 := ca K53
def K56 := cb K53
def K57 := ca K56
def K58 := cb K56
def K59 := ca K54
def K60 := cb K54
def K61 := ca K59
def K62 := cb K59
def K63 := ca K62
def K64 := cb K62
def K65 := ca K60
def K66 := cb K60
def K67 := ca K65
def K68 := cb K65
def K69 := ca K68
def K70 := cb K68
def K71 := ca K14
def K72 := cb K14
def K73 := ca K71
def K74 := cb K71
def K75 := ca K73
def K76 := cb K73
def K77 := ca K76
def K78 := cb K76
def K79 := ca K77
def K80 := cb K77
def K81 := ca K74
def K82 := cb K74
def K83 := ca K66
def K84 := cb K66
def K85 := ca K84
def K86 := cb K84
def K87 := ca K11
def K88 := cb K11
def K89 := ca K87
def K90 := cb K87
def K91 := ca K6
def K92 := cb K6
end word_May
def word_May.pt (wv : Int) (H : Array Obj) (R : Value → Array Obj → Prop) : Prop :=
 word_parts.C wv H (fun v H1 => ∃ ra : Int, ∃ rb : Int, ∃ rc : Int, v = .tuple #[.int .i64 ra, .int .i64 rb, .int .u64 rc] ∧ 
 word_Tag.C wv H1 (fun b H2 => ∃ x : Int, b = .int .i64 x ∧ 
 if x = 0 then (
 R (.bool true) H2)
 else
 if x = 1 then (
 R (.bool (decide ((ishr .u64 wv 3) < 65536))) H2)
 else
 if x = 2 then (
 R (.bool (decide ((ishr .u64 wv 3) < 65536))) H2)
 else
 if x = 3 then (
 R (.bool (decide ((ishr .u64 wv 3) < 65536))) H2)
 else
 if x = 6 then (
 R (.bool (decide ((ishr .u64 wv 3) < 65536))) H2)
 else
 if x = 4 then (
 if ra = 7 then (
 word_letter.C (ishr .u64 wv 8) H2 (fun d H3 => ∃ a : Bool, d = .bool a ∧ 
 R (.bool a) H3))
 else
 R (.bool (decide ((ishr .u64 wv 3) ≤ 6))) H2)
 else
 if x = 5 then (
 R (.bool (((decide (ra ≥ 1)) && (decide (ra ≤ 13))) && (decide (rb ≤ 62)))) H2)
 else
 R (.bool false) H2))
namespace word_May
set_option maxRecDepth 100000 in
theorem link {wv : Int} {H : Array Obj} {R : Value → Array Obj → Prop} (h : pt wv H R) : C wv H R := by
 refine T_en K0 49 Tryz.func151 ?_
 intro w0 Q hQ
 unfold pt at h
 refine T_su [(0, vu wv)] ?_
 refine T_sr 0 K1 K2 ?_
 refine T_ne 1 [(0, vu wv)] ?_
 refine T_sr 1 K3 K4 ?_
 refine T_n 1 [(0, vu wv), (7, vu wv)] ?_
 refine T_c (some 8) h ?_; clear h
 rintro v H1 ⟨ra, rb, rc, rfl, h⟩
 refine ⟨[(0, vu wv), (8, .tuple #[vi ra, vi rb, vu rc])], pk, ?_⟩
 refine T_ne 7 [(0, vu wv), (3, vi ra), (4, vi rb)] ?_
 refine T_s K5 K6 ?_
 refine T_sr 2 K7 K8 ?_
 refine T_n 1 [(0, vu wv), (3, vi ra), (4, vi rb), (12, vu wv)] ?_
 refine T_c (some 13) h ?_; clear h
 rintro b H2 ⟨x, rfl, h⟩
 refine ⟨[(0, vu wv), (3, vi ra), (4, vi rb), (13, vi x)], pk, ?_⟩
 refine T_e ?_
 refine T_b 0 K9 ?_
 refine T_s K10 K11 ?_
 refine T_b 7 K12 ?_
 refine T_s K13 K14 ?_
 refine T_b 6 K15 ?_
 refine T_s K16 K17 ?_
 refine T_b 5 K18 ?_
 refine T_b 4 K19 ?_
 refine T_b 3 K20 ?_
 refine T_b 2 K21 ?_
 refine T_s K22 K23 ?_
 refine T_b 1 K24 ?_
 refine T_s K25 K26 ?_
 refine T_s K27 K28 ?_
 refine T_sr 3 K29 K30 ?_
 refine T_ne 2 [(0, vu wv), (3, vi ra), (4, vi rb), (13, vi x), (14, .bool (x == 0))] ?_
 by_cases c1 : x = 0
 ·rw [if_pos c1] at h
  have b2 : (x == 0) = true := beq_iff_eq.mpr c1
  refine T_cT 14 K31 K32 b2 ?_
  refine S_exit 1 (by kernel_rfl) ?_
  refine S_exitThen ?_
  refine S_exitThen ?_
  refine S_exitHere ?_
  refine S_then ?_
  refine T_s K33 K34 ?_
  refine T_sr 10 K35 K36 ?_
  refine T_ne 1 [(2, .bool true)] ?_
  exact T_ret [2] [.bool true] hQ h
 rw [if_neg c1] at h
 have b2 : (x == 0) = false := beq_eq_false_iff_ne.mpr c1
 refine T_cF 14 K31 K32 b2 ?_
 refine T_kt ?_
 refine T_s K37 K38 ?_
 refine T_sr 4 K39 K40 ?_
 refine T_ne 2 [(0, vu wv), (3, vi ra), (4, vi rb), (13, vi x), (16, .bool (x == 1))] ?_
 by_cases c3 : x = 1
 ·rw [if_pos c3] at h
  have b4 : (x == 1) = true := beq_iff_eq.mpr c3
  refine T_cT 16 K41 K42 b4 ?_
  refine S_exit 2 (by kernel_rfl) ?_
  refine S_exitThen ?_
  refine S_exitThen ?_
  refine S_exitPast (by kernel_rfl) ?_
  refine S_exitThen ?_
  refine S_exitHere ?_
  refine S_blockEnd ?_
  refine S_blockEnd ?_
  refine S_blockEnd ?_
  refine S_then ?_
  refine T_s K43 K44 ?_
  refine T_sr 11 K45 K46 ?_
  refine T_ne 4 [(2, .bool (decide ((ishr .u64 wv 3) < 65536)))] ?_
  exact T_ret [2] [.bool (decide ((ishr .u64 wv 3) < 65536))] hQ h
 rw [if_neg c3] at h
 have b4 : (x == 1) = false := beq_eq_false_iff_ne.mpr c3
 refine T_cF 16 K41 K42 b4 ?_
 refine T_kt ?_
 refine T_s K47 K48 ?_
 refine T_sr 5 K49 K50 ?_
 refine T_ne 2 [(0, vu wv), (3, vi ra), (4, vi rb), (13, vi x), (18, .bool (x == 2))] ?_
 by_cases c5 : x = 2
 ·rw [if_pos c5] at h
  have b6 : (x == 2) = true := beq_iff_eq.mpr c5
  refine T_cT 18 K51 K52 b6 ?_
  refine S_exit 3 (by kernel_rfl) ?_
  refine S_exitThen ?_
  refine S_exitThen ?_
  refine S_exitPast (by kernel_rfl) ?_
  refine S_exitThen ?_
  refine S_exitPast (by kernel_rfl) ?_
  refine S_exitHere ?_
  refine S_blockEnd ?_
  refine S_blockEnd ?_
  refine S_then ?_
  refine T_s K43 K44 ?_
  refine T_sr 11 K45 K46 ?_
  refine T_ne 4 [(2, .bool (decide ((ishr .u64 wv 3) < 65536)))] ?_
  exact T_ret [2] [.bool (decide ((ishr .u64 wv 3) < 65536))] hQ h
 rw [if_neg c5] at h
 have b6 : (x == 2) = false := beq_eq_false_iff_ne.mpr c5
 refine T_cF 18 K51 K52 b6 ?_
 refine T_kt ?_
 refine T_s K53 K54 ?_
 refine T_sr 6 K55 K56 ?_
 refine T_ne 2 [(0, vu wv), (3, vi ra), (4, vi rb), (13, vi x), (20, .bool (x == 3))] ?_
 by_cases c7 : x = 3
 ·rw [if_pos c7] at h
  have b8 : (x == 3) = true := beq_iff_eq.mpr c7
  refine T_cT 20 K57 K58 b8 ?_
  refine S_exit 4 (by kernel_rfl) ?_
  refine S_exitThen ?_
  refine S_exitThen ?_
  refine S_exitPast (by kernel_rfl) ?_
  refine S_exitThen ?_
  refine S_exitPast (by kernel_rfl) ?_
  refine S_exitPast (by kernel_rfl) ?_
  refine S_exitHere ?_
  refine S_blockEnd ?_
  refine S_then ?_
  refine T_s K43 K44 ?_
  refine T_sr 11 K45 K46 ?_
  refine T_ne 4 [(2, .bool (decide ((ishr .u64 wv 3) < 65536)))] ?_
  exact T_ret [2] [.bool (decide ((ishr .u64 wv 3) < 65536))] hQ h
 rw [if_neg c7] at h
 have b8 : (x == 3) = false := beq_eq_false_iff_ne.mpr c7
 refine T_cF 20 K57 K58 b8 ?_
 refine T_kt ?_
 refine T_s K59 K60 ?_
 refine T_sr 7 K61 K62 ?_
 refine T_ne 2 [(0, vu wv), (3, vi ra), (4, vi rb), (13, vi x), (22, .bool (x == 6))] ?_
 by_cases c9 : x = 6
 ·rw [if_pos c9] at h
  have b10 : (x == 6) = true := beq_iff_eq.mpr c9
  refine T_cT 22 K63 K64 b10 ?_
  refine S_exit 5 (by kernel_rfl) ?_
  refine S_exitThen ?_
  refine S_exitThen ?_
  refine S_exitPast (by kernel_rfl) ?_
  refine S_exitThen ?_
  refine S_exitPast (by kernel_rfl) ?_
  refine S_exitPast (by kernel_rfl) ?_
  refine S_exitPast (by kernel_rfl) ?_
  refine S_exitHere ?_
  refine S_then ?_
  refine T_s K43 K44 ?_
  refine T_sr 11 K45 K46 ?_
  refine T_ne 4 [(2, .bool (decide ((ishr .u64 wv 3) < 65536)))] ?_
  exact T_ret [2] [.bool (decide ((ishr .u64 wv 3) < 65536))] hQ h
 rw [if_neg c9] at h
 have b10 : (x == 6) = false := beq_eq_false_iff_ne.mpr c9
 refine T_cF 22 K63 K64 b10 ?_
 refine T_kt ?_
 refine T_s K65 K66 ?_
 refine T_sr 8 K67 K68 ?_
 refine T_ne 2 [(0, vu wv), (3, vi ra), (4, vi rb), (13, vi x), (24, .bool (x == 4))] ?_
 by_cases c11 : x = 4
 ·rw [if_pos c11] at h
  have b12 : (x == 4) = true := beq_iff_eq.mpr c11
  refine T_cT 24 K69 K70 b12 ?_
  refine S_exit 6 (by kernel_rfl) ?_
  refine S_exitThen ?_
  refine S_exitThen ?_
  refine S_exitPast (by kernel_rfl) ?_
  refine S_exitThen ?_
  refine S_exitPast (by kernel_rfl) ?_
  refine S_exitPast (by kernel_rfl) ?_
  refine S_exitPast (by kernel_rfl) ?_
  refine S_exitPast (by kernel_rfl) ?_
  refine S_exitThen ?_
  refine S_exitHere ?_
  refine S_then ?_
  refine T_s K71 K72 ?_
  refine T_s K73 K74 ?_
  refine T_sr 12 K75 K76 ?_
  refine T_ne 2 [(0, vu wv), (32, .bool (ra == 7))] ?_
  by_cases c13 : ra = 7
  ·rw [if_pos c13] at h
   have b14 : (ra == 7) = true := beq_iff_eq.mpr c13
   refine T_cT 32 K77 K78 b14 ?_
   refine T_sr 13 K79 K80 ?_
   refine T_n 2 [(34, vu (ishr .u64 wv 8))] ?_
   refine T_c (some 35) h ?_; clear h
   rintro d H3 ⟨a, rfl, h⟩
   refine ⟨[(35, .bool a)], pk, ?_⟩
   refine T_ne 1 [(2, .bool a)] ?_
   exact T_ret [2] [.bool a] hQ h
  rw [if_neg c13] at h
  have b14 : (ra == 7) = false := beq_eq_false_iff_ne.mpr c13
  refine T_cF 32 K77 K78 b14 ?_
  refine T_kt ?_
  refine T_sr 14 K81 K82 ?_
  refine T_ne 4 [(2, .bool (decide ((ishr .u64 wv 3) ≤ 6)))] ?_
  exact T_ret [2] [.bool (decide ((ishr .u64 wv 3) ≤ 6))] hQ h
 rw [if_neg c11] at h
 have b12 : (x == 4) = false := beq_eq_false_iff_ne.mpr c11
 refine T_cF 24 K69 K70 b12 ?_
 refine T_kt ?_
 refine T_sr 9 K83 K84 ?_
 refine T_ne 2 [(3, vi ra), (4, vi rb), (26, .bool (x == 5))] ?_
 by_cases c15 : x = 5
 ·rw [if_pos c15] at h
  have b16 : (x == 5) = true := beq_iff_eq.mpr c15
  refine T_cT 26 K85 K86 b16 ?_
  refine S_exit 7 (by kernel_rfl) ?_
  refine S_exitThen ?_
  refine S_exitPast (by kernel_rfl) ?_
  refine S_exitThen ?_
  refine S_exitPast (by kernel_rfl) ?_
  refine S_exitPast (by kernel_rfl) ?_
  refine S_exitPast (by kernel_rfl) ?_
  refine S_exitPast (by kernel_rfl) ?_
  refine S_exitThen ?_
  refine S_exitPast (by kernel_rfl) ?_
  refine S_exitThen ?_
  refine S_exitHere ?_
  refine S_then ?_
  refine T_s K87 K88 ?_
  refine T_sr 15 K89 K90 ?_
  refine N_cut [(2, .bool (((decide (ra ≥ 1)) && (decide (ra ≤ 13))) && (decide (rb ≤ 62))))] ?_ ?_
  ·refine S_then ?_
   exact T_ret [2] [.bool (((decide (ra ≥ 1)) && (decide (ra ≤ 13))) && (decide (rb ≤ 62)))] hQ h
  intro hk
  refine T_n 3 [(3, vi ra), (4, vi rb), (41, .bool (decide (ra ≥ 1)))] ?_
  by_cases c17 : ra ≥ 1
  ·have b18 : (decide (ra ≥ 1)) = true := decide_eq_true c17
   refine N_env [(3, vi ra), (4, vi rb), (41, .bool true)] (by rw [b18]) ?_
   refine T_n 4 [(4, vi rb), (45, .bool (decide (ra ≤ 13)))] ?_
   by_cases c19 : ra ≤ 13
   ·have b20 : (decide (ra ≤ 13)) = true := decide_eq_true c19
    refine N_env [(4, vi rb), (45, .bool true)] (by rw [b20]) ?_
    refine T_n 4 [(2, .bool (decide (rb ≤ 62)))] ?_
    refine N_end (by kernel_rfl) ?_
    refine S_env [(2, .bool (((decide (ra ≥ 1)) && (decide (ra ≤ 13))) && (decide (rb ≤ 62))))] (by simp only [b18, b20, BL]) ?_
    exact hk
   have b20 : (decide (ra ≤ 13)) = false := decide_eq_false c19
   refine N_env [(4, vi rb), (45, .bool false)] (by rw [b20]) ?_
   refine T_n 4 [(2, .bool false)] ?_
   refine N_end (by kernel_rfl) ?_
   refine S_env [(2, .bool (((decide (ra ≥ 1)) && (decide (ra ≤ 13))) && (decide (rb ≤ 62))))] (by simp only [b18, b20, BL]) ?_
   exact hk
  have b18 : (decide (ra ≥ 1)) = false := decide_eq_false c17
  refine N_env [(3, vi ra), (4, vi rb), (41, .bool false)] (by rw [b18]) ?_
  refine T_n 8 [(2, .bool false)] ?_
  refine N_end (by kernel_rfl) ?_
  refine S_env [(2, .bool (((decide (ra ≥ 1)) && (decide (ra ≤ 13))) && (decide (rb ≤ 62))))] (by simp only [b18, BL]) ?_
  exact hk
 rw [if_neg c15] at h
 have b16 : (x == 5) = false := beq_eq_false_iff_ne.mpr c15
 refine T_cF 26 K85 K86 b16 ?_
 refine T_kt ?_
 refine S_exit 0 (by kernel_rfl) ?_
 refine S_exitPast (by kernel_rfl) ?_
 refine S_exitThen ?_
 refine S_exitPast (by kernel_rfl) ?_
 refine S_exitPast (by kernel_rfl) ?_
 refine S_exitPast (by kernel_rfl) ?_
 refine S_exitPast (by kernel_rfl) ?_
 refine S_exitThen ?_
 refine S_exitPast (by kernel_rfl) ?_
 refine S_exitThen ?_
 refine S_exitPast (by kernel_rfl) ?_
 refine S_exitThen ?_
 refine S_exitHere ?_
 refine S_then ?_
 refine T_sr 16 K91 K92 ?_
 refine T_ne 1 [(2, .bool false)] ?_
 exact T_ret [2] [.bool false] hQ h
end word_May

/-! moraine/word.parts -/
namespace word_parts
def K0 := Func.code Tryz.f152
def K1 := ca K0
def K2 := cb K0
def K3 := ca K2
def K4 := cb K2
def K5 := ca K4
def K6 := cb K4
end word_parts
def word_parts.pt (wv : Int) (H : Array Obj) (R : Value → Array Obj → Prop) : Prop :=
 ∀ (b : Nat) (H1 : Array Obj), b = H.size → H1 = H.push (.cells #[.int .u64 wv] 35) →
 word_parts_1.C 3 5 (some (Addr.mk b 0 none)) H1 (fun v H2 => ∃ x : Int, v = .int .u64 x ∧ 
 word_parts_1.C 8 8 (some (Addr.mk b 0 none)) H2 (fun e H3 => ∃ a : Int, e = .int .u64 a ∧ 
 word_parts_1.C 16 48 (some (Addr.mk b 0 none)) H3 (fun f H4 => ∃ d : Int, f = .int .u64 d ∧ 
 R (.tuple #[.int .i64 (IntKind.wrap .i64 x), .int .i64 (IntKind.wrap .i64 a), .int .u64 d]) H4)))
namespace word_parts
set_option maxRecDepth 100000 in
theorem link {wv : Int} {H : Array Obj} {R : Value → Array Obj → Prop} (h : pt wv H R) : C wv H R := by
 refine T_en K0 15 Tryz.func152 ?_
 intro w0 Q hQ
 unfold pt at h
 refine T_su [(0, vu wv)] ?_
 refine T_sr 0 K1 K2 ?_
 refine T_nw (some 1) (fun b => vp (pa b)) (.cells #[vu wv] 35) ?_
 intro b H1 e1 e2
 replace h := h b H1 e1 e2
 refine ⟨[(1, vp (pa b))], pk, ?_⟩
 refine T_ne 3 [(1, vp (pa b))] ?_
 refine T_sr 1 K3 K4 ?_
 refine T_ne 2 [(5, .func (.func 178) #[] #[vp (pa b)])] ?_
 refine T_sr 2 K5 K6 ?_
 refine T_n 1 [(5, .func (.func 178) #[] #[vp (pa b)]), (7, .func (.func 178) #[] #[vp (pa b)])] ?_
 refine T_c (some 8) h ?_; clear h
 rintro v H2 ⟨x, rfl, h⟩
 refine ⟨[(5, .func (.func 178) #[] #[vp (pa b)]), (8, vu x)], pk, ?_⟩
 refine T_n 2 [(5, .func (.func 178) #[] #[vp (pa b)]), (9, vi (IntKind.wrap .i64 x)), (10, .func (.func 178) #[] #[vp (pa b)])] ?_
 refine T_c (some 11) h ?_; clear h
 rintro e H3 ⟨a, rfl, h⟩
 refine ⟨[(5, .func (.func 178) #[] #[vp (pa b)]), (9, vi (IntKind.wrap .i64 x)), (11, vu a)], pk, ?_⟩
 refine T_n 2 [(9, vi (IntKind.wrap .i64 x)), (12, vi (IntKind.wrap .i64 a)), (13, .func (.func 178) #[] #[vp (pa b)])] ?_
 refine T_c (some 14) h ?_; clear h
 rintro f H4 ⟨d, rfl, h⟩
 refine ⟨[(9, vi (IntKind.wrap .i64 x)), (12, vi (IntKind.wrap .i64 a)), (14, vu d)], pk, ?_⟩
 refine T_ne 3 [(2, vi (IntKind.wrap .i64 x)), (3, vi (IntKind.wrap .i64 a)), (4, vu d)] ?_
 exact T_ret [2, 3, 4] [vi (IntKind.wrap .i64 x), vi (IntKind.wrap .i64 a), vu d] hQ h
end word_parts

/-! moraine/word.place -/
namespace word_place
def K0 := Func.code Tryz.f176
def K1 := ca K0
def K2 := cb K0
def K3 := ca K2
def K4 := cb K2
end word_place
def word_place.pt (tag : Int) (H : Array Obj) (R : Value → Array Obj → Prop) : Prop :=
 R (.bool (((decide (tag ≥ 1)) && (decide (tag ≤ 3))) || (tag == 6))) H
namespace word_place
set_option maxRecDepth 100000 in
theorem link {tag : Int} {H : Array Obj} {R : Value → Array Obj → Prop} (h : pt tag H R) : C tag H R := by
 refine T_en K0 13 Tryz.func176 ?_
 intro w0 Q hQ
 unfold pt at h
 refine T_su [(0, vi tag)] ?_
 refine T_sr 0 K1 K2 ?_
 refine T_ne 1 [(0, vi tag)] ?_
 refine T_sr 1 K3 K4 ?_
 refine N_cut [(2, .bool (((decide (tag ≥ 1)) && (decide (tag ≤ 3))) || (tag == 6)))] ?_ ?_
 ·refine S_then ?_
  exact T_ret [2] [.bool (((decide (tag ≥ 1)) && (decide (tag ≤ 3))) || (tag == 6))] hQ h
 intro hk
 refine T_n 3 [(0, vi tag), (5, .bool (decide (tag ≥ 1)))] ?_
 by_cases c1 : tag ≥ 1
 ·have b2 : (decide (tag ≥ 1)) = true := decide_eq_true c1
  refine N_env [(0, vi tag), (5, .bool true)] (by rw [b2]) ?_
  refine T_n 4 [(0, vi tag), (9, .bool (decide (tag ≤ 3)))] ?_
  by_cases c3 : tag ≤ 3
  ·have b4 : (decide (tag ≤ 3)) = true := decide_eq_true c3
   refine N_env [(0, vi tag), (9, .bool true)] (by rw [b4]) ?_
   refine T_n 4 [(2, .bool true)] ?_
   refine N_end (by kernel_rfl) ?_
   refine S_env [(2, .bool (((decide (tag ≥ 1)) && (decide (tag ≤ 3))) || (tag == 6)))] (by simp only [b2, b4, BL]) ?_
   exact hk
  have b4 : (decide (tag ≤ 3)) = false := decide_eq_false c3
  refine N_env [(0, vi tag), (9, .bool false)] (by rw [b4]) ?_
  refine T_n 4 [(2, .bool (tag == 6))] ?_
  refine N_end (by kernel_rfl) ?_
  refine S_env [(2, .bool (((decide (tag ≥ 1)) && (decide (tag ≤ 3))) || (tag == 6)))] (by simp only [b2, b4, BL]) ?_
  exact hk
 have b2 : (decide (tag ≥ 1)) = false := decide_eq_false c1
 refine N_env [(0, vi tag), (5, .bool false)] (by rw [b2]) ?_
 refine T_n 8 [(2, .bool (tag == 6))] ?_
 refine N_end (by kernel_rfl) ?_
 refine S_env [(2, .bool (((decide (tag ≥ 1)) && (decide (tag ≤ 3))) || (tag == 6)))] (by simp only [b2, BL]) ?_
 exact hk
end word_place

/-! moraine/word.parts.1 -/
namespace word_parts_1
def K0 := Func.code Tryz.f178
def K1 := ca K0
def K2 := cb K0
def K3 := ca K2
def K4 := cb K2
end word_parts_1
def word_parts_1.pt (fromv : Int) (bits : Int) (cap0 : Option Addr) (H : Array Obj) (R : Value → Array Obj → Prop) : Prop :=
 ∃ a : Addr, cap0 = some a ∧
 ∃ x : Int, hat H a = some (.int .u64 x) ∧
 (0 ≤ fromv) ∧
 (0 ≤ bits) ∧
 R (.int .u64 (iand .u64 (ishr .u64 x fromv) (IntKind.wrap .u64 ((ishl .u64 1 bits) - 1)))) H
namespace word_parts_1
set_option maxRecDepth 100000 in
theorem link {fromv : Int} {bits : Int} {cap0 : Option Addr} {H : Array Obj} {R : Value → Array Obj → Prop} (h : pt fromv bits cap0 H R) : C fromv bits cap0 H R := by
 refine T_en K0 13 Tryz.func178 ?_
 intro w0 Q hQ
 unfold pt at h
 refine T_su [(0, vi fromv), (1, vi bits), (2, vp cap0)] ?_
 refine T_sr 0 K1 K2 ?_
 refine T_ne 1 [(0, vi fromv), (1, vi bits), (2, vp cap0)] ?_
 refine T_s K3 K4 ?_
 refine T_rq 1 K3 ?_
 obtain ⟨a, rfl, h⟩ := h
 obtain ⟨x, q1, h⟩ := h
 refine T_ql (some 6) 35 q1 [(0, vi fromv), (1, vi bits), (6, vu x)] ?_
 refine T_q (some 7) (vi fromv) [(1, vi bits), (6, vu x), (7, vi fromv)] ?_
 obtain ⟨q2, h⟩ := h
 refine Q_op (some 8) (binN .shr 34 (vu x) (vi fromv)) (vu (ishr .u64 x fromv)) (fun _=>by kernel_rfl) (fun w _ => shr_run (P := Tryz.prog) (t := 34) (k := .u64) (k' := .i64) (x := x) (y := fromv) q2 w) [(1, vi bits), (8, vu (ishr .u64 x fromv))] pk ?_
 refine T_q (some 9) (vi bits) [(8, vu (ishr .u64 x fromv)), (9, vi bits)] ?_
 obtain ⟨q3, h⟩ := h
 refine Q_op (some 10) (binN .shl 34 (vu 1) (vi bits)) (vu (ishl .u64 1 bits)) (fun _=>by kernel_rfl) (fun w _ => shl_run (P := Tryz.prog) (t := 34) (k := .u64) (k' := .i64) (x := 1) (y := bits) q3 w) [(8, vu (ishr .u64 x fromv)), (10, vu (ishl .u64 1 bits))] pk ?_
 refine T_q (some 11) (vu (IntKind.wrap .u64 ((ishl .u64 1 bits) - 1))) [(8, vu (ishr .u64 x fromv)), (11, vu (IntKind.wrap .u64 ((ishl .u64 1 bits) - 1)))] ?_
 refine T_q (some 12) (vu (iand .u64 (ishr .u64 x fromv) (IntKind.wrap .u64 ((ishl .u64 1 bits) - 1)))) [(12, vu (iand .u64 (ishr .u64 x fromv) (IntKind.wrap .u64 ((ishl .u64 1 bits) - 1))))] ?_
 refine T_q (some 5) (vu (iand .u64 (ishr .u64 x fromv) (IntKind.wrap .u64 ((ishl .u64 1 bits) - 1)))) [(5, vu (iand .u64 (ishr .u64 x fromv) (IntKind.wrap .u64 ((ishl .u64 1 bits) - 1))))] ?_
 refine Q_sub [(5, vu (iand .u64 (ishr .u64 x fromv) (IntKind.wrap .u64 ((ishl .u64 1 bits) - 1))))] sk ?_
 refine T_qe ?_
 exact T_ret [5] [vu (iand .u64 (ishr .u64 x fromv) (IntKind.wrap .u64 ((ishl .u64 1 bits) - 1)))] hQ h
end word_parts_1

end Go.Proofs.YthlohokmnajpoaaGreatDoor
