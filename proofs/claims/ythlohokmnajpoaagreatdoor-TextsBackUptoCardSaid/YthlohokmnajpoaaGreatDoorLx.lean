/- Printed: what each function asks, and that it is sound. -/
import Derived.Test.YthlohokmnajpoaaGreatDoorFnsC
set_option linter.unusedSimpArgs false
set_option linter.unusedVariables false
set_option maxHeartbeats 1000000
noncomputable section
namespace Go.Proofs.YthlohokmnajpoaaGreatDoor
open Go
/-! moraine/card.New -/
namespace card_New
def K0 := Func.code Tryz.f35
def K1 := ca K0
def K2 := cb K0
def K3 := ca K2
def K4 := cb K2
def K5 := ca K4
def K6 := cb K4
def K7 := ca K5
def K8 := cb K5
def K9 := ca K8
def K10 := cb K8
def K11 := ca K6
def K12 := cb K6
def K13 := ca K9
def K14 := cb K9
end card_New
def card_New.pt (limit : Int) (H : Array Obj) (R : Value → Array Obj → Prop) : Prop :=
 space_New.C limit H (fun v H1 => ∃ ra : Option Addr, ∃ rb : Int, v = .tuple #[.pointer ra, .int .i64 rb] ∧ 
 if rb = 0 then (
 ∀ (b : Nat) (H2 : Array Obj), b = H1.size → H2 = H1.push (.cells #[.pointer ra] 54) →
 R (.tuple #[.pointer (some (Addr.mk b 0 none)), .int .i64 0]) H2)
 else
 R (.tuple #[.pointer none, .int .i64 rb]) H1)
namespace card_New
set_option maxRecDepth 100000 in
theorem link {limit : Int} {H : Array Obj} {R : Value → Array Obj → Prop} (h : pt limit H R) : C limit H R := by
 refine T_en K0 17 Tryz.func35 ?_
 intro w0 Q hQ
 unfold pt at h
 refine T_su [(0, vi limit)] ?_
 refine T_sr 0 K1 K2 ?_
 refine T_ne 2 [(0, vi limit)] ?_
 refine T_sr 1 K3 K4 ?_
 refine T_n 1 [(7, vi limit)] ?_
 refine T_c (some 8) h ?_; clear h
 rintro v H1 ⟨ra, rb, rfl, h⟩
 refine ⟨[(8, .tuple #[vp ra, vi rb])], pk, ?_⟩
 refine T_ne 5 [(4, vp ra), (5, vi rb)] ?_
 refine T_s K5 K6 ?_
 refine T_sr 2 K7 K8 ?_
 refine T_ne 2 [(4, vp ra), (5, vi rb), (12, .bool (rb != 0))] ?_
 by_cases c1 : rb = 0
 ·rw [if_pos c1] at h
  have b2 : (rb != 0) = false := bne_eq_false_iff_eq.mpr c1
  refine T_cF 12 K9 K10 b2 ?_
  refine T_kt ?_
  refine T_sr 4 K11 K12 ?_
  refine T_n 2 [(15, .agg #[vp ra])] ?_
  refine T_nw (some 16) (fun b => vp (pa b)) (.cells #[vp ra] 54) ?_
  intro b H2 e3 e4
  replace h := h b H2 e3 e4
  refine ⟨[(16, vp (pa b))], pk, ?_⟩
  refine T_ne 2 [(2, vp (pa b)), (3, vi 0)] ?_
  exact T_ret [2, 3] [vp (pa b), vi 0] hQ h
 rw [if_neg c1] at h
 have b2 : (rb != 0) = true := bne_iff_ne.mpr c1
 refine T_cT 12 K9 K10 b2 ?_
 refine T_sr 3 K13 K14 ?_
 refine T_ne 3 [(2, vp none), (3, vi rb)] ?_
 exact T_ret [2, 3] [vp none, vi rb] hQ h
end card_New

/-! (*moraine/card.Cards).Store -/
/-! (*moraine/obj.Heap).Car -/
namespace obj_Heap_Car
def K0 := Func.code Tryz.f34
def K1 := ca K0
def K2 := cb K0
def K3 := ca K2
def K4 := cb K2
end obj_Heap_Car
def obj_Heap_Car.pt (hv : Option Addr) (wv : Int) (H : Array Obj) (R : Value → Array Obj → Prop) : Prop :=
 obj_Heap_half.C hv wv 0 H (fun v H1 => ∃ ra : Int, ∃ rb : Int, v = .tuple #[.int .u64 ra, .int .i64 rb] ∧ 
 R (.tuple #[.int .u64 ra, .int .i64 rb]) H1)
namespace obj_Heap_Car
set_option maxRecDepth 100000 in
theorem link {hv : Option Addr} {wv : Int} {H : Array Obj} {R : Value → Array Obj → Prop} (h : pt hv wv H R) : C hv wv H R := by
 refine T_en K0 11 Tryz.func34 ?_
 intro w0 Q hQ
 unfold pt at h
 refine T_su [(0, vp hv), (1, vu wv)] ?_
 refine T_sr 0 K1 K2 ?_
 refine T_ne 2 [(0, vp hv), (1, vu wv)] ?_
 refine T_sr 1 K3 K4 ?_
 refine T_n 2 [(6, vp hv), (7, vu wv)] ?_
 refine T_c (some 8) h ?_; clear h
 rintro v H1 ⟨ra, rb, rfl, h⟩
 refine ⟨[(8, .tuple #[vu ra, vi rb])], pk, ?_⟩
 refine T_ne 4 [(4, vu ra), (5, vi rb)] ?_
 exact T_ret [4, 5] [vu ra, vi rb] hQ h
end obj_Heap_Car

/-! (*moraine/obj.Heap).Cons -/
namespace obj_Heap_Cons
def K0 := Func.code Tryz.f42
def K1 := ca K0
def K2 := cb K0
def K3 := ca K2
def K4 := cb K2
end obj_Heap_Cons
def obj_Heap_Cons.pt (hv : Option Addr) (car : Int) (cdr : Int) (H : Array Obj) (R : Value → Array Obj → Prop) : Prop :=
 ∀ (b : Nat) (H1 : Array Obj), b = H.size → H1 = H.push (.cells #[.int .u64 car, .int .u64 cdr] 35) →
 obj_Heap_put.C hv 0 1 (some (Addr.mk b 0 none)) 2 2 H1 (fun v H2 => ∃ ra : Int, ∃ rb : Int, v = .tuple #[.int .u64 ra, .int .i64 rb] ∧ 
 R (.tuple #[.int .u64 ra, .int .i64 rb]) H2)
namespace obj_Heap_Cons
set_option maxRecDepth 100000 in
theorem link {hv : Option Addr} {car : Int} {cdr : Int} {H : Array Obj} {R : Value → Array Obj → Prop} (h : pt hv car cdr H R) : C hv car cdr H R := by
 refine T_en K0 15 Tryz.func42 ?_
 intro w0 Q hQ
 unfold pt at h
 refine T_su [(0, vp hv), (1, vu car), (2, vu cdr)] ?_
 refine T_sr 0 K1 K2 ?_
 refine T_ne 2 [(0, vp hv), (1, vu car), (2, vu cdr)] ?_
 refine T_sr 1 K3 K4 ?_
 refine T_n 3 [(8, vp hv), (9, vu car), (10, vu cdr)] ?_
 refine T_nw (some 11) (fun b => vs (pa b) 2 2) (.cells #[vu car, vu cdr] 35) ?_
 intro b H1 e1 e2
 replace h := h b H1 e1 e2
 refine ⟨[(8, vp hv), (11, vs (pa b) 2 2)], pk, ?_⟩
 refine T_c (some 12) h ?_; clear h
 rintro v H2 ⟨ra, rb, rfl, h⟩
 refine ⟨[(12, .tuple #[vu ra, vi rb])], pk, ?_⟩
 refine T_ne 4 [(6, vu ra), (7, vi rb)] ?_
 exact T_ret [6, 7] [vu ra, vi rb] hQ h
end obj_Heap_Cons

/-! (*moraine/obj.Heap).half -/
namespace obj_Heap_half
def K0 := Func.code Tryz.f75
def K1 := ca K0
def K2 := cb K0
def K3 := ca K2
def K4 := cb K2
def K5 := ca K4
def K6 := cb K4
def K7 := ca K5
def K8 := cb K5
def K9 := ca K8
def K10 := cb K8
def K11 := ca K6
def K12 := cb K6
def K13 := ca K9
def K14 := cb K9
end obj_Heap_half
def obj_Heap_half.pt (hv : Option Addr) (wv : Int) (i : Int) (H : Array Obj) (R : Value → Array Obj → Prop) : Prop :=
 obj_Heap_pair.C hv wv H (fun v H1 => ∃ ra : Int, ∃ rb : Bool, v = .tuple #[.int .i64 ra, .bool rb] ∧ 
 if rb = true then (
 ∃ g : Addr, hv = some g ∧
 ∃ x : Option Addr, hat H1 g = some (.pointer x) ∧
 ∃ xA : Addr, x = some xA ∧
 ∃ e : Option Addr, hat H1 xA = some (.pointer e) ∧
 ∃ f : Addr, e = some f ∧
 ∃ d : Option Addr, hat H1 f = some (.pointer d) ∧
 seg_Mem_Read.C d (IntKind.wrap .i64 (ra + i)) H1 (fun j H2 => ∃ b : Int, ∃ a : Int, j = .tuple #[.int .u64 b, .int .i64 a] ∧ 
 R (.tuple #[.int .u64 b, .int .i64 a]) H2))
 else
 R (.tuple #[.int .u64 0, .int .i64 3]) H1)
namespace obj_Heap_half
set_option maxRecDepth 100000 in
theorem link {hv : Option Addr} {wv : Int} {i : Int} {H : Array Obj} {R : Value → Array Obj → Prop} (h : pt hv wv i H R) : C hv wv i H R := by
 refine T_en K0 34 Tryz.func75 ?_
 intro w0 Q hQ
 unfold pt at h
 refine T_su [(0, vp hv), (1, vu wv), (2, vi i)] ?_
 refine T_sr 0 K1 K2 ?_
 refine T_ne 2 [(0, vp hv), (1, vu wv), (2, vi i)] ?_
 refine T_sr 1 K3 K4 ?_
 refine T_n 2 [(0, vp hv), (2, vi i), (11, vp hv), (12, vu wv)] ?_
 refine T_c (some 13) h ?_; clear h
 rintro v H1 ⟨ra, rb, rfl, h⟩
 refine ⟨[(0, vp hv), (2, vi i), (13, .tuple #[vi ra, .bool rb])], pk, ?_⟩
 refine T_ne 5 [(0, vp hv), (2, vi i), (8, vi ra), (9, .bool rb)] ?_
 refine T_s K5 K6 ?_
 refine T_sr 2 K7 K8 ?_
 refine T_ne 2 [(0, vp hv), (2, vi i), (8, vi ra), (17, .bool (!rb))] ?_
 by_cases c1 : rb = true
 ·rw [if_pos c1] at h
  have b2 : (!rb) = false := congrArg Bool.not (c1)
  refine T_cF 17 K9 K10 b2 ?_
  refine T_kt ?_
  refine T_sr 4 K11 K12 ?_
  refine T_n 1 [(2, vi i), (8, vi ra), (18, vp hv)] ?_
  obtain ⟨g, rfl, h⟩ := h
  refine T_n 2 [(2, vi i), (8, vi ra), (20, vp (some g))] ?_
  obtain ⟨x, q3, h⟩ := h
  refine T_l (some 21) 48 q3 [(2, vi i), (8, vi ra), (21, vp x)] ?_
  obtain ⟨xA, rfl, h⟩ := h
  refine T_n 2 [(2, vi i), (8, vi ra), (23, vp (some xA))] ?_
  obtain ⟨e, q4, h⟩ := h
  refine T_l (some 24) 52 q4 [(2, vi i), (8, vi ra), (24, vp e)] ?_
  obtain ⟨f, rfl, h⟩ := h
  refine T_n 2 [(2, vi i), (8, vi ra), (26, vp (some f))] ?_
  obtain ⟨d, q5, h⟩ := h
  refine T_l (some 27) 55 q5 [(2, vi i), (8, vi ra), (27, vp d)] ?_
  refine T_n 3 [(27, vp d), (30, vi (IntKind.wrap .i64 (ra + i)))] ?_
  refine T_c (some 31) h ?_; clear h
  rintro j H2 ⟨b, a, rfl, h⟩
  refine ⟨[(31, .tuple #[vu b, vi a])], pk, ?_⟩
  refine T_ne 4 [(6, vu b), (7, vi a)] ?_
  exact T_ret [6, 7] [vu b, vi a] hQ h
 rw [if_neg c1] at h
 have b2 : (!rb) = true := congrArg Bool.not (eq_false_of_ne_true c1)
 refine T_cT 17 K9 K10 b2 ?_
 refine T_sr 3 K13 K14 ?_
 refine T_ne 2 [(6, vu 0), (7, vi 3)] ?_
 exact T_ret [6, 7] [vu 0, vi 3] hQ h
end obj_Heap_half

/-! (*moraine/obj.Heap).pair -/
namespace obj_Heap_pair
def K0 := Func.code Tryz.f89
def K1 := ca K0
def K2 := cb K0
def K3 := ca K2
def K4 := cb K2
def K5 := ca K4
def K6 := cb K4
def K7 := ca K5
def K8 := cb K5
def K9 := ca K8
def K10 := cb K8
def K11 := ca K6
def K12 := cb K6
end obj_Heap_pair
def obj_Heap_pair.pt (hv : Option Addr) (wv : Int) (H : Array Obj) (R : Value → Array Obj → Prop) : Prop :=
 obj_Heap_at.C hv wv 1 0 H (fun v H1 => ∃ ra : Int, ∃ rb : Bool, v = .tuple #[.int .i64 ra, .bool rb] ∧ 
 if rb = true then (
 R (.tuple #[.int .i64 ra, .bool ((Int.tmod ra 2) == 0)]) H1)
 else
 obj_Heap_at.C hv wv 2 1 H1 (fun d H2 => ∃ a : Int, ∃ b : Bool, d = .tuple #[.int .i64 a, .bool b] ∧ 
 R (.tuple #[.int .i64 a, .bool (b && ((Int.tmod a 2) == 0))]) H2))
namespace obj_Heap_pair
set_option maxRecDepth 100000 in
theorem link {hv : Option Addr} {wv : Int} {H : Array Obj} {R : Value → Array Obj → Prop} (h : pt hv wv H R) : C hv wv H R := by
 refine T_en K0 29 Tryz.func89 ?_
 intro w0 Q hQ
 unfold pt at h
 refine T_su [(0, vp hv), (1, vu wv)] ?_
 refine T_sr 0 K1 K2 ?_
 refine T_ne 2 [(0, vp hv), (1, vu wv)] ?_
 refine T_sr 1 K3 K4 ?_
 refine T_n 2 [(0, vp hv), (1, vu wv), (9, vp hv), (10, vu wv)] ?_
 refine T_c (some 11) h ?_; clear h
 rintro v H1 ⟨ra, rb, rfl, h⟩
 refine ⟨[(0, vp hv), (1, vu wv), (11, .tuple #[vi ra, .bool rb])], pk, ?_⟩
 refine T_ne 5 [(0, vp hv), (1, vu wv), (6, vi ra), (7, .bool rb)] ?_
 refine T_s K5 K6 ?_
 refine T_sr 2 K7 K8 ?_
 refine T_ne 2 [(0, vp hv), (1, vu wv), (6, vi ra), (7, .bool rb), (15, .bool (!rb))] ?_
 by_cases c1 : rb = true
 ·rw [if_pos c1] at h
  have b2 : (!rb) = false := congrArg Bool.not (c1)
  have b22 : rb = true := c1
  refine S_env [(0, vp hv), (1, vu wv), (6, vi ra), (7, .bool true), (15, .bool false)] (by simp only [b2, b22, Bool.not_true, Bool.not_false]) ?_
  clear b2 b22
  refine T_f 15 K9 K10 ?_
  refine T_kt ?_
  refine T_sr 4 K11 K12 ?_
  refine T_ne 9 [(4, vi ra), (5, .bool ((Int.tmod ra 2) == 0))] ?_
  exact T_ret [4, 5] [vi ra, .bool ((Int.tmod ra 2) == 0)] hQ h
 rw [if_neg c1] at h
 have b2 : (!rb) = true := congrArg Bool.not (eq_false_of_ne_true c1)
 have b22 : rb = false := eq_false_of_ne_true c1
 refine S_env [(0, vp hv), (1, vu wv), (6, vi ra), (7, .bool false), (15, .bool true)] (by simp only [b2, b22, Bool.not_true, Bool.not_false]) ?_
 clear b2 b22
 refine T_t 15 K9 K10 ?_
 refine T_r 3 K9 ?_
 refine T_n 2 [(17, vp hv), (18, vu wv)] ?_
 refine T_c (some 19) h ?_; clear h
 rintro d H2 ⟨a, b, rfl, h⟩
 refine ⟨[(19, .tuple #[vi a, .bool b])], pk, ?_⟩
 refine T_ne 5 [(6, vi a), (7, .bool b)] ?_
 refine T_sr 4 K11 K12 ?_
 refine N_cut [(4, vi a), (5, .bool (b && ((Int.tmod a 2) == 0)))] ?_ ?_
 ·refine S_then ?_
  exact T_ret [4, 5] [vi a, .bool (b && ((Int.tmod a 2) == 0))] hQ h
 intro hk
 refine T_n 3 [(6, vi a), (22, vi a), (24, .bool b)] ?_
 by_cases c3 : b = true
 ·have b4 : b = true := c3
  refine N_env [(6, vi a), (22, vi a), (24, .bool true)] (by rw [b4]) ?_
  refine T_n 6 [(4, vi a), (5, .bool ((Int.tmod a 2) == 0))] ?_
  refine N_end (by kernel_rfl) ?_
  refine S_env [(4, vi a), (5, .bool (b && ((Int.tmod a 2) == 0)))] (by simp only [b4, BL]) ?_
  exact hk
 have b4 : b = false := eq_false_of_ne_true c3
 refine N_env [(6, vi a), (22, vi a), (24, .bool false)] (by rw [b4]) ?_
 refine T_n 6 [(4, vi a), (5, .bool false)] ?_
 refine N_end (by kernel_rfl) ?_
 refine S_env [(4, vi a), (5, .bool (b && ((Int.tmod a 2) == 0)))] (by simp only [b4, BL]) ?_
 exact hk
end obj_Heap_pair

/-! (*moraine/obj.Heap).Pair -/
namespace obj_Heap_Pair
def K0 := Func.code Tryz.f97
def K1 := ca K0
def K2 := cb K0
def K3 := ca K2
def K4 := cb K2
def K5 := ca K4
def K6 := cb K4
end obj_Heap_Pair
def obj_Heap_Pair.pt (hv : Option Addr) (wv : Int) (H : Array Obj) (R : Value → Array Obj → Prop) : Prop :=
 obj_Heap_pair.C hv wv H (fun v H1 => ∃ ra : Int, ∃ rb : Bool, v = .tuple #[.int .i64 ra, .bool rb] ∧ 
 R (.bool rb) H1)
namespace obj_Heap_Pair
set_option maxRecDepth 100000 in
theorem link {hv : Option Addr} {wv : Int} {H : Array Obj} {R : Value → Array Obj → Prop} (h : pt hv wv H R) : C hv wv H R := by
 refine T_en K0 14 Tryz.func97 ?_
 intro w0 Q hQ
 unfold pt at h
 refine T_su [(0, vp hv), (1, vu wv)] ?_
 refine T_sr 0 K1 K2 ?_
 refine T_ne 1 [(0, vp hv), (1, vu wv)] ?_
 refine T_sr 1 K3 K4 ?_
 refine T_n 2 [(8, vp hv), (9, vu wv)] ?_
 refine T_c (some 10) h ?_; clear h
 rintro v H1 ⟨ra, rb, rfl, h⟩
 refine ⟨[(10, .tuple #[vi ra, .bool rb])], pk, ?_⟩
 refine T_ne 5 [(6, .bool rb)] ?_
 refine T_sr 2 K5 K6 ?_
 refine T_ne 2 [(4, .bool rb)] ?_
 exact T_ret [4] [.bool rb] hQ h
end obj_Heap_Pair

/-! (*moraine/obj.Heap).Cdr -/
namespace obj_Heap_Cdr
def K0 := Func.code Tryz.f148
def K1 := ca K0
def K2 := cb K0
def K3 := ca K2
def K4 := cb K2
end obj_Heap_Cdr
def obj_Heap_Cdr.pt (hv : Option Addr) (wv : Int) (H : Array Obj) (R : Value → Array Obj → Prop) : Prop :=
 obj_Heap_half.C hv wv 1 H (fun v H1 => ∃ ra : Int, ∃ rb : Int, v = .tuple #[.int .u64 ra, .int .i64 rb] ∧ 
 R (.tuple #[.int .u64 ra, .int .i64 rb]) H1)
namespace obj_Heap_Cdr
set_option maxRecDepth 100000 in
theorem link {hv : Option Addr} {wv : Int} {H : Array Obj} {R : Value → Array Obj → Prop} (h : pt hv wv H R) : C hv wv H R := by
 refine T_en K0 11 Tryz.func148 ?_
 intro w0 Q hQ
 unfold pt at h
 refine T_su [(0, vp hv), (1, vu wv)] ?_
 refine T_sr 0 K1 K2 ?_
 refine T_ne 2 [(0, vp hv), (1, vu wv)] ?_
 refine T_sr 1 K3 K4 ?_
 refine T_n 2 [(6, vp hv), (7, vu wv)] ?_
 refine T_c (some 8) h ?_; clear h
 rintro v H1 ⟨ra, rb, rfl, h⟩
 refine ⟨[(8, .tuple #[vu ra, vi rb])], pk, ?_⟩
 refine T_ne 4 [(4, vu ra), (5, vi rb)] ?_
 exact T_ret [4, 5] [vu ra, vi rb] hQ h
end obj_Heap_Cdr

/-! moraine/lists.List -/
namespace lists_List
def K0 := Func.code Tryz.f67
def K1 := ca K0
def K2 := cb K0
def K3 := ca K2
def K4 := cb K2
def K5 := ca K4
def K6 := cb K4
def K7 := ca K5
def K8 := cb K5
def K9 := ca K8
def K10 := ca K9
def K11 := cb K9
def K12 := ca K10
def K13 := cb K10
def K14 := ca K11
def K15 := ca K14
def K16 := cb K14
def K17 := ca K15
def K18 := cb K15
def K19 := ca K18
def K20 := cb K18
def K21 := ca K19
def K22 := cb K19
def K23 := ca K21
def K24 := cb K21
def K25 := ca K24
def K26 := cb K24
def K27 := ca K25
def K28 := cb K25
def K29 := ca K16
def K30 := cb K16
def K31 := ca K6
def K32 := cb K6
end lists_List
set_option maxRecDepth 100000 in def lists_List.pt (hv : Option Addr) (wv : Int) (H : Array Obj) (R : Value → Array Obj → Prop) : Prop :=
 ∀ (b : Nat) (H1 : Array Obj), b = H.size → H1 = H.push (.cells #[.pointer hv] 30) →
 ∀ (d : Nat) (H2 : Array Obj), d = H1.size → H2 = H1.push (.cells #[.slice none 0 0] 43) →
 ∀ (a : Nat) (H3 : Array Obj), a = H2.size → H3 = H2.push (.cells #[.bool false] 4) →
 ∀ (e : Nat) (H4 : Array Obj), e = H3.size → H4 = H3.push (.cells #[.slice none 0 0] 43) →
 ∃ x : Option Addr, hat H4 (Addr.mk b 0 none) = some (.pointer x) ∧
 lists_pairs.C x wv H4 (fun v H5 => v = v ∧ 
 ∀ (rc : LoopState → Option Code → Obj) (lp : Nat) (H6 : Array Obj), lp = H5.size + 1 → H6 = (H5.push (.deferred (some []))).push (rc .ready none) →
 ∀ vY : Value, (∀ (i : Int) (x_4 : Bool) (H7 : Array Obj) (vRy : Value → Array Obj → Prop), H7[lp]? = some (rc .ready none) →
 ( H7[lp]? = some (rc .ready none) ∧ ∀ H8 : Array Obj, H8 = setBlk H7 lp (rc .busy none) →
 if x_4 = true then (
 if i = 20 then (
 H8[lp]? = some (rc .busy none) ∧
 vRy (.bool false) (setBlk H8 lp (rc .done (some (.exit 0)))))
 else
 (CanPuts H8 (Addr.mk d 0 none) 0 1) ∧ ∀ H9 : Array Obj, H9 = hputs H8 (Addr.mk d 0 none) [.slice none 0 0] 0 →
 (CanPuts H9 (Addr.mk a 0 none) 0 1) ∧ ∀ ag : Array Obj, ag = hputs H9 (Addr.mk a 0 none) [.bool false] 0 →
 ag[lp]? = some (rc .busy none) ∧
 vRy (.bool false) (setBlk ag lp (rc .done (some .ret))))
 else
 ∃ p : Option Addr, hat H8 (Addr.mk b 0 none) = some (.pointer p) ∧
 obj_Heap_Car.C p i H8 (fun ar ao => ∃ ra : Int, ∃ rb : Int, ar = .tuple #[.int .u64 ra, .int .i64 rb] ∧ 
 ∃ xB : Option Addr, ∃ xN : Nat, ∃ xC : Nat, hat ao (Addr.mk e 0 none) = some (.slice xB xN xC) ∧
 ∀ (y : Nat) (H12 : Array Obj), y = ao.size → H12 = ao.push (.cells #[.int .u64 ra] 35) →
 appendK 1 35 8 [.int .u64 0] xB xN xC (some (Addr.mk y 0 none)) 1 H12 (fun ap u al =>
 (CanPuts al (Addr.mk e 0 none) 0 1) ∧ ∀ af : Array Obj, af = hputs al (Addr.mk e 0 none) [.slice ap (xN + 1) u] 0 →
 af[lp]? = some (rc .busy none) ∧
 vRy (.bool true) (setBlk af lp (rc .ready none))))) →
 FC Tryz.prog vY #[.int .u64 i, .bool x_4] H7 vRy) →
 FE Tryz.prog v #[vY] H6 (fun _ q =>
 (q[lp]? = some (rc .ready none) ∧ ∀ f : Array Obj, f = setBlk q lp (rc .exhausted none) →
 ∃ o : Option Addr, ∃ k : Nat, ∃ m : Nat, hat f (Addr.mk e 0 none) = some (.slice o k m) ∧
 (CanPuts f (Addr.mk d 0 none) 0 1) ∧ ∀ s : Array Obj, s = hputs f (Addr.mk d 0 none) [.slice o k m] 0 →
 (CanPuts s (Addr.mk a 0 none) 0 1) ∧ ∀ ai : Array Obj, ai = hputs s (Addr.mk a 0 none) [.bool true] 0 →
 Shut (H5.size :: []) ai (fun aq =>
 ∃ rB : Option Addr, ∃ rN : Nat, ∃ rC : Nat, hat aq (Addr.mk d 0 none) = some (.slice rB rN rC) ∧
 ∃ r : Bool, hat aq (Addr.mk a 0 none) = some (.bool r) ∧
 R (.tuple #[.slice rB rN rC, .bool r]) aq)) ∨
 (q[lp]? = some (rc .done (some .ret)) ∧ ∀ f : Array Obj, f = setBlk q lp (rc .exhausted (some .ret)) →
 Shut (H5.size :: []) f (fun ak =>
 ∃ aa : Option Addr, ∃ ae : Nat, ∃ ac : Nat, hat ak (Addr.mk d 0 none) = some (.slice aa ae ac) ∧
 ∃ an : Bool, hat ak (Addr.mk a 0 none) = some (.bool an) ∧
 R (.tuple #[.slice aa ae ac, .bool an]) ak)) ∨
 (q[lp]? = some (rc .done (some (.exit 0))) ∧ ∀ f : Array Obj, f = setBlk q lp (rc .exhausted (some (.exit 0))) →
 ∃ j : Option Addr, ∃ n : Nat, ∃ l : Nat, hat f (Addr.mk e 0 none) = some (.slice j n l) ∧
 (CanPuts f (Addr.mk d 0 none) 0 1) ∧ ∀ t : Array Obj, t = hputs f (Addr.mk d 0 none) [.slice j n l] 0 →
 (CanPuts t (Addr.mk a 0 none) 0 1) ∧ ∀ ah : Array Obj, ah = hputs t (Addr.mk a 0 none) [.bool true] 0 →
 Shut (H5.size :: []) ah (fun am =>
 ∃ ab : Option Addr, ∃ ad : Nat, ∃ z : Nat, hat am (Addr.mk d 0 none) = some (.slice ab ad z) ∧
 ∃ aj : Bool, hat am (Addr.mk a 0 none) = some (.bool aj) ∧
 R (.tuple #[.slice ab ad z, .bool aj]) am))))
namespace lists_List
set_option maxRecDepth 100000 in
theorem link {hv : Option Addr} {wv : Int} {H : Array Obj} {R : Value → Array Obj → Prop} (h : pt hv wv H R) : C hv wv H R := by
 refine T_en K0 30 Tryz.func67 ?_
 intro w0 Q hQ
 unfold pt at h
 refine T_su [(0, vp hv), (1, vu wv)] ?_
 refine T_sr 0 K1 K2 ?_
 refine T_nw (some 2) (fun b => vp (pa b)) (.cells #[vp hv] 30) ?_
 intro b H1 e1 e2
 replace h := h b H1 e1 e2
 refine ⟨[(1, vu wv), (2, vp (pa b))], pk, ?_⟩
 refine T_nw (some 4) (fun b => vp (pa b)) (.cells #[vs none 0 0] 43) ?_
 intro d H2 e3 e4
 replace h := h d H2 e3 e4
 refine ⟨[(1, vu wv), (2, vp (pa b)), (4, vp (pa d))], pk, ?_⟩
 refine T_nw (some 5) (fun b => vp (pa b)) (.cells #[.bool false] 4) ?_
 intro a H3 e5 e6
 replace h := h a H3 e5 e6
 refine ⟨[(1, vu wv), (2, vp (pa b)), (4, vp (pa d)), (5, vp (pa a))], pk, ?_⟩
 refine T_e ?_
 refine T_sr 1 K3 K4 ?_
 refine T_nw (some 6) (fun b => vp (pa b)) (.cells #[vs none 0 0] 43) ?_
 intro e H4 e7 e8
 replace h := h e H4 e7 e8
 refine ⟨[(1, vu wv), (2, vp (pa b)), (4, vp (pa d)), (5, vp (pa a)), (6, vp (pa e))], pk, ?_⟩
 refine T_e ?_
 refine T_s K5 K6 ?_
 refine T_sr 2 K7 K8 ?_
 obtain ⟨x, q9, h⟩ := h
 refine T_l (some 11) 30 q9 [(1, vu wv), (2, vp (pa b)), (4, vp (pa d)), (5, vp (pa a)), (6, vp (pa e)), (11, vp x)] ?_
 refine T_n 1 [(2, vp (pa b)), (4, vp (pa d)), (5, vp (pa a)), (6, vp (pa e)), (11, vp x), (12, vu wv)] ?_
 refine T_c (some 13) h ?_; clear h
 rintro v H5 ⟨-, h⟩
 refine ⟨[(2, vp (pa b)), (4, vp (pa d)), (5, vp (pa a)), (6, vp (pa e)), (13, v)], pk, ?_⟩
 refine T_e ?_
 refine T_b 0 K9 ?_
 refine S_range (g := .tmp 13) (ps := #[14, 15]) (assign := K10) (body := K11) (v) (by kernel_rfl) (by kernel_rfl) (by kernel_rfl) ?_
 intro rc lp H6 r10 e11 e12 y13
 refine FE.mono (h rc lp H6 e11 e12 (.func (.yield lp) #[] #[]) ?_) ?_
 ·clear h
  intro i x_4 H7 vRy q14 h
  refine y13 #[vu i, .bool x_4] H7 vRy (by kernel_rfl) q14 (fun w1x => ?_)
  refine T_su [(2, vp (pa b)), (4, vp (pa d)), (5, vp (pa a)), (6, vp (pa e)), (13, v), (14, vu i), (15, .bool x_4)] ?_
  refine T_sr 3 K12 K13 ?_
  refine T_ne 1 [(2, vp (pa b)), (4, vp (pa d)), (5, vp (pa a)), (6, vp (pa e)), (7, vu i), (15, .bool x_4)] ?_
  refine T_r 4 K13 ?_
  refine T_n 1 [(2, vp (pa b)), (4, vp (pa d)), (5, vp (pa a)), (6, vp (pa e)), (7, vu i), (8, .bool x_4)] ?_
  refine N_end (by kernel_rfl) ?_
  obtain ⟨q16, h⟩ := h
  refine S_then ?_
  refine S_begin r10 q16 ?_
  intro H8 e15
  replace h := h H8 e15
  refine T_b 1 K14 ?_
  refine T_s K15 K16 ?_
  refine T_sr 5 K17 K18 ?_
  refine T_ne 1 [(2, vp (pa b)), (4, vp (pa d)), (5, vp (pa a)), (6, vp (pa e)), (7, vu i), (16, .bool x_4)] ?_
  by_cases c17 : x_4 = true
  ·rw [if_pos c17] at h
   have b18 : x_4 = true := c17
   refine T_cT 16 K19 K20 b18 ?_
   refine T_s K21 K22 ?_
   refine T_sr 6 K23 K24 ?_
   refine T_ne 2 [(4, vp (pa d)), (5, vp (pa a)), (18, .bool (i != 20))] ?_
   by_cases c19 : i = 20
   ·rw [if_pos c19] at h
    have b20 : (i != 20) = false := bne_eq_false_iff_eq.mpr c19
    refine T_cF 18 K25 K26 b20 ?_
    refine T_kt ?_
    refine S_exit 0 (by kernel_rfl) ?_
    refine S_exitThen ?_
    refine S_exitPast (by kernel_rfl) ?_
    obtain ⟨q21, h⟩ := h
    exact S_rexit r10 q21 h
   rw [if_neg c19] at h
   have b20 : (i != 20) = true := bne_iff_ne.mpr c19
   refine T_cT 18 K25 K26 b20 ?_
   refine T_sr 7 K27 K28 ?_
   refine T_nu [(4, vp (pa d)), (5, vp (pa a))] ?_
   obtain ⟨q23, h⟩ := h
   refine N_skipop none (storeN 43 (vp (pa d)) (vs none 0 0)) (fun Hz => Hz = hputs H8 (Addr.mk d 0 none) [vs none 0 0] 0) (fun _=>by kernel_rfl) (ss_store [vs none 0 0] 1 (by kernel_rfl) (by kernel_rfl) (fun _=>by kernel_rfl) (by kernel_rfl) q23) ?_
   intro H9 e22
   replace h := h H9 e22
   refine ⟨[(5, vp (pa a))], pk, ?_⟩
   obtain ⟨q25, h⟩ := h
   refine N_skipop none (storeN 4 (vp (pa a)) (.bool false)) (fun Hz => Hz = hputs H9 (Addr.mk a 0 none) [.bool false] 0) (fun _=>by kernel_rfl) (ss_store [.bool false] 1 (by kernel_rfl) (by kernel_rfl) (fun _=>by kernel_rfl) (by kernel_rfl) q25) ?_
   intro ag e24
   replace h := h ag e24
   refine ⟨[], pk, ?_⟩
   refine T_e ?_
   refine S_ret (by kernel_rfl) ?_
   show At _ _ _ _ _ (roundPost _ _ _ .ret)
   obtain ⟨q26, h⟩ := h
   exact S_rret r10 q26 h
  rw [if_neg c17] at h
  have b18 : x_4 = false := eq_false_of_ne_true c17
  refine T_cF 16 K19 K20 b18 ?_
  refine T_kt ?_
  refine T_sr 8 K29 K30 ?_
  refine T_nu [(2, vp (pa b)), (6, vp (pa e)), (7, vu i)] ?_
  obtain ⟨p, q27, h⟩ := h
  refine T_l (some 20) 30 q27 [(6, vp (pa e)), (7, vu i), (20, vp p)] ?_
  refine T_n 1 [(6, vp (pa e)), (20, vp p), (21, vu i)] ?_
  refine T_c (some 22) h ?_; clear h
  rintro ar ao ⟨ra, rb, rfl, h⟩
  refine ⟨[(6, vp (pa e)), (22, .tuple #[vu ra, vi rb])], pk, ?_⟩
  refine T_ne 5 [(6, vp (pa e)), (9, vu ra)] ?_
  refine T_r 9 K30 ?_
  obtain ⟨xB, xN, xC, q28, h⟩ := h
  refine T_l (some 25) 43 q28 [(6, vp (pa e)), (9, vu ra), (25, vs xB xN xC)] ?_
  refine T_n 1 [(6, vp (pa e)), (25, vs xB xN xC), (26, vu ra)] ?_
  refine T_nw (some 27) (fun b => vs (pa b) 1 1) (.cells #[vu ra] 35) ?_
  intro y H12 e29 e30
  replace h := h y H12 e29 e30
  refine ⟨[(6, vp (pa e)), (25, vs xB xN xC), (27, vs (pa y) 1 1)], pk, ?_⟩
  refine N_op (some 28) (appendN #[43, 43] 43 #[vs xB xN xC, vs (pa y) 1 1]) _ (fun _=>by kernel_rfl) (ss_append (T := 35) (sz := 1) (bytes := 8) (zero := (vu 0 : Value)) Tryz.underlying43 Tryz.underlying43 rfl (show Tryz.prog.info? 35 = some Tryz.t35 from by kernel_rfl) (by kernel_rfl) (by kernel_rfl) (by decide) (by kernel_rfl) (by first | exact h | (simpa only [Value.cells, List.toList_toArray] using h))) ?_; clear h
  rintro _ al ⟨ap, u, rfl, h⟩
  refine ⟨[(6, vp (pa e)), (28, vs ap (xN + 1) u)], pk, ?_⟩
  obtain ⟨q32, h⟩ := h
  refine N_skipop none (storeN 43 (vp (pa e)) (vs ap (xN + 1) u)) (fun Hz => Hz = hputs al (Addr.mk e 0 none) [vs ap (xN + 1) u] 0) (fun _=>by kernel_rfl) (ss_store [vs ap (xN + 1) u] 1 (by kernel_rfl) (by kernel_rfl) (fun _=>by kernel_rfl) (by kernel_rfl) q32) ?_
  intro af e31
  replace h := h af e31
  refine ⟨[], pk, ?_⟩
  refine N_end (by kernel_rfl) ?_
  refine S_blockEnd ?_
  obtain ⟨q33, h⟩ := h
  exact S_rnormal r10 q33 h
 clear h y13
 rintro _ q (⟨q34, h⟩ | ⟨q34, h⟩ | ⟨q34, h⟩)
 ·refine .inl ⟨q34, fun f e51 => ?_⟩
  replace h := h f e51
  refine S_marks (H5.size :: []) rfl ?_
  refine T_su [(4, vp (pa d)), (5, vp (pa a)), (6, vp (pa e))] ?_
  refine S_blockEnd ?_
  refine S_then ?_
  refine T_sr 10 K31 K32 ?_
  obtain ⟨o, k, m, q35, h⟩ := h
  refine T_l (some 29) 43 q35 [(4, vp (pa d)), (5, vp (pa a)), (29, vs o k m)] ?_
  obtain ⟨q37, h⟩ := h
  refine N_skipop none (storeN 43 (vp (pa d)) (vs o k m)) (fun Hz => Hz = hputs f (Addr.mk d 0 none) [vs o k m] 0) (fun _=>by kernel_rfl) (ss_store [vs o k m] 1 (by kernel_rfl) (by kernel_rfl) (fun _=>by kernel_rfl) (by kernel_rfl) q37) ?_
  intro s e36
  replace h := h s e36
  refine ⟨[(4, vp (pa d)), (5, vp (pa a))], pk, ?_⟩
  obtain ⟨q39, h⟩ := h
  refine N_skipop none (storeN 4 (vp (pa a)) (.bool true)) (fun Hz => Hz = hputs s (Addr.mk a 0 none) [.bool true] 0) (fun _=>by kernel_rfl) (ss_store [.bool true] 1 (by kernel_rfl) (by kernel_rfl) (fun _=>by kernel_rfl) (by kernel_rfl) q39) ?_
  intro ai e38
  replace h := h ai e38
  refine ⟨[(4, vp (pa d)), (5, vp (pa a))], pk, ?_⟩
  refine T_e ?_
  refine S_ret (by kernel_rfl) ?_
  show At _ _ _ _ _ (Q .ret)
  refine S_doneM (fn := Tryz.f67) (H5.size :: []) hQ (Shut.mono (fun aq h => ?_) h)
  obtain ⟨rB, rN, rC, q40, h⟩ := h
  obtain ⟨r, q41, h⟩ := h
  exact ⟨[vs rB rN rC, .bool r], (show ResOK _ _ _ [.cell 4 43, .cell 5 4] _ from .cell (by kernel_rfl) (loadOK_one (fun _=>by kernel_rfl) q40) (.cell (by kernel_rfl) (loadOK_one (fun _=>by kernel_rfl) q41) (.nil))), h⟩
 ·refine .inr ⟨_, q34, fun f e51 => ?_⟩
  replace h := h f e51
  refine S_marks (H5.size :: []) rfl ?_
  refine T_su [(4, vp (pa d)), (5, vp (pa a)), (6, vp (pa e))] ?_
  refine S_ret rfl ?_
  show At _ _ _ _ _ (Q .ret)
  refine S_doneM (fn := Tryz.f67) (H5.size :: []) hQ (Shut.mono (fun ak h => ?_) h)
  obtain ⟨aa, ae, ac, q42, h⟩ := h
  obtain ⟨an, q43, h⟩ := h
  exact ⟨[vs aa ae ac, .bool an], (show ResOK _ _ _ [.cell 4 43, .cell 5 4] _ from .cell (by kernel_rfl) (loadOK_one (fun _=>by kernel_rfl) q42) (.cell (by kernel_rfl) (loadOK_one (fun _=>by kernel_rfl) q43) (.nil))), h⟩
 refine .inr ⟨_, q34, fun f e51 => ?_⟩
 replace h := h f e51
 refine S_marks (H5.size :: []) rfl ?_
 refine T_su [(4, vp (pa d)), (5, vp (pa a)), (6, vp (pa e))] ?_
 refine S_exit 0 rfl ?_
 refine S_exitHere ?_
 refine S_then ?_
 refine T_sr 10 K31 K32 ?_
 obtain ⟨j, n, l, q44, h⟩ := h
 refine T_l (some 29) 43 q44 [(4, vp (pa d)), (5, vp (pa a)), (29, vs j n l)] ?_
 obtain ⟨q46, h⟩ := h
 refine N_skipop none (storeN 43 (vp (pa d)) (vs j n l)) (fun Hz => Hz = hputs f (Addr.mk d 0 none) [vs j n l] 0) (fun _=>by kernel_rfl) (ss_store [vs j n l] 1 (by kernel_rfl) (by kernel_rfl) (fun _=>by kernel_rfl) (by kernel_rfl) q46) ?_
 intro t e45
 replace h := h t e45
 refine ⟨[(4, vp (pa d)), (5, vp (pa a))], pk, ?_⟩
 obtain ⟨q48, h⟩ := h
 refine N_skipop none (storeN 4 (vp (pa a)) (.bool true)) (fun Hz => Hz = hputs t (Addr.mk a 0 none) [.bool true] 0) (fun _=>by kernel_rfl) (ss_store [.bool true] 1 (by kernel_rfl) (by kernel_rfl) (fun _=>by kernel_rfl) (by kernel_rfl) q48) ?_
 intro ah e47
 replace h := h ah e47
 refine ⟨[(4, vp (pa d)), (5, vp (pa a))], pk, ?_⟩
 refine T_e ?_
 refine S_ret (by kernel_rfl) ?_
 show At _ _ _ _ _ (Q .ret)
 refine S_doneM (fn := Tryz.f67) (H5.size :: []) hQ (Shut.mono (fun am h => ?_) h)
 obtain ⟨ab, ad, z, q49, h⟩ := h
 obtain ⟨aj, q50, h⟩ := h
 exact ⟨[vs ab ad z, .bool aj], (show ResOK _ _ _ [.cell 4 43, .cell 5 4] _ from .cell (by kernel_rfl) (loadOK_one (fun _=>by kernel_rfl) q49) (.cell (by kernel_rfl) (loadOK_one (fun _=>by kernel_rfl) q50) (.nil))), h⟩
end lists_List

/-! moraine/lists.pairs -/
namespace lists_pairs
def K0 := Func.code Tryz.f117
def K1 := ca K0
def K2 := cb K0
def K3 := ca K2
def K4 := cb K2
end lists_pairs
def lists_pairs.pt (hv : Option Addr) (wv : Int) (H : Array Obj) (R : Value → Array Obj → Prop) : Prop :=
 ∀ (b : Nat) (H1 : Array Obj), b = H.size → H1 = H.push (.cells #[.pointer hv] 30) →
 ∀ (a : Nat) (H2 : Array Obj), a = H1.size → H2 = H1.push (.cells #[.int .u64 wv] 35) →
 R (.func (.func 161) #[] #[.pointer (some (Addr.mk b 0 none)), .pointer (some (Addr.mk a 0 none))]) H2
namespace lists_pairs
set_option maxRecDepth 100000 in
theorem link {hv : Option Addr} {wv : Int} {H : Array Obj} {R : Value → Array Obj → Prop} (h : pt hv wv H R) : C hv wv H R := by
 refine T_en K0 6 Tryz.func117 ?_
 intro w0 Q hQ
 unfold pt at h
 refine T_su [(0, vp hv), (1, vu wv)] ?_
 refine T_sr 0 K1 K2 ?_
 refine T_nw (some 2) (fun b => vp (pa b)) (.cells #[vp hv] 30) ?_
 intro b H1 e1 e2
 replace h := h b H1 e1 e2
 refine ⟨[(1, vu wv), (2, vp (pa b))], pk, ?_⟩
 refine T_nw (some 3) (fun b => vp (pa b)) (.cells #[vu wv] 35) ?_
 intro a H2 e3 e4
 replace h := h a H2 e3 e4
 refine ⟨[(2, vp (pa b)), (3, vp (pa a))], pk, ?_⟩
 refine T_ne 1 [(2, vp (pa b)), (3, vp (pa a))] ?_
 refine T_sr 1 K3 K4 ?_
 refine T_ne 2 [(4, .func (.func 161) #[] #[vp (pa b), vp (pa a)])] ?_
 exact T_ret [4] [.func (.func 161) #[] #[vp (pa b), vp (pa a)]] hQ h
end lists_pairs

/-! moraine/lists.pairs.1 -/
namespace lists_pairs_1
def K0 := Func.code Tryz.f161
def K1 := ca K0
def K2 := cb K0
def K3 := ca K1
def K4 := cb K1
def K5 := ca K4
def K6 := ca K5
def K7 := ca K6
def K8 := cb K6
def K9 := ca K8
def K10 := cb K8
def K11 := ca K9
def K12 := cb K9
def K13 := ca K10
def K14 := cb K10
def K15 := ca K13
def K16 := ca K15
def K17 := cb K15
def K18 := ca K16
def K19 := cb K16
def K20 := ca K19
def K21 := cb K19
def K22 := ca K17
def K23 := cb K17
def K24 := ca K22
def K25 := cb K22
def K26 := ca K25
def K27 := cb K25
end lists_pairs_1
def lists_pairs_1.pt (yield : Value) (cap0 : Option Addr) (cap1 : Option Addr) (H : Array Obj) (R : Value → Array Obj → Prop) : Prop :=
 ∃ (I7 : Int → Array Obj → Prop) (m7 : Int → Array Obj → Nat), I7 0 H ∧ ∀ (s4 : Int) (H1 : Array Obj), I7 s4 H1 →
 if s4 < 32768 then (
 ∃ b : Addr, cap0 = some b ∧
 ∃ x : Option Addr, hat H1 b = some (.pointer x) ∧
 ∃ a : Addr, cap1 = some a ∧
 ∃ j : Int, hat H1 a = some (.int .u64 j) ∧
 obj_Heap_Pair.C x j H1 (fun v H2 => ∃ e : Bool, v = .bool e ∧ 
 if e = true then (
 ∃ k : Int, hat H2 a = some (.int .u64 k) ∧
 FC Tryz.prog yield #[.int .u64 k, .bool false] H2 (fun q H3 => ∃ f : Bool, q = .bool f ∧ 
 if f = true then (
 ∃ i : Option Addr, hat H3 b = some (.pointer i) ∧
 ∃ l : Int, hat H3 a = some (.int .u64 l) ∧
 obj_Heap_Cdr.C i l H3 (fun r H4 => ∃ ra : Int, ∃ rb : Int, r = .tuple #[.int .u64 ra, .int .i64 rb] ∧ 
 (CanPuts H4 a 0 1) ∧ ∀ H5 : Array Obj, H5 = hputs H4 a [.int .u64 ra] 0 →
 (I7 (IntKind.wrap .i64 (s4 + 1)) H5 ∧ m7 (IntKind.wrap .i64 (s4 + 1)) H5 < m7 s4 H1)))
 else
 R (.tuple #[]) H3))
 else
 ∃ m : Int, hat H2 a = some (.int .u64 m) ∧
 FC Tryz.prog yield #[.int .u64 m, .bool true] H2 (fun o H6 => ∃ p : Bool, o = .bool p ∧ 
 R (.tuple #[]) H6)))
 else
 ∃ d : Addr, cap1 = some d ∧
 ∃ g : Int, hat H1 d = some (.int .u64 g) ∧
 FC Tryz.prog yield #[.int .u64 g, .bool true] H1 (fun s H7 => ∃ n : Bool, s = .bool n ∧ 
 R (.tuple #[]) H7)
namespace lists_pairs_1
set_option maxRecDepth 100000 in
theorem link {yield : Value} {cap0 : Option Addr} {cap1 : Option Addr} {H : Array Obj} {R : Value → Array Obj → Prop} (h : pt yield cap0 cap1 H R) : C yield cap0 cap1 H R := by
 refine T_en K0 24 Tryz.func161 ?_
 intro w0 Q hQ
 unfold pt at h
 refine T_su [(0, yield), (1, vp cap0), (2, vp cap1)] ?_
 refine T_s K1 K2 ?_
 refine T_sr 0 K3 K4 ?_
 refine T_ne 1 [(0, yield), (1, vp cap0), (2, vp cap1), (4, vi 0)] ?_
 refine T_b 0 K5 ?_
 obtain ⟨I7, m7, i1, i2⟩ := h
 refine S_loop (x := K6) (σ := Int) (fun s_ => [(0, yield), (1, vp cap0), (2, vp cap1), (4, vi s_)]) (fun s_ H => I7 s_ H) (fun s_ H => m7 s_ H) (0 : Int) (by kernel_rfl) i1 sk ?_
 rintro s4 H1 i3
 have h := i2 s4 H1 i3
 refine T_su [(0, yield), (1, vp cap0), (2, vp cap1), (4, vi s4)] ?_
 refine T_sr 1 K7 K8 ?_
 refine T_ne 1 [(0, yield), (1, vp cap0), (2, vp cap1), (4, vi s4), (5, .bool (decide (s4 < 32768)))] ?_
 refine T_s K9 K10 ?_
 by_cases c4 : s4 < 32768
 ·rw [if_pos c4] at h
  have b5 : (decide (s4 < 32768)) = true := decide_eq_true c4
  refine T_cT 5 K11 K12 b5 ?_
  refine T_kt ?_
  refine T_s K13 K14 ?_
  refine T_b 1 K15 ?_
  refine T_s K16 K17 ?_
  refine T_sr 2 K18 K19 ?_
  refine T_nu [(0, yield), (1, vp cap0), (2, vp cap1), (4, vi s4)] ?_
  obtain ⟨b, rfl, h⟩ := h
  obtain ⟨x, q6, h⟩ := h
  refine T_l (some 6) 30 q6 [(0, yield), (1, vp (some b)), (2, vp cap1), (4, vi s4), (6, vp x)] ?_
  obtain ⟨a, rfl, h⟩ := h
  obtain ⟨j, q7, h⟩ := h
  refine T_l (some 7) 35 q7 [(0, yield), (1, vp (some b)), (2, vp (some a)), (4, vi s4), (6, vp x), (7, vu j)] ?_
  refine T_c (some 8) h ?_; clear h
  rintro v H2 ⟨e, rfl, h⟩
  refine ⟨[(0, yield), (1, vp (some b)), (2, vp (some a)), (4, vi s4), (8, .bool e)], pk, ?_⟩
  refine T_ne 1 [(0, yield), (1, vp (some b)), (2, vp (some a)), (4, vi s4), (9, .bool (!e))] ?_
  by_cases c8 : e = true
  ·rw [if_pos c8] at h
   have b9 : (!e) = false := congrArg Bool.not (c8)
   refine T_cF 9 K20 K21 b9 ?_
   refine T_kt ?_
   refine T_s K22 K23 ?_
   refine T_sr 3 K24 K25 ?_
   refine T_n 1 [(0, yield), (1, vp (some b)), (2, vp (some a)), (4, vi s4), (10, yield)] ?_
   obtain ⟨k, q10, h⟩ := h
   refine T_l (some 11) 35 q10 [(0, yield), (1, vp (some b)), (2, vp (some a)), (4, vi s4), (10, yield), (11, vu k)] ?_
   refine N_callv (some 12) yield #[vu k, .bool false] (fun _=>by kernel_rfl) h ?_; clear h
   rintro q H3 ⟨f, rfl, h⟩
   refine ⟨[(0, yield), (1, vp (some b)), (2, vp (some a)), (4, vi s4), (12, .bool f)], pk, ?_⟩
   refine T_ne 1 [(0, yield), (1, vp (some b)), (2, vp (some a)), (4, vi s4), (13, .bool (!f))] ?_
   by_cases c11 : f = true
   ·rw [if_pos c11] at h
    have b12 : (!f) = false := congrArg Bool.not (c11)
    refine T_cF 13 K26 K27 b12 ?_
    refine T_kt ?_
    refine T_r 4 K23 ?_
    refine T_nu [(0, yield), (1, vp (some b)), (2, vp (some a)), (4, vi s4)] ?_
    obtain ⟨i, q13, h⟩ := h
    refine T_l (some 15) 30 q13 [(0, yield), (1, vp (some b)), (2, vp (some a)), (4, vi s4), (15, vp i)] ?_
    obtain ⟨l, q14, h⟩ := h
    refine T_l (some 16) 35 q14 [(0, yield), (1, vp (some b)), (2, vp (some a)), (4, vi s4), (15, vp i), (16, vu l)] ?_
    refine T_c (some 17) h ?_; clear h
    rintro r H4 ⟨ra, rb, rfl, h⟩
    refine ⟨[(0, yield), (1, vp (some b)), (2, vp (some a)), (4, vi s4), (17, .tuple #[vu ra, vi rb])], pk, ?_⟩
    refine T_n 3 [(0, yield), (1, vp (some b)), (2, vp (some a)), (4, vi s4), (18, vu ra)] ?_
    obtain ⟨q16, h⟩ := h
    refine N_skipop none (storeN 35 (vp (some a)) (vu ra)) (fun Hz => Hz = hputs H4 a [vu ra] 0) (fun _=>by kernel_rfl) (ss_store [vu ra] 1 (by kernel_rfl) (by kernel_rfl) (fun _=>by kernel_rfl) (by kernel_rfl) q16) ?_
    intro H5 e15
    replace h := h H5 e15
    refine ⟨[(0, yield), (1, vp (some b)), (2, vp (some a)), (4, vi s4)], pk, ?_⟩
    refine N_end (by kernel_rfl) ?_
    refine S_blockEnd ?_
    refine S_then ?_
    refine T_r 5 K14 ?_
    refine T_ne 2 [(0, yield), (1, vp (some b)), (2, vp (some a)), (4, vi (IntKind.wrap .i64 (s4 + 1)))] ?_
    exact S_round ((IntKind.wrap .i64 (s4 + 1)) : Int) sk h
   rw [if_neg c11] at h
   have b12 : (!f) = true := congrArg Bool.not (eq_false_of_ne_true c11)
   refine T_cT 13 K26 K27 b12 ?_
   exact T_ret [] [] hQ h
  rw [if_neg c8] at h
  have b9 : (!e) = true := congrArg Bool.not (eq_false_of_ne_true c8)
  refine T_cT 9 K20 K21 b9 ?_
  refine S_exit 0 (by kernel_rfl) ?_
  refine S_exitThen ?_
  refine S_exitPast (by kernel_rfl) ?_
  refine S_exitThen ?_
  refine S_exitThen ?_
  refine S_exitHere ?_
  refine S_then ?_
  refine T_r 6 K2 ?_
  refine T_n 1 [(2, vp (some a)), (21, yield)] ?_
  obtain ⟨m, q17, h⟩ := h
  refine T_l (some 22) 35 q17 [(21, yield), (22, vu m)] ?_
  refine N_callv (some 23) yield #[vu m, .bool true] (fun _=>by kernel_rfl) h ?_; clear h
  rintro o H6 ⟨p, rfl, h⟩
  refine ⟨[], pk, ?_⟩
  refine N_end (by kernel_rfl) ?_
  exact S_doneN (fn := Tryz.f161) [] hQ (show ResOK _ _ _ [] _ from .nil) h
 rw [if_neg c4] at h
 have b5 : (decide (s4 < 32768)) = false := decide_eq_false c4
 refine T_cF 5 K11 K12 b5 ?_
 refine S_exit 0 (by kernel_rfl) ?_
 refine S_exitThen ?_
 refine S_exitThen ?_
 refine S_exitHere ?_
 refine S_then ?_
 refine T_r 6 K2 ?_
 refine T_n 1 [(2, vp cap1), (21, yield)] ?_
 obtain ⟨d, rfl, h⟩ := h
 obtain ⟨g, q18, h⟩ := h
 refine T_l (some 22) 35 q18 [(21, yield), (22, vu g)] ?_
 refine N_callv (some 23) yield #[vu g, .bool true] (fun _=>by kernel_rfl) h ?_; clear h
 rintro s H7 ⟨n, rfl, h⟩
 refine ⟨[], pk, ?_⟩
 refine N_end (by kernel_rfl) ?_
 exact S_doneN (fn := Tryz.f161) [] hQ (show ResOK _ _ _ [] _ from .nil) h
end lists_pairs_1

/-! moraine/morainelaw23.does -/
namespace morainelaw23_does
def K0 := Func.code Tryz.f23
def K1 := ca K0
def K2 := cb K0
def K3 := ca K2
def K4 := cb K2
def K5 := ca K4
def K6 := cb K4
end morainelaw23_does
def morainelaw23_does.pt (hv : Option Addr) (nv : Int) (argsB : Option Addr) (argsN : Nat) (argsC : Nat) (H : Array Obj) (R : Value → Array Obj → Prop) : Prop :=
 texts_Apply.C hv nv argsB argsN argsC H (fun v H1 => ∃ ra : Int, ∃ rb : Int, v = .tuple #[.int .u64 ra, .int .i64 rb] ∧ 
 R (.tuple #[.int .u64 ra, .bool (rb == 0)]) H1)
namespace morainelaw23_does
set_option maxRecDepth 100000 in
theorem link {hv : Option Addr} {nv : Int} {argsB : Option Addr} {argsN : Nat} {argsC : Nat} {H : Array Obj} {R : Value → Array Obj → Prop} (h : pt hv nv argsB argsN argsC H R) : C hv nv argsB argsN argsC H R := by
 refine T_en K0 20 Tryz.func23 ?_
 intro w0 Q hQ
 unfold pt at h
 refine T_su [(0, vp hv), (1, vi nv), (2, vs argsB argsN argsC)] ?_
 refine T_sr 0 K1 K2 ?_
 refine T_ne 2 [(0, vp hv), (1, vi nv), (2, vs argsB argsN argsC)] ?_
 refine T_sr 1 K3 K4 ?_
 refine T_n 3 [(11, vp hv), (12, vi nv), (13, vs argsB argsN argsC)] ?_
 refine T_c (some 14) h ?_; clear h
 rintro v H1 ⟨ra, rb, rfl, h⟩
 refine ⟨[(14, .tuple #[vu ra, vi rb])], pk, ?_⟩
 refine T_ne 5 [(8, vu ra), (9, vi rb)] ?_
 refine T_sr 2 K5 K6 ?_
 refine T_ne 5 [(6, vu ra), (7, .bool (rb == 0))] ?_
 exact T_ret [6, 7] [vu ra, .bool (rb == 0)] hQ h
end morainelaw23_does

/-! moraine/morainelaw23.awake -/
namespace morainelaw23_awake
def K0 := Func.code Tryz.f21
def K1 := ca K0
def K2 := cb K0
def K3 := ca K2
def K4 := cb K2
def K5 := ca K4
def K6 := cb K4
def K7 := ca K5
def K8 := cb K5
def K9 := ca K8
def K10 := cb K8
def K11 := ca K9
def K12 := cb K9
def K13 := ca K6
def K14 := cb K6
def K15 := ca K14
def K16 := cb K14
def K17 := ca K16
def K18 := cb K16
def K19 := ca K18
def K20 := cb K18
def K21 := ca K20
def K22 := cb K20
def K23 := ca K22
def K24 := cb K22
def K25 := ca K24
def K26 := cb K24
def K27 := ca K26
def K28 := cb K26
def K29 := ca K28
def K30 := cb K28
def K31 := ca K30
def K32 := cb K30
end morainelaw23_awake
def morainelaw23_awake.pt  (H : Array Obj) (R : Value → Array Obj → Prop) : Prop :=
 obj_New.C 8 H (fun v H1 => ∃ ra : Option Addr, ∃ rb : Int, v = .tuple #[.pointer ra, .int .i64 rb] ∧ 
 if rb = 0 then (
 onPtr ra (
 R (.bool false) H1) (fun i =>
 obj_Heap_String.C (some i) (ByteArray.mk #[97, 98]) H1 (fun ak H2 => ∃ p : Int, ∃ aa : Int, ak = .tuple #[.int .u64 p, .int .i64 aa] ∧ 
 obj_Heap_String.C (some i) (ByteArray.mk #[195, 177]) H2 (fun al H3 => ∃ r : Int, ∃ ab : Int, al = .tuple #[.int .u64 r, .int .i64 ab] ∧ 
 ∀ (b : Nat) (H4 : Array Obj), b = H3.size → H4 = H3.push (.cells #[.int .u64 p, .int .u64 r] 35) →
 texts_Apply.C (some i) 24 (some (Addr.mk b 0 none)) 2 2 H4 (fun ai H5 => ∃ q : Int, ∃ o : Int, ai = .tuple #[.int .u64 q, .int .i64 o] ∧ 
 obj_Heap_Text.C (some i) q H5 (fun an H6 => ∃ n : ByteArray, ∃ j : Int, an = .tuple #[.string n, .int .i64 j] ∧ 
 ∀ (x : Nat) (H7 : Array Obj), x = H6.size → H7 = H6.push (.cells #[.int .u64 q] 35) →
 texts_Apply.C (some i) 17 (some (Addr.mk x 0 none)) 1 1 H7 (fun ah H8 => ∃ m : Int, ∃ e : Int, ah = .tuple #[.int .u64 m, .int .i64 e] ∧ 
 ∀ (t : Nat) (H9 : Array Obj), t = H8.size → H9 = H8.push (.cells #[.int .u64 q, .int .u64 16, .int .u64 8] 35) →
 texts_Apply.C (some i) 23 (some (Addr.mk t 0 none)) 3 3 H9 (fun aj ae => ∃ ac : Int, ∃ g : Int, aj = .tuple #[.int .u64 ac, .int .i64 g] ∧ 
 ∀ (y : Nat) (H11 : Array Obj), y = ae.size → H11 = ae.push (.cells #[.int .u64 p] 35) →
 texts_Apply.C (some i) 28 (some (Addr.mk y 0 none)) 1 1 H11 (fun ap ag => ∃ d : Int, ∃ k : Int, ap = .tuple #[.int .u64 d, .int .i64 k] ∧ 
 ∀ (u : Nat) (H13 : Array Obj), u = ag.size → H13 = ag.push (.cells #[.int .u64 p] 35) →
 texts_Apply.C (some i) 28 (some (Addr.mk u 0 none)) 1 1 H13 (fun ao ad => ∃ f : Int, ∃ l : Int, ao = .tuple #[.int .u64 f, .int .i64 l] ∧ 
 ∀ (s : Nat) (H15 : Array Obj), s = ad.size → H15 = ad.push (.cells #[.int .u64 40] 35) →
 texts_Apply.C (some i) 16 (some (Addr.mk s 0 none)) 1 1 H15 (fun af am => ∃ z : Int, ∃ a : Int, af = .tuple #[.int .u64 z, .int .i64 a] ∧ 
 R (.bool ((((((((((o == 0) && (n.toList == (ByteArray.mk #[97, 98, 195, 177]).toList)) && (j == 0)) && (m == 24)) && (e == 0)) && (g == 4)) && (k == 0)) && (l == 0)) && (d == f)) && (a == 3))) am)))))))))))
 else
 R (.bool false) H1)
namespace morainelaw23_awake
set_option maxRecDepth 100000 in
theorem link  {H : Array Obj} {R : Value → Array Obj → Prop} (h : pt  H R) : C  H R := by
 refine T_en K0 128 Tryz.func21 ?_
 intro w0 Q hQ
 unfold pt at h
 refine T_su [] ?_
 refine T_sr 0 K1 K2 ?_
 refine T_ne 1 [] ?_
 refine T_sr 1 K3 K4 ?_
 refine T_c (some 22) h ?_; clear h
 rintro v H1 ⟨ra, rb, rfl, h⟩
 refine ⟨[(22, .tuple #[vp ra, vi rb])], pk, ?_⟩
 refine T_ne 5 [(1, vp ra), (2, vi rb)] ?_
 refine T_s K5 K6 ?_
 refine T_sr 2 K7 K8 ?_
 refine T_n 3 [(1, vp ra), (27, .bool (rb != 0))] ?_
 by_cases c1 : rb = 0
 ·rw [if_pos c1] at h
  have b2 : (rb != 0) = false := bne_eq_false_iff_eq.mpr c1
  refine N_env [(1, vp ra), (27, .bool false)] (by rw [b2]) ?_
  clear b2
  refine T_n 1 [(1, vp ra), (27, .bool false), (28, vp ra)] ?_
  rcases ra with _ | i
  ·rw [onPtr_none] at h
   refine T_ne 2 [(1, vp none), (30, .bool true)] ?_
   refine T_t 30 K9 K10 ?_
   refine T_sr 3 K11 K12 ?_
   refine T_ne 1 [(0, .bool false)] ?_
   exact T_ret [0] [.bool false] hQ h
  rw [onPtr_some] at h
  refine T_ne 2 [(1, vp (some i)), (30, .bool false)] ?_
  refine T_f 30 K9 K10 ?_
  refine T_kt ?_
  refine T_sr 4 K13 K14 ?_
  refine T_n 1 [(1, vp (some i)), (32, vp (some i))] ?_
  refine T_c (some 33) h ?_; clear h
  rintro ak H2 ⟨p, aa, rfl, h⟩
  refine ⟨[(1, vp (some i)), (33, .tuple #[vu p, vi aa])], pk, ?_⟩
  refine T_ne 5 [(1, vp (some i)), (3, vu p)] ?_
  refine T_sr 5 K15 K16 ?_
  refine T_n 1 [(1, vp (some i)), (3, vu p), (37, vp (some i))] ?_
  refine T_c (some 38) h ?_; clear h
  rintro al H3 ⟨r, ab, rfl, h⟩
  refine ⟨[(1, vp (some i)), (3, vu p), (38, .tuple #[vu r, vi ab])], pk, ?_⟩
  refine T_ne 5 [(1, vp (some i)), (3, vu p), (5, vu r)] ?_
  refine T_sr 6 K17 K18 ?_
  refine T_n 3 [(1, vp (some i)), (3, vu p), (42, vp (some i)), (43, vu p), (44, vu r)] ?_
  refine T_nw (some 45) (fun b => vs (pa b) 2 2) (.cells #[vu p, vu r] 35) ?_
  intro b H4 e3 e4
  replace h := h b H4 e3 e4
  refine ⟨[(1, vp (some i)), (3, vu p), (42, vp (some i)), (45, vs (pa b) 2 2)], pk, ?_⟩
  refine T_c (some 46) h ?_; clear h
  rintro ai H5 ⟨q, o, rfl, h⟩
  refine ⟨[(1, vp (some i)), (3, vu p), (46, .tuple #[vu q, vi o])], pk, ?_⟩
  refine T_ne 5 [(1, vp (some i)), (3, vu p), (7, vu q), (8, vi o)] ?_
  refine T_sr 7 K19 K20 ?_
  refine T_n 2 [(1, vp (some i)), (3, vu p), (7, vu q), (8, vi o), (50, vp (some i)), (51, vu q)] ?_
  refine T_c (some 52) h ?_; clear h
  rintro an H6 ⟨n, j, rfl, h⟩
  refine ⟨[(1, vp (some i)), (3, vu p), (7, vu q), (8, vi o), (52, .tuple #[.string n, vi j])], pk, ?_⟩
  refine T_ne 5 [(1, vp (some i)), (3, vu p), (7, vu q), (8, vi o), (9, .string n), (10, vi j)] ?_
  refine T_sr 8 K21 K22 ?_
  refine T_n 2 [(1, vp (some i)), (3, vu p), (7, vu q), (8, vi o), (9, .string n), (10, vi j), (56, vp (some i)), (57, vu q)] ?_
  refine T_nw (some 58) (fun b => vs (pa b) 1 1) (.cells #[vu q] 35) ?_
  intro x H7 e5 e6
  replace h := h x H7 e5 e6
  refine ⟨[(1, vp (some i)), (3, vu p), (7, vu q), (8, vi o), (9, .string n), (10, vi j), (56, vp (some i)), (58, vs (pa x) 1 1)], pk, ?_⟩
  refine T_c (some 59) h ?_; clear h
  rintro ah H8 ⟨m, e, rfl, h⟩
  refine ⟨[(1, vp (some i)), (3, vu p), (7, vu q), (8, vi o), (9, .string n), (10, vi j), (59, .tuple #[vu m, vi e])], pk, ?_⟩
  refine T_ne 5 [(1, vp (some i)), (3, vu p), (7, vu q), (8, vi o), (9, .string n), (10, vi j), (11, vu m), (12, vi e)] ?_
  refine T_sr 9 K23 K24 ?_
  refine T_n 2 [(1, vp (some i)), (3, vu p), (8, vi o), (9, .string n), (10, vi j), (11, vu m), (12, vi e), (63, vp (some i)), (64, vu q)] ?_
  refine T_nw (some 65) (fun b => vs (pa b) 3 3) (.cells #[vu q, vu 16, vu 8] 35) ?_
  intro t H9 e7 e8
  replace h := h t H9 e7 e8
  refine ⟨[(1, vp (some i)), (3, vu p), (8, vi o), (9, .string n), (10, vi j), (11, vu m), (12, vi e), (63, vp (some i)), (65, vs (pa t) 3 3)], pk, ?_⟩
  refine T_c (some 66) h ?_; clear h
  rintro aj ae ⟨ac, g, rfl, h⟩
  refine ⟨[(1, vp (some i)), (3, vu p), (8, vi o), (9, .string n), (10, vi j), (11, vu m), (12, vi e), (66, .tuple #[vu ac, vi g])], pk, ?_⟩
  refine T_ne 5 [(1, vp (some i)), (3, vu p), (8, vi o), (9, .string n), (10, vi j), (11, vu m), (12, vi e), (14, vi g)] ?_
  refine T_sr 10 K25 K26 ?_
  refine T_n 2 [(1, vp (some i)), (3, vu p), (8, vi o), (9, .string n), (10, vi j), (11, vu m), (12, vi e), (14, vi g), (70, vp (some i)), (71, vu p)] ?_
  refine T_nw (some 72) (fun b => vs (pa b) 1 1) (.cells #[vu p] 35) ?_
  intro y H11 e9 e10
  replace h := h y H11 e9 e10
  refine ⟨[(1, vp (some i)), (3, vu p), (8, vi o), (9, .string n), (10, vi j), (11, vu m), (12, vi e), (14, vi g), (70, vp (some i)), (72, vs (pa y) 1 1)], pk, ?_⟩
  refine T_c (some 73) h ?_; clear h
  rintro ap ag ⟨d, k, rfl, h⟩
  refine ⟨[(1, vp (some i)), (3, vu p), (8, vi o), (9, .string n), (10, vi j), (11, vu m), (12, vi e), (14, vi g), (73, .tuple #[vu d, vi k])], pk, ?_⟩
  refine T_ne 5 [(1, vp (some i)), (3, vu p), (8, vi o), (9, .string n), (10, vi j), (11, vu m), (12, vi e), (14, vi g), (15, vu d), (16, vi k)] ?_
  refine T_sr 11 K27 K28 ?_
  refine T_n 2 [(1, vp (some i)), (8, vi o), (9, .string n), (10, vi j), (11, vu m), (12, vi e), (14, vi g), (15, vu d), (16, vi k), (77, vp (some i)), (78, vu p)] ?_
  refine T_nw (some 79) (fun b => vs (pa b) 1 1) (.cells #[vu p] 35) ?_
  intro u H13 e11 e12
  replace h := h u H13 e11 e12
  refine ⟨[(1, vp (some i)), (8, vi o), (9, .string n), (10, vi j), (11, vu m), (12, vi e), (14, vi g), (15, vu d), (16, vi k), (77, vp (some i)), (79, vs (pa u) 1 1)], pk, ?_⟩
  refine T_c (some 80) h ?_; clear h
  rintro ao ad ⟨f, l, rfl, h⟩
  refine ⟨[(1, vp (some i)), (8, vi o), (9, .string n), (10, vi j), (11, vu m), (12, vi e), (14, vi g), (15, vu d), (16, vi k), (80, .tuple #[vu f, vi l])], pk, ?_⟩
  refine T_ne 5 [(1, vp (some i)), (8, vi o), (9, .string n), (10, vi j), (11, vu m), (12, vi e), (14, vi g), (15, vu d), (16, vi k), (17, vu f), (18, vi l)] ?_
  refine T_sr 12 K29 K30 ?_
  refine T_n 1 [(8, vi o), (9, .string n), (10, vi j), (11, vu m), (12, vi e), (14, vi g), (15, vu d), (16, vi k), (17, vu f), (18, vi l), (84, vp (some i))] ?_
  refine T_nw (some 85) (fun b => vs (pa b) 1 1) (.cells #[vu 40] 35) ?_
  intro s H15 e13 e14
  replace h := h s H15 e13 e14
  refine ⟨[(8, vi o), (9, .string n), (10, vi j), (11, vu m), (12, vi e), (14, vi g), (15, vu d), (16, vi k), (17, vu f), (18, vi l), (84, vp (some i)), (85, vs (pa s) 1 1)], pk, ?_⟩
  refine T_c (some 86) h ?_; clear h
  rintro af am ⟨z, a, rfl, h⟩
  refine ⟨[(8, vi o), (9, .string n), (10, vi j), (11, vu m), (12, vi e), (14, vi g), (15, vu d), (16, vi k), (17, vu f), (18, vi l), (86, .tuple #[vu z, vi a])], pk, ?_⟩
  refine T_ne 5 [(8, vi o), (9, .string n), (10, vi j), (11, vu m), (12, vi e), (14, vi g), (15, vu d), (16, vi k), (17, vu f), (18, vi l), (20, vi a)] ?_
  refine T_sr 13 K31 K32 ?_
  refine N_cut [(0, .bool ((((((((((o == 0) && (n.toList == (ByteArray.mk #[97, 98, 195, 177]).toList)) && (j == 0)) && (m == 24)) && (e == 0)) && (g == 4)) && (k == 0)) && (l == 0)) && (d == f)) && (a == 3)))] ?_ ?_
  ·refine S_then ?_
   exact T_ret [0] [.bool ((((((((((o == 0) && (n.toList == (ByteArray.mk #[97, 98, 195, 177]).toList)) && (j == 0)) && (m == 24)) && (e == 0)) && (g == 4)) && (k == 0)) && (l == 0)) && (d == f)) && (a == 3))] hQ h
  intro hk
  refine T_n 3 [(9, .string n), (10, vi j), (11, vu m), (12, vi e), (14, vi g), (15, vu d), (16, vi k), (17, vu f), (18, vi l), (20, vi a), (91, .bool (o == 0))] ?_
  by_cases c15 : o = 0
  ·have b16 : (o == 0) = true := beq_iff_eq.mpr c15
   refine N_env [(9, .string n), (10, vi j), (11, vu m), (12, vi e), (14, vi g), (15, vu d), (16, vi k), (17, vu f), (18, vi l), (20, vi a), (91, .bool true)] (by rw [b16]) ?_
   refine T_n 4 [(10, vi j), (11, vu m), (12, vi e), (14, vi g), (15, vu d), (16, vi k), (17, vu f), (18, vi l), (20, vi a), (95, .bool (n.toList == (ByteArray.mk #[97, 98, 195, 177]).toList))] ?_
   by_cases c17 : n.toList = (ByteArray.mk #[97, 98, 195, 177]).toList
   ·have b18 : (n.toList == (ByteArray.mk #[97, 98, 195, 177]).toList) = true := beq_iff_eq.mpr c17
    refine N_env [(10, vi j), (11, vu m), (12, vi e), (14, vi g), (15, vu d), (16, vi k), (17, vu f), (18, vi l), (20, vi a), (95, .bool true)] (by rw [b18]) ?_
    refine T_n 4 [(11, vu m), (12, vi e), (14, vi g), (15, vu d), (16, vi k), (17, vu f), (18, vi l), (20, vi a), (99, .bool (j == 0))] ?_
    by_cases c19 : j = 0
    ·have b20 : (j == 0) = true := beq_iff_eq.mpr c19
     refine N_env [(11, vu m), (12, vi e), (14, vi g), (15, vu d), (16, vi k), (17, vu f), (18, vi l), (20, vi a), (99, .bool true)] (by rw [b20]) ?_
     refine T_n 4 [(12, vi e), (14, vi g), (15, vu d), (16, vi k), (17, vu f), (18, vi l), (20, vi a), (103, .bool (m == 24))] ?_
     by_cases c21 : m = 24
     ·have b22 : (m == 24) = true := beq_iff_eq.mpr c21
      refine N_env [(12, vi e), (14, vi g), (15, vu d), (16, vi k), (17, vu f), (18, vi l), (20, vi a), (103, .bool true)] (by rw [b22]) ?_
      refine T_n 4 [(14, vi g), (15, vu d), (16, vi k), (17, vu f), (18, vi l), (20, vi a), (107, .bool (e == 0))] ?_
      by_cases c23 : e = 0
      ·have b24 : (e == 0) = true := beq_iff_eq.mpr c23
       refine N_env [(14, vi g), (15, vu d), (16, vi k), (17, vu f), (18, vi l), (20, vi a), (107, .bool true)] (by rw [b24]) ?_
       refine T_n 4 [(15, vu d), (16, vi k), (17, vu f), (18, vi l), (20, vi a), (111, .bool (g == 4))] ?_
       by_cases c25 : g = 4
       ·have b26 : (g == 4) = true := beq_iff_eq.mpr c25
        refine N_env [(15, vu d), (16, vi k), (17, vu f), (18, vi l), (20, vi a), (111, .bool true)] (by rw [b26]) ?_
        refine T_n 4 [(15, vu d), (17, vu f), (18, vi l), (20, vi a), (115, .bool (k == 0))] ?_
        by_cases c27 : k = 0
        ·have b28 : (k == 0) = true := beq_iff_eq.mpr c27
         refine N_env [(15, vu d), (17, vu f), (18, vi l), (20, vi a), (115, .bool true)] (by rw [b28]) ?_
         refine T_n 4 [(15, vu d), (17, vu f), (20, vi a), (119, .bool (l == 0))] ?_
         by_cases c29 : l = 0
         ·have b30 : (l == 0) = true := beq_iff_eq.mpr c29
          refine N_env [(15, vu d), (17, vu f), (20, vi a), (119, .bool true)] (by rw [b30]) ?_
          refine T_n 5 [(20, vi a), (124, .bool (d == f))] ?_
          by_cases c31 : d = f
          ·have b32 : (d == f) = true := beq_iff_eq.mpr c31
           refine N_env [(20, vi a), (124, .bool true)] (by rw [b32]) ?_
           refine T_n 4 [(0, .bool (a == 3))] ?_
           refine N_end (by kernel_rfl) ?_
           refine S_env [(0, .bool ((((((((((o == 0) && (n.toList == (ByteArray.mk #[97, 98, 195, 177]).toList)) && (j == 0)) && (m == 24)) && (e == 0)) && (g == 4)) && (k == 0)) && (l == 0)) && (d == f)) && (a == 3)))] (by simp only [b16, b18, b20, b22, b24, b26, b28, b30, b32, BL]) ?_
           exact hk
          have b32 : (d == f) = false := beq_eq_false_iff_ne.mpr c31
          refine N_env [(20, vi a), (124, .bool false)] (by rw [b32]) ?_
          refine T_n 4 [(0, .bool false)] ?_
          refine N_end (by kernel_rfl) ?_
          refine S_env [(0, .bool ((((((((((o == 0) && (n.toList == (ByteArray.mk #[97, 98, 195, 177]).toList)) && (j == 0)) && (m == 24)) && (e == 0)) && (g == 4)) && (k == 0)) && (l == 0)) && (d == f)) && (a == 3)))] (by simp only [b16, b18, b20, b22, b24, b26, b28, b30, b32, BL]) ?_
          exact hk
         have b30 : (l == 0) = false := beq_eq_false_iff_ne.mpr c29
         refine N_env [(15, vu d), (17, vu f), (20, vi a), (119, .bool false)] (by rw [b30]) ?_
         refine T_n 9 [(0, .bool false)] ?_
         refine N_end (by kernel_rfl) ?_
         refine S_env [(0, .bool ((((((((((o == 0) && (n.toList == (ByteArray.mk #[97, 98, 195, 177]).toList)) && (j == 0)) && (m == 24)) && (e == 0)) && (g == 4)) && (k == 0)) && (l == 0)) && (d == f)) && (a == 3)))] (by simp only [b16, b18, b20, b22, b24, b26, b28, b30, BL]) ?_
         exact hk
        have b28 : (k == 0) = false := beq_eq_false_iff_ne.mpr c27
        refine N_env [(15, vu d), (17, vu f), (18, vi l), (20, vi a), (115, .bool false)] (by rw [b28]) ?_
        refine T_n 13 [(0, .bool false)] ?_
        refine N_end (by kernel_rfl) ?_
        refine S_env [(0, .bool ((((((((((o == 0) && (n.toList == (ByteArray.mk #[97, 98, 195, 177]).toList)) && (j == 0)) && (m == 24)) && (e == 0)) && (g == 4)) && (k == 0)) && (l == 0)) && (d == f)) && (a == 3)))] (by simp only [b16, b18, b20, b22, b24, b26, b28, BL]) ?_
        exact hk
       have b26 : (g == 4) = false := beq_eq_false_iff_ne.mpr c25
       refine N_env [(15, vu d), (16, vi k), (17, vu f), (18, vi l), (20, vi a), (111, .bool false)] (by rw [b26]) ?_
       refine T_n 17 [(0, .bool false)] ?_
       refine N_end (by kernel_rfl) ?_
       refine S_env [(0, .bool ((((((((((o == 0) && (n.toList == (ByteArray.mk #[97, 98, 195, 177]).toList)) && (j == 0)) && (m == 24)) && (e == 0)) && (g == 4)) && (k == 0)) && (l == 0)) && (d == f)) && (a == 3)))] (by simp only [b16, b18, b20, b22, b24, b26, BL]) ?_
       exact hk
      have b24 : (e == 0) = false := beq_eq_false_iff_ne.mpr c23
      refine N_env [(14, vi g), (15, vu d), (16, vi k), (17, vu f), (18, vi l), (20, vi a), (107, .bool false)] (by rw [b24]) ?_
      refine T_n 21 [(0, .bool false)] ?_
      refine N_end (by kernel_rfl) ?_
      refine S_env [(0, .bool ((((((((((o == 0) && (n.toList == (ByteArray.mk #[97, 98, 195, 177]).toList)) && (j == 0)) && (m == 24)) && (e == 0)) && (g == 4)) && (k == 0)) && (l == 0)) && (d == f)) && (a == 3)))] (by simp only [b16, b18, b20, b22, b24, BL]) ?_
      exact hk
     have b22 : (m == 24) = false := beq_eq_false_iff_ne.mpr c21
     refine N_env [(12, vi e), (14, vi g), (15, vu d), (16, vi k), (17, vu f), (18, vi l), (20, vi a), (103, .bool false)] (by rw [b22]) ?_
     refine T_n 25 [(0, .bool false)] ?_
     refine N_end (by kernel_rfl) ?_
     refine S_env [(0, .bool ((((((((((o == 0) && (n.toList == (ByteArray.mk #[97, 98, 195, 177]).toList)) && (j == 0)) && (m == 24)) && (e == 0)) && (g == 4)) && (k == 0)) && (l == 0)) && (d == f)) && (a == 3)))] (by simp only [b16, b18, b20, b22, BL]) ?_
     exact hk
    have b20 : (j == 0) = false := beq_eq_false_iff_ne.mpr c19
    refine N_env [(11, vu m), (12, vi e), (14, vi g), (15, vu d), (16, vi k), (17, vu f), (18, vi l), (20, vi a), (99, .bool false)] (by rw [b20]) ?_
    refine T_n 29 [(0, .bool false)] ?_
    refine N_end (by kernel_rfl) ?_
    refine S_env [(0, .bool ((((((((((o == 0) && (n.toList == (ByteArray.mk #[97, 98, 195, 177]).toList)) && (j == 0)) && (m == 24)) && (e == 0)) && (g == 4)) && (k == 0)) && (l == 0)) && (d == f)) && (a == 3)))] (by simp only [b16, b18, b20, BL]) ?_
    exact hk
   have b18 : (n.toList == (ByteArray.mk #[97, 98, 195, 177]).toList) = false := beq_eq_false_iff_ne.mpr c17
   refine N_env [(10, vi j), (11, vu m), (12, vi e), (14, vi g), (15, vu d), (16, vi k), (17, vu f), (18, vi l), (20, vi a), (95, .bool false)] (by rw [b18]) ?_
   refine T_n 33 [(0, .bool false)] ?_
   refine N_end (by kernel_rfl) ?_
   refine S_env [(0, .bool ((((((((((o == 0) && (n.toList == (ByteArray.mk #[97, 98, 195, 177]).toList)) && (j == 0)) && (m == 24)) && (e == 0)) && (g == 4)) && (k == 0)) && (l == 0)) && (d == f)) && (a == 3)))] (by simp only [b16, b18, BL]) ?_
   exact hk
  have b16 : (o == 0) = false := beq_eq_false_iff_ne.mpr c15
  refine N_env [(9, .string n), (10, vi j), (11, vu m), (12, vi e), (14, vi g), (15, vu d), (16, vi k), (17, vu f), (18, vi l), (20, vi a), (91, .bool false)] (by rw [b16]) ?_
  refine T_n 37 [(0, .bool false)] ?_
  refine N_end (by kernel_rfl) ?_
  refine S_env [(0, .bool ((((((((((o == 0) && (n.toList == (ByteArray.mk #[97, 98, 195, 177]).toList)) && (j == 0)) && (m == 24)) && (e == 0)) && (g == 4)) && (k == 0)) && (l == 0)) && (d == f)) && (a == 3)))] (by simp only [b16, BL]) ?_
  exact hk
 rw [if_neg c1] at h
 have b2 : (rb != 0) = true := bne_iff_ne.mpr c1
 refine N_env [(1, vp ra), (27, .bool true)] (by rw [b2]) ?_
 clear b2
 refine T_ne 3 [(1, vp ra), (30, .bool true)] ?_
 refine T_t 30 K9 K10 ?_
 refine T_sr 3 K11 K12 ?_
 refine T_ne 1 [(0, .bool false)] ?_
 exact T_ret [0] [.bool false] hQ h
end morainelaw23_awake

/-! moraine/morainelaw23.text -/
namespace morainelaw23_text
def K0 := Func.code Tryz.f24
def K1 := ca K0
def K2 := cb K0
def K3 := ca K2
def K4 := cb K2
def K5 := ca K4
def K6 := cb K4
end morainelaw23_text
def morainelaw23_text.pt (hv : Option Addr) (wv : Int) (H : Array Obj) (R : Value → Array Obj → Prop) : Prop :=
 obj_Heap_Text.C hv wv H (fun v H1 => ∃ ra : ByteArray, ∃ rb : Int, v = .tuple #[.string ra, .int .i64 rb] ∧ 
 R (.string ra) H1)
namespace morainelaw23_text
set_option maxRecDepth 100000 in
theorem link {hv : Option Addr} {wv : Int} {H : Array Obj} {R : Value → Array Obj → Prop} (h : pt hv wv H R) : C hv wv H R := by
 refine T_en K0 14 Tryz.func24 ?_
 intro w0 Q hQ
 unfold pt at h
 refine T_su [(0, vp hv), (1, vu wv)] ?_
 refine T_sr 0 K1 K2 ?_
 refine T_ne 1 [(0, vp hv), (1, vu wv)] ?_
 refine T_sr 1 K3 K4 ?_
 refine T_n 2 [(8, vp hv), (9, vu wv)] ?_
 refine T_c (some 10) h ?_; clear h
 rintro v H1 ⟨ra, rb, rfl, h⟩
 refine ⟨[(10, .tuple #[.string ra, vi rb])], pk, ?_⟩
 refine T_ne 5 [(5, .string ra)] ?_
 refine T_sr 2 K5 K6 ?_
 refine T_ne 2 [(4, .string ra)] ?_
 exact T_ret [4] [.string ra] hQ h
end morainelaw23_text

/-! moraine/morainelaw23.TextsBack -/
namespace morainelaw23_TextsBack
def K0 := Func.code Tryz.f5
def K1 := ca K0
def K2 := cb K0
def K3 := ca K2
def K4 := cb K2
def K5 := ca K4
def K6 := cb K4
def K7 := ca K6
def K8 := cb K6
def K9 := ca K7
def K10 := cb K7
def K11 := ca K10
def K12 := cb K10
def K13 := ca K11
def K14 := cb K11
def K15 := ca K8
def K16 := cb K8
def K17 := ca K16
def K18 := cb K16
def K19 := ca K18
def K20 := cb K18
def K21 := ca K20
def K22 := cb K20
def K23 := ca K22
def K24 := cb K22
def K25 := ca K23
def K26 := cb K23
def K27 := ca K26
def K28 := cb K26
def K29 := ca K24
def K30 := cb K24
def K31 := ca K30
def K32 := cb K30
def K33 := ca K32
def K34 := cb K32
def K35 := ca K34
def K36 := cb K34
def K37 := ca K35
def K38 := cb K35
def K39 := ca K38
def K40 := cb K38
def K41 := ca K36
def K42 := cb K36
def K43 := ca K42
def K44 := cb K42
def K45 := ca K44
def K46 := cb K44
def K47 := ca K46
def K48 := cb K46
def K49 := ca K48
def K50 := cb K48
def K51 := ca K49
def K52 := cb K49
def K53 := ca K52
def K54 := cb K52
def K55 := ca K53
def K56 := cb K53
def K57 := ca K50
def K58 := cb K50
def K59 := ca K57
def K60 := cb K57
def K61 := ca K60
def K62 := ca K61
def K63 := ca K62
def K64 := cb K62
def K65 := ca K63
def K66 := cb K63
def K67 := ca K66
def K68 := cb K66
def K69 := ca K64
def K70 := cb K64
def K71 := ca K69
def K72 := ca K71
def K73 := cb K71
def K74 := ca K73
def K75 := cb K73
def K76 := ca K75
def K77 := cb K75
def K78 := ca K77
def K79 := cb K77
def K80 := ca K79
def K81 := cb K79
def K82 := ca K80
def K83 := cb K80
def K84 := ca K58
def K85 := cb K58
def K86 := ca K84
def K87 := cb K84
def K88 := ca K87
def K89 := cb K87
def K90 := ca K88
def K91 := cb K88
def K92 := ca K85
def K93 := cb K85
def K94 := ca K93
def K95 := cb K93
def K96 := ca K95
def K97 := cb K95
def K98 := ca K97
def K99 := cb K97
def K100 := ca K39
def K101 := cb K39
def K102 := ca K27
def K103 := cb K27
end morainelaw23_TextsBack
set_option maxRecDepth 100000 in def morainelaw23_TextsBack.pt (s : ByteArray) (atv : Int) (H : Array Obj) (R : Value → Array Obj → Prop) : Prop :=
 obj_New.C 200 H (fun v H1 => ∃ ra : Option Addr, ∃ rb : Int, v = .tuple #[.pointer ra, .int .i64 rb] ∧ 
 torunesK 21 s H1 (fun sl d g H2 =>
 if (((rb != 0) || (decide ((s.size : Int) > 1000))) || (decide ((d : Int) > 62))) = true then (
 ∃ J : Bool → Array Obj → Prop, (
 if rb = 0 then (
 morainelaw23_awake.C  H2 (fun c0 H4 => ∃ x : Bool, c0 = .bool x ∧ 
 J x H4))
 else
 J false H2) ∧ ∀ (s4 : Bool) (H3 : Array Obj), J s4 H3 →
 R (.bool s4) H3)
 else
 obj_Heap_String.C ra s H2 (fun c2 H5 => ∃ e : Int, ∃ ah : Int, c2 = .tuple #[.int .u64 e, .int .i64 ah] ∧ 
 ∃ rs : List Int, (SrcAt H5 sl (rs.map (Value.int .i32)) ∧ (sl ≠ none → rs.length = d)) ∧
 ∀ (b : Nat) (H6 : Array Obj), b = H5.size → H6 = H5.push (.cells #[.int .u64 e] 35) →
 morainelaw23_does.C ra 26 (some (Addr.mk b 0 none)) 1 1 H6 (fun c6 H7 => ∃ aa : Int, ∃ al : Bool, c6 = .tuple #[.int .u64 aa, .bool al] ∧ 
 ∀ (bh : Nat) (H8 : Array Obj), bh = H7.size → H8 = H7.push (.cells #[.int .u64 aa] 35) →
 morainelaw23_does.C ra 27 (some (Addr.mk bh 0 none)) 1 1 H8 (fun c7 H9 => ∃ ar : Int, ∃ an : Bool, c7 = .tuple #[.int .u64 ar, .bool an] ∧ 
 if ah = 0 then (
 if al = true then (
 if an = true then (
 morainelaw23_text.C ra ar H9 (fun cu bw => ∃ a8 : ByteArray, cu = .string a8 ∧ 
 if a8.toList = (runesStr rs).toList then (
 ∀ (bg : Nat) (H11 : Array Obj), bg = bw.size → H11 = bw.push (.cells #[.int .u64 aa] 35) →
 morainelaw23_does.C ra 31 (some (Addr.mk bg 0 none)) 1 1 H11 (fun cv cn => ∃ z : Int, ∃ aj : Bool, cv = .tuple #[.int .u64 z, .bool aj] ∧ 
 ∀ (bi : Nat) (H13 : Array Obj), bi = cn.size → H13 = cn.push (.cells #[.int .u64 z] 35) →
 morainelaw23_does.C ra 30 (some (Addr.mk bi 0 none)) 1 1 H13 (fun cw bx => ∃ az : Int, ∃ ak : Bool, cw = .tuple #[.int .u64 az, .bool ak] ∧ 
 ∀ (bn : Nat) (H15 : Array Obj), bn = bx.size → H15 = bx.push (.cells #[.int .u64 az] 35) →
 morainelaw23_does.C ra 27 (some (Addr.mk bn 0 none)) 1 1 H15 (fun cy br => ∃ aq : Int, ∃ am : Bool, cy = .tuple #[.int .u64 aq, .bool am] ∧ 
 if aj = true then (
 if ak = true then (
 if am = true then (
 morainelaw23_text.C ra aq br (fun ci b7 => ∃ bb : ByteArray, ci = .string bb ∧ 
 if bb.toList = (runesStr rs).toList then (
 obj_Heap_Len.C ra z b7 (fun cj bu => ∃ ba : Int, cj = .int .i64 ba ∧ 
 if ba = (d : Int) then (
 ((IntKind.wrap .i64 ((d : Int) + 1)) ≠ 0) ∧
 ∀ (be : Nat) (H19 : Array Obj), be = bu.size → H19 = bu.push (.cells #[.int .u64 e, .int .u64 0, .int .u64 (ishl .u64 (IntKind.wrap .u64 (Int.tmod (iand .i64 atv 65535) (IntKind.wrap .i64 ((d : Int) + 1)))) 3)] 35) →
 morainelaw23_does.C ra 23 (some (Addr.mk be 0 none)) 3 3 H19 (fun cl cg => ∃ j : Int, ∃ n : Bool, cl = .tuple #[.int .u64 j, .bool n] ∧ 
 ∀ (bo : Nat) (H21 : Array Obj), bo = cg.size → H21 = cg.push (.cells #[.int .u64 e, .int .u64 (ishl .u64 (IntKind.wrap .u64 (Int.tmod (iand .i64 atv 65535) (IntKind.wrap .i64 ((d : Int) + 1)))) 3), .int .u64 (ishl .u64 (IntKind.wrap .u64 (d : Int)) 3)] 35) →
 morainelaw23_does.C ra 23 (some (Addr.mk bo 0 none)) 3 3 H21 (fun cm cq => ∃ a0 : Int, ∃ m : Bool, cm = .tuple #[.int .u64 a0, .bool m] ∧ 
 ∀ (bj : Nat) (H23 : Array Obj), bj = cq.size → H23 = cq.push (.cells #[.int .u64 j, .int .u64 a0] 35) →
 morainelaw23_does.C ra 24 (some (Addr.mk bj 0 none)) 2 2 H23 (fun bz bp => ∃ f : Int, ∃ l : Bool, bz = .tuple #[.int .u64 f, .bool l] ∧ 
 ∃ a2 : Bool → Array Obj → Prop, (
 if n = true then (
 if m = true then (
 if l = true then (
 morainelaw23_text.C ra f bp (fun cp bs => ∃ ax : ByteArray, cp = .string ax ∧ 
 if ax.toList = (runesStr rs).toList then (
 ∃ (lo hi : Nat), lo = 0 ∧ (Int.tmod (iand .i64 atv 65535) (IntKind.wrap .i64 ((d : Int) + 1))) = (hi : Int) ∧ lo ≤ hi ∧ hi ≤ g ∧
 ∀ a1 : Option Addr, a1 = (if g = lo then sl else Option.map (fun a : Addr => a.add (lo * 1)) sl) →
 onPtr a1 (
 morainelaw23_text.C ra j bs (fun cc c4 => ∃ au : ByteArray, cc = .string au ∧ 
 a2 (!(au.toList == (runesStr []).toList)) c4)) (fun bd =>
 ∃ ao : List Int, (RowAt bs bd 0 (ao.map (Value.int .i32)) ∧ ao.length = (hi - lo)) ∧
 morainelaw23_text.C ra j bs (fun cs ck => ∃ av : ByteArray, cs = .string av ∧ RowAt ck bd 0 (ao.map (Value.int .i32)) ∧ 
 a2 (!(av.toList == (runesStr ao).toList)) ck)))
 else
 a2 true bs))
 else
 a2 true bp)
 else
 a2 true bp)
 else
 a2 true bp) ∧ ∀ (ay : Bool) (H25 : Array Obj), a2 ay H25 →
 if ay = true then (
 R (.bool false) H25)
 else
 ∃ (bq : Int → Array Obj → Prop) (m63 : Int → Array Obj → Nat), bq 0 H25 ∧ ∀ (i : Int) (H26 : Array Obj), bq i H26 →
 if i < (d : Int) then (
 ∀ (bf : Nat) (H27 : Array Obj), bf = H26.size → H27 = H26.push (.cells #[.int .u64 e, .int .u64 (ishl .u64 (IntKind.wrap .u64 i) 3)] 35) →
 morainelaw23_does.C ra 18 (some (Addr.mk bf 0 none)) 2 2 H27 (fun b0 b5 => ∃ o : Int, ∃ ac : Bool, b0 = .tuple #[.int .u64 o, .bool ac] ∧ 
 ∀ (a6 : Nat) (H29 : Array Obj), a6 = b5.size → H29 = b5.push (.cells #[.int .u64 o] 35) →
 morainelaw23_does.C ra 3 (some (Addr.mk a6 0 none)) 1 1 H29 (fun cf b8 => ∃ p : Int, ∃ ad : Bool, cf = .tuple #[.int .u64 p, .bool ad] ∧ 
 ∀ (a4 : Nat) (H31 : Array Obj), a4 = b8.size → H31 = b8.push (.cells #[.int .u64 p] 35) →
 morainelaw23_does.C ra 4 (some (Addr.mk a4 0 none)) 1 1 H31 (fun cd a9 => ∃ u : Int, ∃ ae : Bool, cd = .tuple #[.int .u64 u, .bool ae] ∧ 
 if ac = true then (
 if ad = true then (
 if ae = true then (
 ∃ ap : Addr, sl = some ap ∧
 ((0 : Int) ≤ i ∧ i < (d : Int)) ∧
 ∃ aw : Int, hat a9 (ap.add (Int.toNat i * 1)) = some (.int .i32 aw) ∧
 if ((p != (ishl .u64 (IntKind.wrap .u64 aw) 3)) || (u != o)) = true then (
 R (.bool false) a9)
 else
 (bq (IntKind.wrap .i64 (i + 1)) a9 ∧ m63 (IntKind.wrap .i64 (i + 1)) a9 < m63 i H26))
 else
 R (.bool false) a9)
 else
 R (.bool false) a9)
 else
 R (.bool false) a9))))
 else
 if (d : Int) = 0 then (
 morainelaw23_awake.C  H26 (fun ce cx => ∃ bm : Bool, ce = .bool bm ∧ 
 R (.bool bm) cx))
 else
 ∀ (a7 : Nat) (H34 : Array Obj), a7 = H26.size → H34 = H26.push (.cells #[.int .u64 e] 35) →
 morainelaw23_does.C ra 28 (some (Addr.mk a7 0 none)) 1 1 H34 (fun b3 b1 => ∃ r : Int, ∃ af : Bool, b3 = .tuple #[.int .u64 r, .bool af] ∧ 
 ∀ (a5 : Nat) (H36 : Array Obj), a5 = b1.size → H36 = b1.push (.cells #[.int .u64 f] 35) →
 morainelaw23_does.C ra 28 (some (Addr.mk a5 0 none)) 1 1 H36 (fun co ch => ∃ ab : Int, ∃ ag : Bool, co = .tuple #[.int .u64 ab, .bool ag] ∧ 
 ∀ (a3 : Nat) (H38 : Array Obj), a3 = ch.size → H38 = ch.push (.cells #[.int .u64 r] 35) →
 morainelaw23_does.C ra 29 (some (Addr.mk a3 0 none)) 1 1 H38 (fun b9 bl => ∃ q : Int, ∃ ai : Bool, b9 = .tuple #[.int .u64 q, .bool ai] ∧ 
 if af = true then (
 if ag = true then (
 if ai = true then (
 if r = ab then (
 morainelaw23_text.C ra q bl (fun cr bt => ∃ bc : ByteArray, cr = .string bc ∧ 
 if bc.toList = (runesStr rs).toList then (
 if q = e then (
 R (.bool false) bt)
 else
 morainelaw23_awake.C  bt (fun ct cz => ∃ bk : Bool, ct = .bool bk ∧ 
 R (.bool bk) cz))
 else
 R (.bool false) bt))
 else
 R (.bool false) bl)
 else
 R (.bool false) bl)
 else
 R (.bool false) bl)
 else
 R (.bool false) bl)))))))
 else
 R (.bool false) bu))
 else
 R (.bool false) b7))
 else
 R (.bool false) br)
 else
 R (.bool false) br)
 else
 R (.bool false) br))))
 else
 R (.bool false) bw))
 else
 R (.bool false) H9)
 else
 R (.bool false) H9)
 else
 R (.bool false) H9)))))
namespace morainelaw23_TextsBack
set_option maxRecDepth 100000 in
theorem link {s : ByteArray} {atv : Int} {H : Array Obj} {R : Value → Array Obj → Prop} (h : pt s atv H R) : C s atv H R := by
 refine T_en K0 311 Tryz.func5 ?_
 intro w0 Q hQ
 unfold pt at h
 refine T_su [(0, .string s), (1, vi atv)] ?_
 refine T_sr 0 K1 K2 ?_
 refine T_ne 1 [(0, .string s), (1, vi atv)] ?_
 refine T_sr 1 K3 K4 ?_
 refine T_c (some 32) h ?_; clear h
 rintro v H1 ⟨ra, rb, rfl, h⟩
 refine ⟨[(0, .string s), (1, vi atv), (32, .tuple #[vp ra, vi rb])], pk, ?_⟩
 refine T_ne 5 [(0, .string s), (1, vi atv), (5, vp ra), (6, vi rb)] ?_
 refine T_sr 2 K5 K6 ?_
 refine T_n 1 [(0, .string s), (1, vi atv), (5, vp ra), (6, vi rb), (35, .string s)] ?_
 refine N_op (some 36) (convertN 9 65 (.string s)) _ (fun _=>by kernel_rfl) (ss_torunes Tryz.underlying9 Tryz.underlying65 Tryz.underlying21 h) ?_; clear h
 rintro _ H2 ⟨sl, d, g, rfl, h⟩
 refine ⟨[(0, .string s), (1, vi atv), (5, vp ra), (6, vi rb), (36, vs sl d g)], pk, ?_⟩
 refine T_ne 1 [(0, .string s), (1, vi atv), (5, vp ra), (6, vi rb), (7, vs sl d g)] ?_
 refine T_s K7 K8 ?_
 refine T_sr 3 K9 K10 ?_
 refine N_cut [(0, .string s), (1, vi atv), (5, vp ra), (6, vi rb), (7, vs sl d g), (48, .bool (((rb != 0) || (decide ((s.size : Int) > 1000))) || (decide ((d : Int) > 62))))] ?_ ?_
 ·refine S_then ?_
  by_cases c5 : (((rb != 0) || (decide ((s.size : Int) > 1000))) || (decide ((d : Int) > 62))) = true
  ·rw [if_pos c5] at h
   have b6 : (((rb != 0) || (decide ((s.size : Int) > 1000))) || (decide ((d : Int) > 62))) = true := c5
   refine T_cT 48 K11 K12 b6 ?_
   refine T_s K13 K14 ?_
   obtain ⟨J, h, j8⟩ := h
   refine S_join (σ := Bool) (fun s_ => [(4, .bool s_)]) (fun s_ H => J s_ H) ?_ ?_
   ·rintro s4 H3 j9
    replace h := j8 s4 H3 j9
    refine T_su [(4, .bool s4)] ?_
    refine S_then ?_
    exact T_ret [4] [.bool s4] hQ h
   refine T_r 4 K13 ?_
   refine T_n 3 [(51, .bool (rb == 0))] ?_
   by_cases c10 : rb = 0
   ·rw [if_pos c10] at h
    have b11 : (rb == 0) = true := beq_iff_eq.mpr c10
    refine N_env [(51, .bool true)] (by rw [b11]) ?_
    clear b11
    refine T_c (some 52) h ?_; clear h
    rintro c0 H4 ⟨x, rfl, h⟩
    refine ⟨[(51, .bool true), (52, .bool x)], pk, ?_⟩
    refine T_ne 2 [(4, .bool x)] ?_
    exact S_meet (x : Bool) sk h
   rw [if_neg c10] at h
   have b11 : (rb == 0) = false := beq_eq_false_iff_ne.mpr c10
   refine N_env [(51, .bool false)] (by rw [b11]) ?_
   clear b11
   refine T_ne 3 [(4, .bool false)] ?_
   exact S_meet (false : Bool) sk h
  rw [if_neg c5] at h
  have b6 : (((rb != 0) || (decide ((s.size : Int) > 1000))) || (decide ((d : Int) > 62))) = false := eq_false_of_ne_true c5
  refine T_cF 48 K11 K12 b6 ?_
  refine T_kt ?_
  refine T_sr 5 K15 K16 ?_
  refine T_n 2 [(1, vi atv), (5, vp ra), (7, vs sl d g), (55, vp ra), (56, .string s)] ?_
  refine T_c (some 57) h ?_; clear h
  rintro c2 H5 ⟨e, ah, rfl, h⟩
  refine ⟨[(1, vi atv), (5, vp ra), (7, vs sl d g), (57, .tuple #[vu e, vi ah])], pk, ?_⟩
  refine T_ne 5 [(1, vi atv), (5, vp ra), (7, vs sl d g), (8, vu e), (9, vi ah)] ?_
  refine T_sr 6 K17 K18 ?_
  refine T_n 1 [(1, vi atv), (5, vp ra), (7, vs sl d g), (8, vu e), (9, vi ah), (60, vs sl d g)] ?_
  obtain ⟨rs, q12, h⟩ := h
  refine T_v (some 61) (convertN 65 9 (vs sl d g)) (.string (runesStr rs)) (fun w hw => convert_runes Tryz.underlying65 Tryz.underlying9 Tryz.underlying21 (by rw [hw]; exact q12.1) q12.2) [(1, vi atv), (5, vp ra), (7, vs sl d g), (8, vu e), (9, vi ah), (61, .string (runesStr rs))] ?_
  refine T_ne 1 [(0, .string (runesStr rs)), (1, vi atv), (5, vp ra), (7, vs sl d g), (8, vu e), (9, vi ah)] ?_
  refine T_sr 7 K19 K20 ?_
  refine T_n 2 [(0, .string (runesStr rs)), (1, vi atv), (5, vp ra), (7, vs sl d g), (8, vu e), (9, vi ah), (63, vp ra), (64, vu e)] ?_
  refine T_nw (some 65) (fun b => vs (pa b) 1 1) (.cells #[vu e] 35) ?_
  intro b H6 e13 e14
  replace h := h b H6 e13 e14
  refine ⟨[(0, .string (runesStr rs)), (1, vi atv), (5, vp ra), (7, vs sl d g), (8, vu e), (9, vi ah), (63, vp ra), (65, vs (pa b) 1 1)], pk, ?_⟩
  refine T_c (some 66) h ?_; clear h
  rintro c6 H7 ⟨aa, al, rfl, h⟩
  refine ⟨[(0, .string (runesStr rs)), (1, vi atv), (5, vp ra), (7, vs sl d g), (8, vu e), (9, vi ah), (66, .tuple #[vu aa, .bool al])], pk, ?_⟩
  refine T_ne 5 [(0, .string (runesStr rs)), (1, vi atv), (5, vp ra), (7, vs sl d g), (8, vu e), (9, vi ah), (10, vu aa), (11, .bool al)] ?_
  refine T_sr 8 K21 K22 ?_
  refine T_n 2 [(0, .string (runesStr rs)), (1, vi atv), (5, vp ra), (7, vs sl d g), (8, vu e), (9, vi ah), (10, vu aa), (11, .bool al), (70, vp ra), (71, vu aa)] ?_
  refine T_nw (some 72) (fun b => vs (pa b) 1 1) (.cells #[vu aa] 35) ?_
  intro bh H8 e15 e16
  replace h := h bh H8 e15 e16
  refine ⟨[(0, .string (runesStr rs)), (1, vi atv), (5, vp ra), (7, vs sl d g), (8, vu e), (9, vi ah), (10, vu aa), (11, .bool al), (70, vp ra), (72, vs (pa bh) 1 1)], pk, ?_⟩
  refine T_c (some 73) h ?_; clear h
  rintro c7 H9 ⟨ar, an, rfl, h⟩
  refine ⟨[(0, .string (runesStr rs)), (1, vi atv), (5, vp ra), (7, vs sl d g), (8, vu e), (9, vi ah), (10, vu aa), (11, .bool al), (73, .tuple #[vu ar, .bool an])], pk, ?_⟩
  refine T_ne 5 [(0, .string (runesStr rs)), (1, vi atv), (5, vp ra), (7, vs sl d g), (8, vu e), (9, vi ah), (10, vu aa), (11, .bool al), (12, vu ar), (13, .bool an)] ?_
  refine T_s K23 K24 ?_
  refine T_sr 9 K25 K26 ?_
  refine T_n 3 [(0, .string (runesStr rs)), (1, vi atv), (5, vp ra), (7, vs sl d g), (8, vu e), (10, vu aa), (11, .bool al), (12, vu ar), (13, .bool an), (78, .bool (ah != 0))] ?_
  by_cases c17 : ah = 0
  ·rw [if_pos c17] at h
   have b18 : (ah != 0) = false := bne_eq_false_iff_eq.mpr c17
   refine N_env [(0, .string (runesStr rs)), (1, vi atv), (5, vp ra), (7, vs sl d g), (8, vu e), (10, vu aa), (11, .bool al), (12, vu ar), (13, .bool an), (78, .bool false)] (by rw [b18]) ?_
   clear b18
   refine T_n 4 [(0, .string (runesStr rs)), (1, vi atv), (5, vp ra), (7, vs sl d g), (8, vu e), (10, vu aa), (12, vu ar), (13, .bool an), (82, .bool (!al))] ?_
   by_cases c19 : al = true
   ·rw [if_pos c19] at h
    have b20 : (!al) = false := congrArg Bool.not (c19)
    have b202 : al = true := c19
    refine N_env [(0, .string (runesStr rs)), (1, vi atv), (5, vp ra), (7, vs sl d g), (8, vu e), (10, vu aa), (12, vu ar), (13, .bool an), (82, .bool false)] (by simp only [b20, b202, Bool.not_true, Bool.not_false]) ?_
    clear b20 b202
    refine T_n 4 [(0, .string (runesStr rs)), (1, vi atv), (5, vp ra), (7, vs sl d g), (8, vu e), (10, vu aa), (12, vu ar), (86, .bool (!an))] ?_
    by_cases c21 : an = true
    ·rw [if_pos c21] at h
     have b22 : (!an) = false := congrArg Bool.not (c21)
     have b222 : an = true := c21
     refine N_env [(0, .string (runesStr rs)), (1, vi atv), (5, vp ra), (7, vs sl d g), (8, vu e), (10, vu aa), (12, vu ar), (86, .bool false)] (by simp only [b22, b222, Bool.not_true, Bool.not_false]) ?_
     clear b22 b222
     refine T_n 2 [(0, .string (runesStr rs)), (1, vi atv), (5, vp ra), (7, vs sl d g), (8, vu e), (10, vu aa), (86, .bool false), (87, vp ra), (88, vu ar)] ?_
     refine T_c (some 89) h ?_; clear h
     rintro cu bw ⟨a8, rfl, h⟩
     refine ⟨[(0, .string (runesStr rs)), (1, vi atv), (5, vp ra), (7, vs sl d g), (8, vu e), (10, vu aa), (86, .bool false), (89, .string a8)], pk, ?_⟩
     refine T_ne 3 [(0, .string (runesStr rs)), (1, vi atv), (5, vp ra), (7, vs sl d g), (8, vu e), (10, vu aa), (92, .bool (!(a8.toList == (runesStr rs).toList)))] ?_
     by_cases c23 : a8.toList = (runesStr rs).toList
     ·rw [if_pos c23] at h
      have b24 : (!(a8.toList == (runesStr rs).toList)) = false := congrArg Bool.not (beq_iff_eq.mpr c23)
      refine T_cF 92 K27 K28 b24 ?_
      refine T_kt ?_
      refine T_sr 11 K29 K30 ?_
      refine T_n 2 [(0, .string (runesStr rs)), (1, vi atv), (5, vp ra), (7, vs sl d g), (8, vu e), (94, vp ra), (95, vu aa)] ?_
      refine T_nw (some 96) (fun b => vs (pa b) 1 1) (.cells #[vu aa] 35) ?_
      intro bg H11 e25 e26
      replace h := h bg H11 e25 e26
      refine ⟨[(0, .string (runesStr rs)), (1, vi atv), (5, vp ra), (7, vs sl d g), (8, vu e), (94, vp ra), (96, vs (pa bg) 1 1)], pk, ?_⟩
      refine T_c (some 97) h ?_; clear h
      rintro cv cn ⟨z, aj, rfl, h⟩
      refine ⟨[(0, .string (runesStr rs)), (1, vi atv), (5, vp ra), (7, vs sl d g), (8, vu e), (97, .tuple #[vu z, .bool aj])], pk, ?_⟩
      refine T_ne 5 [(0, .string (runesStr rs)), (1, vi atv), (5, vp ra), (7, vs sl d g), (8, vu e), (11, .bool aj), (14, vu z)] ?_
      refine T_sr 12 K31 K32 ?_
      refine T_n 2 [(0, .string (runesStr rs)), (1, vi atv), (5, vp ra), (7, vs sl d g), (8, vu e), (11, .bool aj), (14, vu z), (101, vp ra), (102, vu z)] ?_
      refine T_nw (some 103) (fun b => vs (pa b) 1 1) (.cells #[vu z] 35) ?_
      intro bi H13 e27 e28
      replace h := h bi H13 e27 e28
      refine ⟨[(0, .string (runesStr rs)), (1, vi atv), (5, vp ra), (7, vs sl d g), (8, vu e), (11, .bool aj), (14, vu z), (101, vp ra), (103, vs (pa bi) 1 1)], pk, ?_⟩
      refine T_c (some 104) h ?_; clear h
      rintro cw bx ⟨az, ak, rfl, h⟩
      refine ⟨[(0, .string (runesStr rs)), (1, vi atv), (5, vp ra), (7, vs sl d g), (8, vu e), (11, .bool aj), (14, vu z), (104, .tuple #[vu az, .bool ak])], pk, ?_⟩
      refine T_ne 5 [(0, .string (runesStr rs)), (1, vi atv), (5, vp ra), (7, vs sl d g), (8, vu e), (11, .bool aj), (13, .bool ak), (14, vu z), (15, vu az)] ?_
      refine T_sr 13 K33 K34 ?_
      refine T_n 2 [(0, .string (runesStr rs)), (1, vi atv), (5, vp ra), (7, vs sl d g), (8, vu e), (11, .bool aj), (13, .bool ak), (14, vu z), (108, vp ra), (109, vu az)] ?_
      refine T_nw (some 110) (fun b => vs (pa b) 1 1) (.cells #[vu az] 35) ?_
      intro bn H15 e29 e30
      replace h := h bn H15 e29 e30
      refine ⟨[(0, .string (runesStr rs)), (1, vi atv), (5, vp ra), (7, vs sl d g), (8, vu e), (11, .bool aj), (13, .bool ak), (14, vu z), (108, vp ra), (110, vs (pa bn) 1 1)], pk, ?_⟩
      refine T_c (some 111) h ?_; clear h
      rintro cy br ⟨aq, am, rfl, h⟩
      refine ⟨[(0, .string (runesStr rs)), (1, vi atv), (5, vp ra), (7, vs sl d g), (8, vu e), (11, .bool aj), (13, .bool ak), (14, vu z), (111, .tuple #[vu aq, .bool am])], pk, ?_⟩
      refine T_ne 5 [(0, .string (runesStr rs)), (1, vi atv), (5, vp ra), (7, vs sl d g), (8, vu e), (11, .bool aj), (13, .bool ak), (14, vu z), (16, vu aq), (17, .bool am)] ?_
      refine T_s K35 K36 ?_
      refine T_sr 14 K37 K38 ?_
      refine T_n 3 [(0, .string (runesStr rs)), (1, vi atv), (5, vp ra), (7, vs sl d g), (8, vu e), (13, .bool ak), (14, vu z), (16, vu aq), (17, .bool am), (116, .bool (!aj))] ?_
      by_cases c31 : aj = true
      ·rw [if_pos c31] at h
       have b32 : (!aj) = false := congrArg Bool.not (c31)
       have b322 : aj = true := c31
       refine N_env [(0, .string (runesStr rs)), (1, vi atv), (5, vp ra), (7, vs sl d g), (8, vu e), (13, .bool ak), (14, vu z), (16, vu aq), (17, .bool am), (116, .bool false)] (by simp only [b32, b322, Bool.not_true, Bool.not_false]) ?_
       clear b32 b322
       refine T_n 4 [(0, .string (runesStr rs)), (1, vi atv), (5, vp ra), (7, vs sl d g), (8, vu e), (14, vu z), (16, vu aq), (17, .bool am), (120, .bool (!ak))] ?_
       by_cases c33 : ak = true
       ·rw [if_pos c33] at h
        have b34 : (!ak) = false := congrArg Bool.not (c33)
        have b342 : ak = true := c33
        refine N_env [(0, .string (runesStr rs)), (1, vi atv), (5, vp ra), (7, vs sl d g), (8, vu e), (14, vu z), (16, vu aq), (17, .bool am), (120, .bool false)] (by simp only [b34, b342, Bool.not_true, Bool.not_false]) ?_
        clear b34 b342
        refine T_n 4 [(0, .string (runesStr rs)), (1, vi atv), (5, vp ra), (7, vs sl d g), (8, vu e), (14, vu z), (16, vu aq), (124, .bool (!am))] ?_
        by_cases c35 : am = true
        ·rw [if_pos c35] at h
         have b36 : (!am) = false := congrArg Bool.not (c35)
         have b362 : am = true := c35
         refine N_env [(0, .string (runesStr rs)), (1, vi atv), (5, vp ra), (7, vs sl d g), (8, vu e), (14, vu z), (16, vu aq), (124, .bool false)] (by simp only [b36, b362, Bool.not_true, Bool.not_false]) ?_
         clear b36 b362
         refine T_n 2 [(0, .string (runesStr rs)), (1, vi atv), (5, vp ra), (7, vs sl d g), (8, vu e), (14, vu z), (124, .bool false), (125, vp ra), (126, vu aq)] ?_
         refine T_c (some 127) h ?_; clear h
         rintro ci b7 ⟨bb, rfl, h⟩
         refine ⟨[(0, .string (runesStr rs)), (1, vi atv), (5, vp ra), (7, vs sl d g), (8, vu e), (14, vu z), (124, .bool false), (127, .string bb)], pk, ?_⟩
         refine T_n 4 [(0, .string (runesStr rs)), (1, vi atv), (5, vp ra), (7, vs sl d g), (8, vu e), (14, vu z), (131, .bool (!(bb.toList == (runesStr rs).toList)))] ?_
         by_cases c37 : bb.toList = (runesStr rs).toList
         ·rw [if_pos c37] at h
          have b38 : (!(bb.toList == (runesStr rs).toList)) = false := congrArg Bool.not (beq_iff_eq.mpr c37)
          refine N_env [(0, .string (runesStr rs)), (1, vi atv), (5, vp ra), (7, vs sl d g), (8, vu e), (14, vu z), (131, .bool false)] (by rw [b38]) ?_
          clear b38
          refine T_n 2 [(0, .string (runesStr rs)), (1, vi atv), (5, vp ra), (7, vs sl d g), (8, vu e), (131, .bool false), (132, vp ra), (133, vu z)] ?_
          refine T_c (some 134) h ?_; clear h
          rintro cj bu ⟨ba, rfl, h⟩
          refine ⟨[(0, .string (runesStr rs)), (1, vi atv), (5, vp ra), (7, vs sl d g), (8, vu e), (131, .bool false), (134, vi ba)], pk, ?_⟩
          refine T_ne 4 [(0, .string (runesStr rs)), (1, vi atv), (5, vp ra), (7, vs sl d g), (8, vu e), (138, .bool (ba != (d : Int)))] ?_
          by_cases c39 : ba = (d : Int)
          ·rw [if_pos c39] at h
           have b40 : (ba != (d : Int)) = false := bne_eq_false_iff_eq.mpr c39
           refine T_cF 138 K39 K40 b40 ?_
           refine T_kt ?_
           refine T_sr 16 K41 K42 ?_
           refine T_n 5 [(0, .string (runesStr rs)), (5, vp ra), (7, vs sl d g), (8, vu e), (140, vi (iand .i64 atv 65535)), (143, vi (IntKind.wrap .i64 ((d : Int) + 1)))] ?_
           obtain ⟨q41, h⟩ := h
           refine T_v (some 144) (binN .rem 3 (vi (iand .i64 atv 65535)) (vi (IntKind.wrap .i64 ((d : Int) + 1)))) (vi (Int.tmod (iand .i64 atv 65535) (IntKind.wrap .i64 ((d : Int) + 1)))) (fun w _ => rem_run (P := Tryz.prog) (t := 3) (k := .i64) (x := (iand .i64 atv 65535)) (y := (IntKind.wrap .i64 ((d : Int) + 1))) q41 w) [(0, .string (runesStr rs)), (5, vp ra), (7, vs sl d g), (8, vu e), (144, vi (Int.tmod (iand .i64 atv 65535) (IntKind.wrap .i64 ((d : Int) + 1))))] ?_
           refine T_ne 1 [(0, .string (runesStr rs)), (1, vi (Int.tmod (iand .i64 atv 65535) (IntKind.wrap .i64 ((d : Int) + 1)))), (5, vp ra), (7, vs sl d g), (8, vu e)] ?_
           refine T_sr 17 K43 K44 ?_
           refine T_n 5 [(0, .string (runesStr rs)), (1, vi (Int.tmod (iand .i64 atv 65535) (IntKind.wrap .i64 ((d : Int) + 1)))), (5, vp ra), (7, vs sl d g), (8, vu e), (146, vp ra), (147, vu e), (150, vu (ishl .u64 (IntKind.wrap .u64 (Int.tmod (iand .i64 atv 65535) (IntKind.wrap .i64 ((d : Int) + 1)))) 3))] ?_
           refine T_nw (some 151) (fun b => vs (pa b) 3 3) (.cells #[vu e, vu 0, vu (ishl .u64 (IntKind.wrap .u64 (Int.tmod (iand .i64 atv 65535) (IntKind.wrap .i64 ((d : Int) + 1)))) 3)] 35) ?_
           intro be H19 e42 e43
           replace h := h be H19 e42 e43
           refine ⟨[(0, .string (runesStr rs)), (1, vi (Int.tmod (iand .i64 atv 65535) (IntKind.wrap .i64 ((d : Int) + 1)))), (5, vp ra), (7, vs sl d g), (8, vu e), (146, vp ra), (151, vs (pa be) 3 3)], pk, ?_⟩
           refine T_c (some 152) h ?_; clear h
           rintro cl cg ⟨j, n, rfl, h⟩
           refine ⟨[(0, .string (runesStr rs)), (1, vi (Int.tmod (iand .i64 atv 65535) (IntKind.wrap .i64 ((d : Int) + 1)))), (5, vp ra), (7, vs sl d g), (8, vu e), (152, .tuple #[vu j, .bool n])], pk, ?_⟩
           refine T_ne 5 [(0, .string (runesStr rs)), (1, vi (Int.tmod (iand .i64 atv 65535) (IntKind.wrap .i64 ((d : Int) + 1)))), (5, vp ra), (7, vs sl d g), (8, vu e), (11, .bool n), (18, vu j)] ?_
           refine T_sr 18 K45 K46 ?_
           refine T_n 9 [(0, .string (runesStr rs)), (1, vi (Int.tmod (iand .i64 atv 65535) (IntKind.wrap .i64 ((d : Int) + 1)))), (5, vp ra), (7, vs sl d g), (8, vu e), (11, .bool n), (18, vu j), (156, vp ra), (157, vu e), (160, vu (ishl .u64 (IntKind.wrap .u64 (Int.tmod (iand .i64 atv 65535) (IntKind.wrap .i64 ((d : Int) + 1)))) 3)), (164, vu (ishl .u64 (IntKind.wrap .u64 (d : Int)) 3))] ?_
           refine T_nw (some 165) (fun b => vs (pa b) 3 3) (.cells #[vu e, vu (ishl .u64 (IntKind.wrap .u64 (Int.tmod (iand .i64 atv 65535) (IntKind.wrap .i64 ((d : Int) + 1)))) 3), vu (ishl .u64 (IntKind.wrap .u64 (d : Int)) 3)] 35) ?_
           intro bo H21 e44 e45
           replace h := h bo H21 e44 e45
           refine ⟨[(0, .string (runesStr rs)), (1, vi (Int.tmod (iand .i64 atv 65535) (IntKind.wrap .i64 ((d : Int) + 1)))), (5, vp ra), (7, vs sl d g), (8, vu e), (11, .bool n), (18, vu j), (156, vp ra), (165, vs (pa bo) 3 3)], pk, ?_⟩
           refine T_c (some 166) h ?_; clear h
           rintro cm cq ⟨a0, m, rfl, h⟩
           refine ⟨[(0, .string (runesStr rs)), (1, vi (Int.tmod (iand .i64 atv 65535) (IntKind.wrap .i64 ((d : Int) + 1)))), (5, vp ra), (7, vs sl d g), (8, vu e), (11, .bool n), (18, vu j), (166, .tuple #[vu a0, .bool m])], pk, ?_⟩
           refine T_ne 5 [(0, .string (runesStr rs)), (1, vi (Int.tmod (iand .i64 atv 65535) (IntKind.wrap .i64 ((d : Int) + 1)))), (5, vp ra), (7, vs sl d g), (8, vu e), (11, .bool n), (13, .bool m), (18, vu j), (19, vu a0)] ?_
           refine T_sr 19 K47 K48 ?_
           refine T_n 3 [(0, .string (runesStr rs)), (1, vi (Int.tmod (iand .i64 atv 65535) (IntKind.wrap .i64 ((d : Int) + 1)))), (5, vp ra), (7, vs sl d g), (8, vu e), (11, .bool n), (13, .bool m), (18, vu j), (170, vp ra), (171, vu j), (172, vu a0)] ?_
           refine T_nw (some 173) (fun b => vs (pa b) 2 2) (.cells #[vu j, vu a0] 35) ?_
           intro bj H23 e46 e47
           replace h := h bj H23 e46 e47
           refine ⟨[(0, .string (runesStr rs)), (1, vi (Int.tmod (iand .i64 atv 65535) (IntKind.wrap .i64 ((d : Int) + 1)))), (5, vp ra), (7, vs sl d g), (8, vu e), (11, .bool n), (13, .bool m), (18, vu j), (170, vp ra), (173, vs (pa bj) 2 2)], pk, ?_⟩
           refine T_c (some 174) h ?_; clear h
           rintro bz bp ⟨f, l, rfl, h⟩
           refine ⟨[(0, .string (runesStr rs)), (1, vi (Int.tmod (iand .i64 atv 65535) (IntKind.wrap .i64 ((d : Int) + 1)))), (5, vp ra), (7, vs sl d g), (8, vu e), (11, .bool n), (13, .bool m), (18, vu j), (174, .tuple #[vu f, .bool l])], pk, ?_⟩
           refine T_ne 5 [(0, .string (runesStr rs)), (1, vi (Int.tmod (iand .i64 atv 65535) (IntKind.wrap .i64 ((d : Int) + 1)))), (5, vp ra), (7, vs sl d g), (8, vu e), (11, .bool n), (13, .bool m), (17, .bool l), (18, vu j), (20, vu f)] ?_
           refine T_s K49 K50 ?_
           refine T_s K51 K52 ?_
           obtain ⟨a2, h, j49⟩ := h
           refine S_join (σ := Bool) (fun s_ => [(0, .string (runesStr rs)), (5, vp ra), (7, vs sl d g), (8, vu e), (20, vu f), (203, .bool s_)]) (fun s_ H => a2 s_ H) ?_ ?_
           ·rintro ay H25 j50
            replace h := j49 ay H25 j50
            refine T_su [(0, .string (runesStr rs)), (5, vp ra), (7, vs sl d g), (8, vu e), (20, vu f), (203, .bool ay)] ?_
            refine S_then ?_
            by_cases c51 : ay = true
            ·rw [if_pos c51] at h
             have b52 : ay = true := c51
             refine S_env [(0, .string (runesStr rs)), (5, vp ra), (7, vs sl d g), (8, vu e), (20, vu f), (203, .bool true)] (by rw [b52]) ?_
             clear b52
             refine T_t 203 K53 K54 ?_
             refine T_sr 21 K55 K56 ?_
             refine T_ne 1 [(4, .bool false)] ?_
             exact T_ret [4] [.bool false] hQ h
            rw [if_neg c51] at h
            have b52 : ay = false := eq_false_of_ne_true c51
            refine S_env [(0, .string (runesStr rs)), (5, vp ra), (7, vs sl d g), (8, vu e), (20, vu f), (203, .bool false)] (by rw [b52]) ?_
            clear b52
            refine T_f 203 K53 K54 ?_
            refine T_kt ?_
            refine T_s K57 K58 ?_
            refine T_sr 22 K59 K60 ?_
            refine T_ne 1 [(0, .string (runesStr rs)), (5, vp ra), (7, vs sl d g), (8, vu e), (20, vu f), (21, vi 0)] ?_
            refine T_b 0 K61 ?_
            obtain ⟨bq, m63, i53, i54⟩ := h
            refine S_loop (x := K62) (σ := Int) (fun s_ => [(0, .string (runesStr rs)), (5, vp ra), (7, vs sl d g), (8, vu e), (20, vu f), (21, vi s_)]) (fun s_ H => bq s_ H) (fun s_ H => m63 s_ H) (0 : Int) (by kernel_rfl) i53 sk ?_
            rintro i H26 i55
            have h := i54 i H26 i55
            refine T_su [(0, .string (runesStr rs)), (5, vp ra), (7, vs sl d g), (8, vu e), (20, vu f), (21, vi i)] ?_
            refine T_s K63 K64 ?_
            refine T_sr 23 K65 K66 ?_
            refine T_ne 4 [(0, .string (runesStr rs)), (5, vp ra), (7, vs sl d g), (8, vu e), (20, vu f), (21, vi i), (207, .bool (decide (i < (d : Int))))] ?_
            by_cases c56 : i < (d : Int)
            ·rw [if_pos c56] at h
             have b57 : (decide (i < (d : Int))) = true := decide_eq_true c56
             refine T_cT 207 K67 K68 b57 ?_
             refine T_kt ?_
             refine T_s K69 K70 ?_
             refine T_b 1 K71 ?_
             refine T_sr 25 K72 K73 ?_
             refine T_n 5 [(0, .string (runesStr rs)), (5, vp ra), (7, vs sl d g), (8, vu e), (20, vu f), (21, vi i), (211, vp ra), (212, vu e), (215, vu (ishl .u64 (IntKind.wrap .u64 i) 3))] ?_
             refine T_nw (some 216) (fun b => vs (pa b) 2 2) (.cells #[vu e, vu (ishl .u64 (IntKind.wrap .u64 i) 3)] 35) ?_
             intro bf H27 e58 e59
             replace h := h bf H27 e58 e59
             refine ⟨[(0, .string (runesStr rs)), (5, vp ra), (7, vs sl d g), (8, vu e), (20, vu f), (21, vi i), (211, vp ra), (216, vs (pa bf) 2 2)], pk, ?_⟩
             refine T_c (some 217) h ?_; clear h
             rintro b0 b5 ⟨o, ac, rfl, h⟩
             refine ⟨[(0, .string (runesStr rs)), (5, vp ra), (7, vs sl d g), (8, vu e), (20, vu f), (21, vi i), (217, .tuple #[vu o, .bool ac])], pk, ?_⟩
             refine T_ne 5 [(0, .string (runesStr rs)), (5, vp ra), (7, vs sl d g), (8, vu e), (20, vu f), (21, vi i), (22, vu o), (23, .bool ac)] ?_
             refine T_sr 26 K74 K75 ?_
             refine T_n 2 [(0, .string (runesStr rs)), (5, vp ra), (7, vs sl d g), (8, vu e), (20, vu f), (21, vi i), (22, vu o), (23, .bool ac), (221, vp ra), (222, vu o)] ?_
             refine T_nw (some 223) (fun b => vs (pa b) 1 1) (.cells #[vu o] 35) ?_
             intro a6 H29 e60 e61
             replace h := h a6 H29 e60 e61
             refine ⟨[(0, .string (runesStr rs)), (5, vp ra), (7, vs sl d g), (8, vu e), (20, vu f), (21, vi i), (22, vu o), (23, .bool ac), (221, vp ra), (223, vs (pa a6) 1 1)], pk, ?_⟩
             refine T_c (some 224) h ?_; clear h
             rintro cf b8 ⟨p, ad, rfl, h⟩
             refine ⟨[(0, .string (runesStr rs)), (5, vp ra), (7, vs sl d g), (8, vu e), (20, vu f), (21, vi i), (22, vu o), (23, .bool ac), (224, .tuple #[vu p, .bool ad])], pk, ?_⟩
             refine T_ne 5 [(0, .string (runesStr rs)), (5, vp ra), (7, vs sl d g), (8, vu e), (20, vu f), (21, vi i), (22, vu o), (23, .bool ac), (24, vu p), (25, .bool ad)] ?_
             refine T_sr 27 K76 K77 ?_
             refine T_n 2 [(0, .string (runesStr rs)), (5, vp ra), (7, vs sl d g), (8, vu e), (20, vu f), (21, vi i), (22, vu o), (23, .bool ac), (24, vu p), (25, .bool ad), (228, vp ra), (229, vu p)] ?_
             refine T_nw (some 230) (fun b => vs (pa b) 1 1) (.cells #[vu p] 35) ?_
             intro a4 H31 e62 e63
             replace h := h a4 H31 e62 e63
             refine ⟨[(0, .string (runesStr rs)), (5, vp ra), (7, vs sl d g), (8, vu e), (20, vu f), (21, vi i), (22, vu o), (23, .bool ac), (24, vu p), (25, .bool ad), (228, vp ra), (230, vs (pa a4) 1 1)], pk, ?_⟩
             refine T_c (some 231) h ?_; clear h
             rintro cd a9 ⟨u, ae, rfl, h⟩
             refine ⟨[(0, .string (runesStr rs)), (5, vp ra), (7, vs sl d g), (8, vu e), (20, vu f), (21, vi i), (22, vu o), (23, .bool ac), (24, vu p), (25, .bool ad), (231, .tuple #[vu u, .bool ae])], pk, ?_⟩
             refine T_ne 5 [(0, .string (runesStr rs)), (5, vp ra), (7, vs sl d g), (8, vu e), (20, vu f), (21, vi i), (22, vu o), (23, .bool ac), (24, vu p), (25, .bool ad), (26, vu u), (27, .bool ae)] ?_
             refine T_sr 28 K78 K79 ?_
             refine T_n 3 [(0, .string (runesStr rs)), (5, vp ra), (7, vs sl d g), (8, vu e), (20, vu f), (21, vi i), (22, vu o), (24, vu p), (25, .bool ad), (26, vu u), (27, .bool ae), (236, .bool (!ac))] ?_
             by_cases c64 : ac = true
             ·rw [if_pos c64] at h
              have b65 : (!ac) = false := congrArg Bool.not (c64)
              have b652 : ac = true := c64
              refine N_env [(0, .string (runesStr rs)), (5, vp ra), (7, vs sl d g), (8, vu e), (20, vu f), (21, vi i), (22, vu o), (24, vu p), (25, .bool ad), (26, vu u), (27, .bool ae), (236, .bool false)] (by simp only [b65, b652, Bool.not_true, Bool.not_false]) ?_
              clear b65 b652
              refine T_n 4 [(0, .string (runesStr rs)), (5, vp ra), (7, vs sl d g), (8, vu e), (20, vu f), (21, vi i), (22, vu o), (24, vu p), (26, vu u), (27, .bool ae), (240, .bool (!ad))] ?_
              by_cases c66 : ad = true
              ·rw [if_pos c66] at h
               have b67 : (!ad) = false := congrArg Bool.not (c66)
               have b672 : ad = true := c66
               refine N_env [(0, .string (runesStr rs)), (5, vp ra), (7, vs sl d g), (8, vu e), (20, vu f), (21, vi i), (22, vu o), (24, vu p), (26, vu u), (27, .bool ae), (240, .bool false)] (by simp only [b67, b672, Bool.not_true, Bool.not_false]) ?_
               clear b67 b672
               refine T_n 4 [(0, .string (runesStr rs)), (5, vp ra), (7, vs sl d g), (8, vu e), (20, vu f), (21, vi i), (22, vu o), (24, vu p), (26, vu u), (244, .bool (!ae))] ?_
               by_cases c68 : ae = true
               ·rw [if_pos c68] at h
                have b69 : (!ae) = false := congrArg Bool.not (c68)
                have b692 : ae = true := c68
                refine N_env [(0, .string (runesStr rs)), (5, vp ra), (7, vs sl d g), (8, vu e), (20, vu f), (21, vi i), (22, vu o), (24, vu p), (26, vu u), (244, .bool false)] (by simp only [b69, b692, Bool.not_true, Bool.not_false]) ?_
                clear b69 b692
                refine T_n 3 [(0, .string (runesStr rs)), (5, vp ra), (7, vs sl d g), (8, vu e), (20, vu f), (21, vi i), (22, vu o), (26, vu u), (244, .bool false), (245, vu p), (246, vs sl d g), (247, vi i)] ?_
                obtain ⟨ap, rfl, h⟩ := h
                obtain ⟨q70, h⟩ := h
                refine T_ix (some 248) 65 21 1 ap d g .i64 i Tryz.underlying65 q70.1 q70.2 [(0, .string (runesStr rs)), (5, vp ra), (7, vs (some ap) d g), (8, vu e), (20, vu f), (21, vi i), (22, vu o), (26, vu u), (244, .bool false), (245, vu p), (248, vp (some (ap.add (Int.toNat i * 1))))] ?_
                obtain ⟨aw, q71, h⟩ := h
                refine T_l (some 249) 21 q71 [(0, .string (runesStr rs)), (5, vp ra), (7, vs (some ap) d g), (8, vu e), (20, vu f), (21, vi i), (22, vu o), (26, vu u), (244, .bool false), (245, vu p), (249, .int .i32 aw)] ?_
                refine T_n 5 [(0, .string (runesStr rs)), (5, vp ra), (7, vs (some ap) d g), (8, vu e), (20, vu f), (21, vi i), (22, vu o), (26, vu u), (254, .bool (p != (ishl .u64 (IntKind.wrap .u64 aw) 3)))] ?_
                refine N_cut [(0, .string (runesStr rs)), (5, vp ra), (7, vs (some ap) d g), (8, vu e), (20, vu f), (21, vi i), (258, .bool ((p != (ishl .u64 (IntKind.wrap .u64 aw) 3)) || (u != o)))] ?_ ?_
                ·refine S_then ?_
                 by_cases c74 : ((p != (ishl .u64 (IntKind.wrap .u64 aw) 3)) || (u != o)) = true
                 ·rw [if_pos c74] at h
                  have b75 : ((p != (ishl .u64 (IntKind.wrap .u64 aw) 3)) || (u != o)) = true := c74
                  refine T_cT 258 K80 K81 b75 ?_
                  refine T_sr 29 K82 K83 ?_
                  refine T_ne 1 [(4, .bool false)] ?_
                  exact T_ret [4] [.bool false] hQ h
                 rw [if_neg c74] at h
                 have b75 : ((p != (ishl .u64 (IntKind.wrap .u64 aw) 3)) || (u != o)) = false := eq_false_of_ne_true c74
                 refine T_cF 258 K80 K81 b75 ?_
                 refine T_k ?_
                 refine S_blockEnd ?_
                 refine S_then ?_
                 refine T_r 24 K70 ?_
                 refine T_ne 3 [(0, .string (runesStr rs)), (5, vp ra), (7, vs (some ap) d g), (8, vu e), (20, vu f), (21, vi (IntKind.wrap .i64 (i + 1)))] ?_
                 exact S_round ((IntKind.wrap .i64 (i + 1)) : Int) sk h
                intro hk
                refine T_nu [(0, .string (runesStr rs)), (5, vp ra), (7, vs (some ap) d g), (8, vu e), (20, vu f), (21, vi i), (22, vu o), (26, vu u), (254, .bool (p != (ishl .u64 (IntKind.wrap .u64 aw) 3)))] ?_
                by_cases c72 : p = (ishl .u64 (IntKind.wrap .u64 aw) 3)
                ·have b73 : (p != (ishl .u64 (IntKind.wrap .u64 aw) 3)) = false := bne_eq_false_iff_eq.mpr c72
                 refine N_env [(0, .string (runesStr rs)), (5, vp ra), (7, vs (some ap) d g), (8, vu e), (20, vu f), (21, vi i), (22, vu o), (26, vu u), (254, .bool false)] (by rw [b73]) ?_
                 refine T_n 4 [(0, .string (runesStr rs)), (5, vp ra), (7, vs (some ap) d g), (8, vu e), (20, vu f), (21, vi i), (258, .bool (u != o))] ?_
                 refine N_end (by kernel_rfl) ?_
                 refine S_env [(0, .string (runesStr rs)), (5, vp ra), (7, vs (some ap) d g), (8, vu e), (20, vu f), (21, vi i), (258, .bool ((p != (ishl .u64 (IntKind.wrap .u64 aw) 3)) || (u != o)))] (by simp only [b73, BL]) ?_
                 exact hk
                have b73 : (p != (ishl .u64 (IntKind.wrap .u64 aw) 3)) = true := bne_iff_ne.mpr c72
                refine N_env [(0, .string (runesStr rs)), (5, vp ra), (7, vs (some ap) d g), (8, vu e), (20, vu f), (21, vi i), (22, vu o), (26, vu u), (254, .bool true)] (by rw [b73]) ?_
                refine T_n 4 [(0, .string (runesStr rs)), (5, vp ra), (7, vs (some ap) d g), (8, vu e), (20, vu f), (21, vi i), (258, .bool true)] ?_
                refine N_end (by kernel_rfl) ?_
                refine S_env [(0, .string (runesStr rs)), (5, vp ra), (7, vs (some ap) d g), (8, vu e), (20, vu f), (21, vi i), (258, .bool ((p != (ishl .u64 (IntKind.wrap .u64 aw) 3)) || (u != o)))] (by simp only [b73, BL]) ?_
                exact hk
               rw [if_neg c68] at h
               have b69 : (!ae) = true := congrArg Bool.not (eq_false_of_ne_true c68)
               have b692 : ae = false := eq_false_of_ne_true c68
               refine N_env [(0, .string (runesStr rs)), (5, vp ra), (7, vs sl d g), (8, vu e), (20, vu f), (21, vi i), (22, vu o), (24, vu p), (26, vu u), (244, .bool true)] (by simp only [b69, b692, Bool.not_true, Bool.not_false]) ?_
               clear b69 b692
               refine T_ne 14 [(0, .string (runesStr rs)), (5, vp ra), (7, vs sl d g), (8, vu e), (20, vu f), (21, vi i), (258, .bool true)] ?_
               refine T_t 258 K80 K81 ?_
               refine T_sr 29 K82 K83 ?_
               refine T_ne 1 [(4, .bool false)] ?_
               exact T_ret [4] [.bool false] hQ h
              rw [if_neg c66] at h
              have b67 : (!ad) = true := congrArg Bool.not (eq_false_of_ne_true c66)
              have b672 : ad = false := eq_false_of_ne_true c66
              refine N_env [(0, .string (runesStr rs)), (5, vp ra), (7, vs sl d g), (8, vu e), (20, vu f), (21, vi i), (22, vu o), (24, vu p), (26, vu u), (27, .bool ae), (240, .bool true)] (by simp only [b67, b672, Bool.not_true, Bool.not_false]) ?_
              clear b67 b672
              refine T_ne 18 [(0, .string (runesStr rs)), (5, vp ra), (7, vs sl d g), (8, vu e), (20, vu f), (21, vi i), (258, .bool true)] ?_
              refine T_t 258 K80 K81 ?_
              refine T_sr 29 K82 K83 ?_
              refine T_ne 1 [(4, .bool false)] ?_
              exact T_ret [4] [.bool false] hQ h
             rw [if_neg c64] at h
             have b65 : (!ac) = true := congrArg Bool.not (eq_false_of_ne_true c64)
             have b652 : ac = false := eq_false_of_ne_true c64
             refine N_env [(0, .string (runesStr rs)), (5, vp ra), (7, vs sl d g), (8, vu e), (20, vu f), (21, vi i), (22, vu o), (24, vu p), (25, .bool ad), (26, vu u), (27, .bool ae), (236, .bool true)] (by simp only [b65, b652, Bool.not_true, Bool.not_false]) ?_
             clear b65 b652
             refine T_ne 22 [(0, .string (runesStr rs)), (5, vp ra), (7, vs sl d g), (8, vu e), (20, vu f), (21, vi i), (258, .bool true)] ?_
             refine T_t 258 K80 K81 ?_
             refine T_sr 29 K82 K83 ?_
             refine T_ne 1 [(4, .bool false)] ?_
             exact T_ret [4] [.bool false] hQ h
            rw [if_neg c56] at h
            have b57 : (decide (i < (d : Int))) = false := decide_eq_false c56
            refine T_cF 207 K67 K68 b57 ?_
            refine S_exit 0 (by kernel_rfl) ?_
            refine S_exitThen ?_
            refine S_exitThen ?_
            refine S_exitHere ?_
            refine S_then ?_
            refine T_s K84 K85 ?_
            refine T_sr 30 K86 K87 ?_
            refine T_ne 3 [(0, .string (runesStr rs)), (5, vp ra), (8, vu e), (20, vu f), (261, .bool ((d : Int) == 0))] ?_
            by_cases c76 : (d : Int) = 0
            ·rw [if_pos c76] at h
             have b77 : ((d : Int) == 0) = true := beq_iff_eq.mpr c76
             refine T_cT 261 K88 K89 b77 ?_
             refine T_sr 31 K90 K91 ?_
             refine T_nu [] ?_
             refine T_c (some 262) h ?_; clear h
             rintro ce cx ⟨bm, rfl, h⟩
             refine ⟨[(262, .bool bm)], pk, ?_⟩
             refine T_ne 1 [(4, .bool bm)] ?_
             exact T_ret [4] [.bool bm] hQ h
            rw [if_neg c76] at h
            have b77 : ((d : Int) == 0) = false := beq_eq_false_iff_ne.mpr c76
            refine T_cF 261 K88 K89 b77 ?_
            refine T_kt ?_
            refine T_sr 32 K92 K93 ?_
            refine T_n 2 [(0, .string (runesStr rs)), (5, vp ra), (8, vu e), (20, vu f), (264, vp ra), (265, vu e)] ?_
            refine T_nw (some 266) (fun b => vs (pa b) 1 1) (.cells #[vu e] 35) ?_
            intro a7 H34 e78 e79
            replace h := h a7 H34 e78 e79
            refine ⟨[(0, .string (runesStr rs)), (5, vp ra), (8, vu e), (20, vu f), (264, vp ra), (266, vs (pa a7) 1 1)], pk, ?_⟩
            refine T_c (some 267) h ?_; clear h
            rintro b3 b1 ⟨r, af, rfl, h⟩
            refine ⟨[(0, .string (runesStr rs)), (5, vp ra), (8, vu e), (20, vu f), (267, .tuple #[vu r, .bool af])], pk, ?_⟩
            refine T_ne 5 [(0, .string (runesStr rs)), (5, vp ra), (8, vu e), (11, .bool af), (20, vu f), (28, vu r)] ?_
            refine T_sr 33 K94 K95 ?_
            refine T_n 2 [(0, .string (runesStr rs)), (5, vp ra), (8, vu e), (11, .bool af), (28, vu r), (271, vp ra), (272, vu f)] ?_
            refine T_nw (some 273) (fun b => vs (pa b) 1 1) (.cells #[vu f] 35) ?_
            intro a5 H36 e80 e81
            replace h := h a5 H36 e80 e81
            refine ⟨[(0, .string (runesStr rs)), (5, vp ra), (8, vu e), (11, .bool af), (28, vu r), (271, vp ra), (273, vs (pa a5) 1 1)], pk, ?_⟩
            refine T_c (some 274) h ?_; clear h
            rintro co ch ⟨ab, ag, rfl, h⟩
            refine ⟨[(0, .string (runesStr rs)), (5, vp ra), (8, vu e), (11, .bool af), (28, vu r), (274, .tuple #[vu ab, .bool ag])], pk, ?_⟩
            refine T_ne 5 [(0, .string (runesStr rs)), (5, vp ra), (8, vu e), (11, .bool af), (13, .bool ag), (28, vu r), (29, vu ab)] ?_
            refine T_sr 34 K96 K97 ?_
            refine T_n 2 [(0, .string (runesStr rs)), (5, vp ra), (8, vu e), (11, .bool af), (13, .bool ag), (28, vu r), (29, vu ab), (278, vp ra), (279, vu r)] ?_
            refine T_nw (some 280) (fun b => vs (pa b) 1 1) (.cells #[vu r] 35) ?_
            intro a3 H38 e82 e83
            replace h := h a3 H38 e82 e83
            refine ⟨[(0, .string (runesStr rs)), (5, vp ra), (8, vu e), (11, .bool af), (13, .bool ag), (28, vu r), (29, vu ab), (278, vp ra), (280, vs (pa a3) 1 1)], pk, ?_⟩
            refine T_c (some 281) h ?_; clear h
            rintro b9 bl ⟨q, ai, rfl, h⟩
            refine ⟨[(0, .string (runesStr rs)), (5, vp ra), (8, vu e), (11, .bool af), (13, .bool ag), (28, vu r), (29, vu ab), (281, .tuple #[vu q, .bool ai])], pk, ?_⟩
            refine T_ne 5 [(0, .string (runesStr rs)), (5, vp ra), (8, vu e), (11, .bool af), (13, .bool ag), (17, .bool ai), (28, vu r), (29, vu ab), (30, vu q)] ?_
            refine T_sr 35 K98 K99 ?_
            refine T_n 2 [(0, .string (runesStr rs)), (5, vp ra), (8, vu e), (13, .bool ag), (17, .bool ai), (28, vu r), (29, vu ab), (30, vu q), (285, .bool af)] ?_
            by_cases c84 : af = true
            ·rw [if_pos c84] at h
             have b85 : af = true := c84
             refine N_env [(0, .string (runesStr rs)), (5, vp ra), (8, vu e), (13, .bool ag), (17, .bool ai), (28, vu r), (29, vu ab), (30, vu q), (285, .bool true)] (by rw [b85]) ?_
             clear b85
             refine T_n 3 [(0, .string (runesStr rs)), (5, vp ra), (8, vu e), (17, .bool ai), (28, vu r), (29, vu ab), (30, vu q), (288, .bool ag)] ?_
             by_cases c86 : ag = true
             ·rw [if_pos c86] at h
              have b87 : ag = true := c86
              refine N_env [(0, .string (runesStr rs)), (5, vp ra), (8, vu e), (17, .bool ai), (28, vu r), (29, vu ab), (30, vu q), (288, .bool true)] (by rw [b87]) ?_
              clear b87
              refine T_n 3 [(0, .string (runesStr rs)), (5, vp ra), (8, vu e), (28, vu r), (29, vu ab), (30, vu q), (291, .bool ai)] ?_
              by_cases c88 : ai = true
              ·rw [if_pos c88] at h
               have b89 : ai = true := c88
               refine N_env [(0, .string (runesStr rs)), (5, vp ra), (8, vu e), (28, vu r), (29, vu ab), (30, vu q), (291, .bool true)] (by rw [b89]) ?_
               clear b89
               refine T_n 5 [(0, .string (runesStr rs)), (5, vp ra), (8, vu e), (30, vu q), (296, .bool (r == ab))] ?_
               by_cases c90 : r = ab
               ·rw [if_pos c90] at h
                have b91 : (r == ab) = true := beq_iff_eq.mpr c90
                refine N_env [(0, .string (runesStr rs)), (5, vp ra), (8, vu e), (30, vu q), (296, .bool true)] (by rw [b91]) ?_
                clear b91
                refine T_n 2 [(0, .string (runesStr rs)), (8, vu e), (30, vu q), (296, .bool true), (297, vp ra), (298, vu q)] ?_
                refine T_c (some 299) h ?_; clear h
                rintro cr bt ⟨bc, rfl, h⟩
                refine ⟨[(0, .string (runesStr rs)), (8, vu e), (30, vu q), (296, .bool true), (299, .string bc)], pk, ?_⟩
                refine T_n 4 [(8, vu e), (30, vu q), (303, .bool (bc.toList == (runesStr rs).toList))] ?_
                by_cases c92 : bc.toList = (runesStr rs).toList
                ·rw [if_pos c92] at h
                 have b93 : (bc.toList == (runesStr rs).toList) = true := beq_iff_eq.mpr c92
                 refine N_env [(8, vu e), (30, vu q), (303, .bool true)] (by rw [b93]) ?_
                 clear b93
                 refine T_n 5 [(308, .bool (q != e))] ?_
                 by_cases c94 : q = e
                 ·rw [if_pos c94] at h
                  have b95 : (q != e) = false := bne_eq_false_iff_eq.mpr c94
                  refine N_env [(308, .bool false)] (by rw [b95]) ?_
                  clear b95
                  refine T_ne 3 [(4, .bool false)] ?_
                  exact T_ret [4] [.bool false] hQ h
                 rw [if_neg c94] at h
                 have b95 : (q != e) = true := bne_iff_ne.mpr c94
                 refine N_env [(308, .bool true)] (by rw [b95]) ?_
                 clear b95
                 refine T_c (some 309) h ?_; clear h
                 rintro ct cz ⟨bk, rfl, h⟩
                 refine ⟨[(308, .bool true), (309, .bool bk)], pk, ?_⟩
                 refine T_ne 2 [(4, .bool bk)] ?_
                 exact T_ret [4] [.bool bk] hQ h
                rw [if_neg c92] at h
                have b93 : (bc.toList == (runesStr rs).toList) = false := beq_eq_false_iff_ne.mpr c92
                refine N_env [(8, vu e), (30, vu q), (303, .bool false)] (by rw [b93]) ?_
                clear b93
                refine T_ne 8 [(4, .bool false)] ?_
                exact T_ret [4] [.bool false] hQ h
               rw [if_neg c90] at h
               have b91 : (r == ab) = false := beq_eq_false_iff_ne.mpr c90
               refine N_env [(0, .string (runesStr rs)), (5, vp ra), (8, vu e), (30, vu q), (296, .bool false)] (by rw [b91]) ?_
               clear b91
               refine T_ne 15 [(4, .bool false)] ?_
               exact T_ret [4] [.bool false] hQ h
              rw [if_neg c88] at h
              have b89 : ai = false := eq_false_of_ne_true c88
              refine N_env [(0, .string (runesStr rs)), (5, vp ra), (8, vu e), (28, vu r), (29, vu ab), (30, vu q), (291, .bool false)] (by rw [b89]) ?_
              clear b89
              refine T_ne 20 [(4, .bool false)] ?_
              exact T_ret [4] [.bool false] hQ h
             rw [if_neg c86] at h
             have b87 : ag = false := eq_false_of_ne_true c86
             refine N_env [(0, .string (runesStr rs)), (5, vp ra), (8, vu e), (17, .bool ai), (28, vu r), (29, vu ab), (30, vu q), (288, .bool false)] (by rw [b87]) ?_
             clear b87
             refine T_ne 23 [(4, .bool false)] ?_
             exact T_ret [4] [.bool false] hQ h
            rw [if_neg c84] at h
            have b85 : af = false := eq_false_of_ne_true c84
            refine N_env [(0, .string (runesStr rs)), (5, vp ra), (8, vu e), (13, .bool ag), (17, .bool ai), (28, vu r), (29, vu ab), (30, vu q), (285, .bool false)] (by rw [b85]) ?_
            clear b85
            refine T_ne 26 [(4, .bool false)] ?_
            exact T_ret [4] [.bool false] hQ h
           by_cases c96 : n = true
           ·rw [if_pos c96] at h
            have b97 : (!n) = false := congrArg Bool.not (c96)
            by_cases c98 : m = true
            ·rw [if_pos c98] at h
             have b99 : (!m) = false := congrArg Bool.not (c98)
             by_cases c100 : l = true
             ·rw [if_pos c100] at h
              have b101 : (!l) = false := congrArg Bool.not (c100)
              refine S_regionG 20 (Code.ops K51) [] 27 (bv 27 0) (by kernel_rfl) (by kernel_rfl) (by kernel_rfl) (by kernel_rfl) (by kernel_rfl) (show FactsAt _ _ _ from trivial) ?_
              refine T_gp 0 (some 177) (.bool n) (bv 27 1) [(0, .string (runesStr rs)), (1, vi (Int.tmod (iand .i64 atv 65535) (IntKind.wrap .i64 ((d : Int) + 1)))), (5, vp ra), (7, vs sl d g), (8, vu e), (13, .bool m), (17, .bool l), (18, vu j), (20, vu f), (177, .bool n)] ?_
              refine T_gp 1 (some 178) (.bool (!n)) (bv 27 3) [(0, .string (runesStr rs)), (1, vi (Int.tmod (iand .i64 atv 65535) (IntKind.wrap .i64 ((d : Int) + 1)))), (5, vp ra), (7, vs sl d g), (8, vu e), (13, .bool m), (17, .bool l), (18, vu j), (20, vu f), (178, .bool (!n))] ?_
              refine T_gp 2 (some 179) (.bool (!n)) (bv 27 7) [(0, .string (runesStr rs)), (1, vi (Int.tmod (iand .i64 atv 65535) (IntKind.wrap .i64 ((d : Int) + 1)))), (5, vp ra), (7, vs sl d g), (8, vu e), (13, .bool m), (17, .bool l), (18, vu j), (20, vu f), (179, .bool (!n))] ?_
              refine G_env [(0, .string (runesStr rs)), (1, vi (Int.tmod (iand .i64 atv 65535) (IntKind.wrap .i64 ((d : Int) + 1)))), (5, vp ra), (7, vs sl d g), (8, vu e), (13, .bool m), (17, .bool l), (18, vu j), (20, vu f), (179, .bool false)] (by rw [b97]) ?_
              refine T_gp 3 (some 180) (.bool m) (bv 27 15) [(0, .string (runesStr rs)), (1, vi (Int.tmod (iand .i64 atv 65535) (IntKind.wrap .i64 ((d : Int) + 1)))), (5, vp ra), (7, vs sl d g), (8, vu e), (17, .bool l), (18, vu j), (20, vu f), (179, .bool false), (180, .bool m)] ?_
              refine T_gp 4 (some 181) (.bool (!m)) (bv 27 31) [(0, .string (runesStr rs)), (1, vi (Int.tmod (iand .i64 atv 65535) (IntKind.wrap .i64 ((d : Int) + 1)))), (5, vp ra), (7, vs sl d g), (8, vu e), (17, .bool l), (18, vu j), (20, vu f), (179, .bool false), (181, .bool (!m))] ?_
              refine T_gp 5 (some 182) (.bool (!m)) (bv 27 63) [(0, .string (runesStr rs)), (1, vi (Int.tmod (iand .i64 atv 65535) (IntKind.wrap .i64 ((d : Int) + 1)))), (5, vp ra), (7, vs sl d g), (8, vu e), (17, .bool l), (18, vu j), (20, vu f), (182, .bool (!m))] ?_
              refine T_gp 6 (some 183) (.bool (!m)) (bv 27 127) [(0, .string (runesStr rs)), (1, vi (Int.tmod (iand .i64 atv 65535) (IntKind.wrap .i64 ((d : Int) + 1)))), (5, vp ra), (7, vs sl d g), (8, vu e), (17, .bool l), (18, vu j), (20, vu f), (183, .bool (!m))] ?_
              refine G_env [(0, .string (runesStr rs)), (1, vi (Int.tmod (iand .i64 atv 65535) (IntKind.wrap .i64 ((d : Int) + 1)))), (5, vp ra), (7, vs sl d g), (8, vu e), (17, .bool l), (18, vu j), (20, vu f), (183, .bool false)] (by rw [b99]) ?_
              refine T_gp 7 (some 184) (.bool l) (bv 27 255) [(0, .string (runesStr rs)), (1, vi (Int.tmod (iand .i64 atv 65535) (IntKind.wrap .i64 ((d : Int) + 1)))), (5, vp ra), (7, vs sl d g), (8, vu e), (18, vu j), (20, vu f), (183, .bool false), (184, .bool l)] ?_
              refine T_gp 8 (some 185) (.bool (!l)) (bv 27 511) [(0, .string (runesStr rs)), (1, vi (Int.tmod (iand .i64 atv 65535) (IntKind.wrap .i64 ((d : Int) + 1)))), (5, vp ra), (7, vs sl d g), (8, vu e), (18, vu j), (20, vu f), (183, .bool false), (185, .bool (!l))] ?_
              refine T_gp 9 (some 186) (.bool (!l)) (bv 27 1023) [(0, .string (runesStr rs)), (1, vi (Int.tmod (iand .i64 atv 65535) (IntKind.wrap .i64 ((d : Int) + 1)))), (5, vp ra), (7, vs sl d g), (8, vu e), (18, vu j), (20, vu f), (186, .bool (!l))] ?_
              refine T_gp 10 (some 187) (.bool (!l)) (bv 27 2047) [(0, .string (runesStr rs)), (1, vi (Int.tmod (iand .i64 atv 65535) (IntKind.wrap .i64 ((d : Int) + 1)))), (5, vp ra), (7, vs sl d g), (8, vu e), (18, vu j), (20, vu f), (187, .bool (!l))] ?_
              refine G_env [(0, .string (runesStr rs)), (1, vi (Int.tmod (iand .i64 atv 65535) (IntKind.wrap .i64 ((d : Int) + 1)))), (5, vp ra), (7, vs sl d g), (8, vu e), (18, vu j), (20, vu f), (187, .bool false)] (by rw [b101]) ?_
              refine T_gp 11 (some 188) (vp ra) (bv 27 4095) [(0, .string (runesStr rs)), (1, vi (Int.tmod (iand .i64 atv 65535) (IntKind.wrap .i64 ((d : Int) + 1)))), (5, vp ra), (7, vs sl d g), (8, vu e), (18, vu j), (20, vu f), (187, .bool false), (188, vp ra)] ?_
              refine T_gp 12 (some 189) (vu f) (bv 27 8191) [(0, .string (runesStr rs)), (1, vi (Int.tmod (iand .i64 atv 65535) (IntKind.wrap .i64 ((d : Int) + 1)))), (5, vp ra), (7, vs sl d g), (8, vu e), (18, vu j), (20, vu f), (187, .bool false), (188, vp ra), (189, vu f)] ?_
              refine T_gp 14 (some 191) (.string (runesStr rs)) (bv 27 24575) [(0, .string (runesStr rs)), (1, vi (Int.tmod (iand .i64 atv 65535) (IntKind.wrap .i64 ((d : Int) + 1)))), (5, vp ra), (7, vs sl d g), (8, vu e), (18, vu j), (20, vu f), (187, .bool false), (188, vp ra), (189, vu f), (191, .string (runesStr rs))] ?_
              refine G_call 13 (some 190) (bv 27 32767) 24 #[vp ra, vu f] (by kernel_rfl) (fun _=>by kernel_rfl) h (by kernel_rfl) ?_; clear h
              rintro cp bs ⟨ax, rfl, h⟩
              refine ⟨[(0, .string (runesStr rs)), (1, vi (Int.tmod (iand .i64 atv 65535) (IntKind.wrap .i64 ((d : Int) + 1)))), (5, vp ra), (7, vs sl d g), (8, vu e), (18, vu j), (20, vu f), (187, .bool false), (190, .string ax), (191, .string (runesStr rs))], pk, (show FactsAt _ _ _ from trivial), ?_⟩
              refine T_g 15 (some 192) (.bool (!(ax.toList == (runesStr rs).toList))) (bv 27 65535) [(0, .string (runesStr rs)), (1, vi (Int.tmod (iand .i64 atv 65535) (IntKind.wrap .i64 ((d : Int) + 1)))), (5, vp ra), (7, vs sl d g), (8, vu e), (18, vu j), (20, vu f), (187, .bool false), (192, .bool (!(ax.toList == (runesStr rs).toList)))] (pure (.value (.bool (!(ax.toList == (runesStr rs).toList)))) : Sem Next) (fun _ _ _ _ _ => rfl) ?_
              refine T_g 16 (some 193) (.bool (!(ax.toList == (runesStr rs).toList))) (bv 27 131071) [(0, .string (runesStr rs)), (1, vi (Int.tmod (iand .i64 atv 65535) (IntKind.wrap .i64 ((d : Int) + 1)))), (5, vp ra), (7, vs sl d g), (8, vu e), (18, vu j), (20, vu f), (193, .bool (!(ax.toList == (runesStr rs).toList)))] (pure (.value (.bool (!(ax.toList == (runesStr rs).toList)))) : Sem Next) (fun _ _ _ _ _ => rfl) ?_
              refine T_g 17 (some 194) (.bool (!(ax.toList == (runesStr rs).toList))) (bv 27 262143) [(0, .string (runesStr rs)), (1, vi (Int.tmod (iand .i64 atv 65535) (IntKind.wrap .i64 ((d : Int) + 1)))), (5, vp ra), (7, vs sl d g), (8, vu e), (18, vu j), (20, vu f), (194, .bool (!(ax.toList == (runesStr rs).toList)))] (pure (.value (.bool (!(ax.toList == (runesStr rs).toList)))) : Sem Next) (fun _ _ _ _ _ => rfl) ?_
              by_cases c102 : ax.toList = (runesStr rs).toList
              ·rw [if_pos c102] at h
               have b103 : (!(ax.toList == (runesStr rs).toList)) = false := congrArg Bool.not (beq_iff_eq.mpr c102)
               refine G_env [(0, .string (runesStr rs)), (1, vi (Int.tmod (iand .i64 atv 65535) (IntKind.wrap .i64 ((d : Int) + 1)))), (5, vp ra), (7, vs sl d g), (8, vu e), (18, vu j), (20, vu f), (194, .bool false)] (by rw [b103]) ?_
               clear b103
               refine T_g 18 (some 195) (vp ra) (bv 27 524287) [(0, .string (runesStr rs)), (1, vi (Int.tmod (iand .i64 atv 65535) (IntKind.wrap .i64 ((d : Int) + 1)))), (5, vp ra), (7, vs sl d g), (8, vu e), (18, vu j), (20, vu f), (194, .bool false), (195, vp ra)] (pure (.value (vp ra)) : Sem Next) (fun _ _ _ _ _ => rfl) ?_
               refine T_g 19 (some 196) (vu j) (bv 27 1048575) [(0, .string (runesStr rs)), (1, vi (Int.tmod (iand .i64 atv 65535) (IntKind.wrap .i64 ((d : Int) + 1)))), (5, vp ra), (7, vs sl d g), (8, vu e), (20, vu f), (194, .bool false), (195, vp ra), (196, vu j)] (pure (.value (vu j)) : Sem Next) (fun _ _ _ _ _ => rfl) ?_
               refine T_g 21 (some 198) (vs sl d g) (bv 27 3145727) [(0, .string (runesStr rs)), (1, vi (Int.tmod (iand .i64 atv 65535) (IntKind.wrap .i64 ((d : Int) + 1)))), (5, vp ra), (7, vs sl d g), (8, vu e), (20, vu f), (194, .bool false), (195, vp ra), (196, vu j), (198, vs sl d g)] (pure (.value (vs sl d g)) : Sem Next) (fun _ _ _ _ _ => rfl) ?_
               refine T_g 22 (some 199) (vi (Int.tmod (iand .i64 atv 65535) (IntKind.wrap .i64 ((d : Int) + 1)))) (bv 27 7340031) [(0, .string (runesStr rs)), (5, vp ra), (7, vs sl d g), (8, vu e), (20, vu f), (194, .bool false), (195, vp ra), (196, vu j), (198, vs sl d g), (199, vi (Int.tmod (iand .i64 atv 65535) (IntKind.wrap .i64 ((d : Int) + 1))))] (pure (.value (vi (Int.tmod (iand .i64 atv 65535) (IntKind.wrap .i64 ((d : Int) + 1))))) : Sem Next) (fun _ _ _ _ _ => rfl) ?_
               obtain ⟨lo, hi, q104, q105, q106, q107, h⟩ := h
               obtain ⟨a1, e108⟩ : ∃ B, B = (if g = lo then sl else Option.map (fun a : Addr => a.add (lo * 1)) sl) := ⟨_, rfl⟩
               replace h := h a1 e108
               refine T_g 23 (some 200) (vs a1 (hi - lo) (g - lo)) (bv 27 15728639) [(0, .string (runesStr rs)), (5, vp ra), (7, vs sl d g), (8, vu e), (20, vu f), (194, .bool false), (195, vp ra), (196, vu j), (200, vs a1 (hi - lo) (g - lo))] (sliceN 65 (vs sl d g) none (some (vi (Int.tmod (iand .i64 atv 65535) (IntKind.wrap .i64 ((d : Int) + 1))))) none) (fun _ w _ _ _ => (slice_run (P := Tryz.prog) (t := 65) (elem := 21) (sz := 1) (a := sl) (len := d) (cap := g) none (some (vi (Int.tmod (iand .i64 atv 65535) (IntKind.wrap .i64 ((d : Int) + 1))))) lo hi Tryz.underlying65 (fun _=>by kernel_rfl) (.inl ⟨rfl, q104⟩) (.inr ⟨.i64, by rw [q105]⟩) q106 q107 w).trans (by rw [e108]; try rfl)) ?_
               rcases a1 with _ | bd
               ·rw [onPtr_none] at h
                refine T_g 24 (some 201) (.string (runesStr [])) (bv 27 32505855) [(0, .string (runesStr rs)), (5, vp ra), (7, vs sl d g), (8, vu e), (20, vu f), (194, .bool false), (195, vp ra), (196, vu j), (201, .string (runesStr []))] (convertN 65 9 (vs none (hi - lo) (g - lo))) (fun _ w _ _ _ => convert_runes (b := none) (rs := []) Tryz.underlying65 Tryz.underlying9 Tryz.underlying21 rfl (fun h => absurd rfl h)) ?_
                refine G_call 20 (some 197) (bv 27 33554431) 24 #[vp ra, vu j] (by kernel_rfl) (fun _=>by kernel_rfl) h (by kernel_rfl) ?_; clear h
                rintro cc c4 ⟨au, rfl, h⟩
                refine ⟨[(0, .string (runesStr rs)), (5, vp ra), (7, vs sl d g), (8, vu e), (20, vu f), (194, .bool false), (197, .string au), (201, .string (runesStr []))], pk, (show FactsAt _ _ _ from trivial), ?_⟩
                refine T_g 25 (some 202) (.bool (!(au.toList == (runesStr []).toList))) (bv 27 67108863) [(0, .string (runesStr rs)), (5, vp ra), (7, vs sl d g), (8, vu e), (20, vu f), (194, .bool false), (202, .bool (!(au.toList == (runesStr []).toList)))] (pure (.value (.bool (!(au.toList == (runesStr []).toList)))) : Sem Next) (fun _ _ _ _ _ => rfl) ?_
                refine T_g 26 (some 203) (.bool (!(au.toList == (runesStr []).toList))) (bv 27 134217727) [(0, .string (runesStr rs)), (5, vp ra), (7, vs sl d g), (8, vu e), (20, vu f), (203, .bool (!(au.toList == (runesStr []).toList)))] (pure (.value (.bool (!(au.toList == (runesStr []).toList)))) : Sem Next) (fun _ _ _ _ _ => rfl) ?_
                refine G_sub [(0, .string (runesStr rs)), (5, vp ra), (7, vs sl d g), (8, vu e), (20, vu f), (203, .bool (!(au.toList == (runesStr []).toList)))] sk ?_
                refine G_end (by kernel_rfl) ?_
                refine S_then ?_
                exact S_meet ((!(au.toList == (runesStr []).toList)) : Bool) sk h
               rw [onPtr_some] at h
               obtain ⟨ao, q109, h⟩ := h
               refine G_more (27, bd, ao.map (Value.int .i32)) q109.1 ?_
               refine T_g 24 (some 201) (.string (runesStr ao)) (bv 27 32505855) [(0, .string (runesStr rs)), (5, vp ra), (7, vs sl d g), (8, vu e), (20, vu f), (194, .bool false), (195, vp ra), (196, vu j), (201, .string (runesStr ao))] (convertN 65 9 (vs (some bd) (hi - lo) (g - lo))) (held_runes 27 (List.Mem.head _) (.inr (by kernel_rfl)) Tryz.underlying65 Tryz.underlying9 Tryz.underlying21 q109.2) ?_
               refine G_call 20 (some 197) (bv 27 33554431) 24 #[vp ra, vu j] (by kernel_rfl) (fun _=>by kernel_rfl) h (by kernel_rfl) ?_; clear h
               rintro cs ck ⟨av, rfl, h⟩
               obtain ⟨f110, h⟩ := h
               refine ⟨[(0, .string (runesStr rs)), (5, vp ra), (7, vs sl d g), (8, vu e), (20, vu f), (194, .bool false), (197, .string av), (201, .string (runesStr ao))], pk, (show FactsAt _ _ _ from ⟨f110, trivial⟩), ?_⟩
               refine T_g 25 (some 202) (.bool (!(av.toList == (runesStr ao).toList))) (bv 27 67108863) [(0, .string (runesStr rs)), (5, vp ra), (7, vs sl d g), (8, vu e), (20, vu f), (194, .bool false), (202, .bool (!(av.toList == (runesStr ao).toList)))] (pure (.value (.bool (!(av.toList == (runesStr ao).toList)))) : Sem Next) (fun _ _ _ _ _ => rfl) ?_
               refine T_g 26 (some 203) (.bool (!(av.toList == (runesStr ao).toList))) (bv 27 134217727) [(0, .string (runesStr rs)), (5, vp ra), (7, vs sl d g), (8, vu e), (20, vu f), (203, .bool (!(av.toList == (runesStr ao).toList)))] (pure (.value (.bool (!(av.toList == (runesStr ao).toList)))) : Sem Next) (fun _ _ _ _ _ => rfl) ?_
               refine G_sub [(0, .string (runesStr rs)), (5, vp ra), (7, vs sl d g), (8, vu e), (20, vu f), (203, .bool (!(av.toList == (runesStr ao).toList)))] sk ?_
               refine G_end (by kernel_rfl) ?_
               refine S_then ?_
               exact S_meet ((!(av.toList == (runesStr ao).toList)) : Bool) sk h
              rw [if_neg c102] at h
              have b103 : (!(ax.toList == (runesStr rs).toList)) = true := congrArg Bool.not (beq_eq_false_iff_ne.mpr c102)
              refine G_env [(0, .string (runesStr rs)), (1, vi (Int.tmod (iand .i64 atv 65535) (IntKind.wrap .i64 ((d : Int) + 1)))), (5, vp ra), (7, vs sl d g), (8, vu e), (18, vu j), (20, vu f), (194, .bool true)] (by rw [b103]) ?_
              clear b103
              refine T_gs 18 (some 195) (bv 27 524287) [(0, .string (runesStr rs)), (1, vi (Int.tmod (iand .i64 atv 65535) (IntKind.wrap .i64 ((d : Int) + 1)))), (5, vp ra), (7, vs sl d g), (8, vu e), (18, vu j), (20, vu f), (194, .bool true), (195, undef)] ?_
              refine T_gs 19 (some 196) (bv 27 1048575) [(0, .string (runesStr rs)), (1, vi (Int.tmod (iand .i64 atv 65535) (IntKind.wrap .i64 ((d : Int) + 1)))), (5, vp ra), (7, vs sl d g), (8, vu e), (20, vu f), (194, .bool true), (195, undef), (196, undef)] ?_
              refine T_gs 20 (some 197) (bv 27 2097151) [(0, .string (runesStr rs)), (1, vi (Int.tmod (iand .i64 atv 65535) (IntKind.wrap .i64 ((d : Int) + 1)))), (5, vp ra), (7, vs sl d g), (8, vu e), (20, vu f), (194, .bool true), (197, undef)] ?_
              refine T_gs 21 (some 198) (bv 27 4194303) [(0, .string (runesStr rs)), (1, vi (Int.tmod (iand .i64 atv 65535) (IntKind.wrap .i64 ((d : Int) + 1)))), (5, vp ra), (7, vs sl d g), (8, vu e), (20, vu f), (194, .bool true), (197, undef), (198, undef)] ?_
              refine T_gs 22 (some 199) (bv 27 8388607) [(0, .string (runesStr rs)), (5, vp ra), (7, vs sl d g), (8, vu e), (20, vu f), (194, .bool true), (197, undef), (198, undef), (199, undef)] ?_
              refine T_gs 23 (some 200) (bv 27 16777215) [(0, .string (runesStr rs)), (5, vp ra), (7, vs sl d g), (8, vu e), (20, vu f), (194, .bool true), (197, undef), (200, undef)] ?_
              refine T_gs 24 (some 201) (bv 27 33554431) [(0, .string (runesStr rs)), (5, vp ra), (7, vs sl d g), (8, vu e), (20, vu f), (194, .bool true), (197, undef), (201, undef)] ?_
              refine T_gs 25 (some 202) (bv 27 67108863) [(0, .string (runesStr rs)), (5, vp ra), (7, vs sl d g), (8, vu e), (20, vu f), (194, .bool true), (202, undef)] ?_
              refine T_g 26 (some 203) (.bool true) (bv 27 134217727) [(0, .string (runesStr rs)), (5, vp ra), (7, vs sl d g), (8, vu e), (20, vu f), (203, .bool true)] (pure (.value (.bool true)) : Sem Next) (fun _ _ _ _ _ => rfl) ?_
              refine G_sub [(0, .string (runesStr rs)), (5, vp ra), (7, vs sl d g), (8, vu e), (20, vu f), (203, .bool true)] sk ?_
              refine G_end (by kernel_rfl) ?_
              refine S_then ?_
              exact S_meet (true : Bool) sk h
             rw [if_neg c100] at h
             have b101 : (!l) = true := congrArg Bool.not (eq_false_of_ne_true c100)
             refine S_regionG 20 (Code.ops K51) [] 27 (bv 27 0) (by kernel_rfl) (by kernel_rfl) (by kernel_rfl) (by kernel_rfl) (by kernel_rfl) (show FactsAt _ _ _ from trivial) ?_
             refine T_gp 0 (some 177) (.bool n) (bv 27 1) [(0, .string (runesStr rs)), (1, vi (Int.tmod (iand .i64 atv 65535) (IntKind.wrap .i64 ((d : Int) + 1)))), (5, vp ra), (7, vs sl d g), (8, vu e), (13, .bool m), (17, .bool l), (18, vu j), (20, vu f), (177, .bool n)] ?_
             refine T_gp 1 (some 178) (.bool (!n)) (bv 27 3) [(0, .string (runesStr rs)), (1, vi (Int.tmod (iand .i64 atv 65535) (IntKind.wrap .i64 ((d : Int) + 1)))), (5, vp ra), (7, vs sl d g), (8, vu e), (13, .bool m), (17, .bool l), (18, vu j), (20, vu f), (178, .bool (!n))] ?_
             refine T_gp 2 (some 179) (.bool (!n)) (bv 27 7) [(0, .string (runesStr rs)), (1, vi (Int.tmod (iand .i64 atv 65535) (IntKind.wrap .i64 ((d : Int) + 1)))), (5, vp ra), (7, vs sl d g), (8, vu e), (13, .bool m), (17, .bool l), (18, vu j), (20, vu f), (179, .bool (!n))] ?_
             refine G_env [(0, .string (runesStr rs)), (1, vi (Int.tmod (iand .i64 atv 65535) (IntKind.wrap .i64 ((d : Int) + 1)))), (5, vp ra), (7, vs sl d g), (8, vu e), (13, .bool m), (17, .bool l), (18, vu j), (20, vu f), (179, .bool false)] (by rw [b97]) ?_
             refine T_gp 3 (some 180) (.bool m) (bv 27 15) [(0, .string (runesStr rs)), (1, vi (Int.tmod (iand .i64 atv 65535) (IntKind.wrap .i64 ((d : Int) + 1)))), (5, vp ra), (7, vs sl d g), (8, vu e), (17, .bool l), (18, vu j), (20, vu f), (179, .bool false), (180, .bool m)] ?_
             refine T_gp 4 (some 181) (.bool (!m)) (bv 27 31) [(0, .string (runesStr rs)), (1, vi (Int.tmod (iand .i64 atv 65535) (IntKind.wrap .i64 ((d : Int) + 1)))), (5, vp ra), (7, vs sl d g), (8, vu e), (17, .bool l), (18, vu j), (20, vu f), (179, .bool false), (181, .bool (!m))] ?_
             refine T_gp 5 (some 182) (.bool (!m)) (bv 27 63) [(0, .string (runesStr rs)), (1, vi (Int.tmod (iand .i64 atv 65535) (IntKind.wrap .i64 ((d : Int) + 1)))), (5, vp ra), (7, vs sl d g), (8, vu e), (17, .bool l), (18, vu j), (20, vu f), (182, .bool (!m))] ?_
             refine T_gp 6 (some 183) (.bool (!m)) (bv 27 127) [(0, .string (runesStr rs)), (1, vi (Int.tmod (iand .i64 atv 65535) (IntKind.wrap .i64 ((d : Int) + 1)))), (5, vp ra), (7, vs sl d g), (8, vu e), (17, .bool l), (18, vu j), (20, vu f), (183, .bool (!m))] ?_
             refine G_env [(0, .string (runesStr rs)), (1, vi (Int.tmod (iand .i64 atv 65535) (IntKind.wrap .i64 ((d : Int) + 1)))), (5, vp ra), (7, vs sl d g), (8, vu e), (17, .bool l), (18, vu j), (20, vu f), (183, .bool false)] (by rw [b99]) ?_
             refine T_gp 7 (some 184) (.bool l) (bv 27 255) [(0, .string (runesStr rs)), (1, vi (Int.tmod (iand .i64 atv 65535) (IntKind.wrap .i64 ((d : Int) + 1)))), (5, vp ra), (7, vs sl d g), (8, vu e), (18, vu j), (20, vu f), (183, .bool false), (184, .bool l)] ?_
             refine T_gp 8 (some 185) (.bool (!l)) (bv 27 511) [(0, .string (runesStr rs)), (1, vi (Int.tmod (iand .i64 atv 65535) (IntKind.wrap .i64 ((d : Int) + 1)))), (5, vp ra), (7, vs sl d g), (8, vu e), (18, vu j), (20, vu f), (183, .bool false), (185, .bool (!l))] ?_
             refine T_gp 9 (some 186) (.bool (!l)) (bv 27 1023) [(0, .string (runesStr rs)), (1, vi (Int.tmod (iand .i64 atv 65535) (IntKind.wrap .i64 ((d : Int) + 1)))), (5, vp ra), (7, vs sl d g), (8, vu e), (18, vu j), (20, vu f), (186, .bool (!l))] ?_
             refine T_gp 10 (some 187) (.bool (!l)) (bv 27 2047) [(0, .string (runesStr rs)), (1, vi (Int.tmod (iand .i64 atv 65535) (IntKind.wrap .i64 ((d : Int) + 1)))), (5, vp ra), (7, vs sl d g), (8, vu e), (18, vu j), (20, vu f), (187, .bool (!l))] ?_
             refine G_env [(0, .string (runesStr rs)), (1, vi (Int.tmod (iand .i64 atv 65535) (IntKind.wrap .i64 ((d : Int) + 1)))), (5, vp ra), (7, vs sl d g), (8, vu e), (18, vu j), (20, vu f), (187, .bool true)] (by rw [b101]) ?_
             refine T_gs 11 (some 188) (bv 27 4095) [(0, .string (runesStr rs)), (1, vi (Int.tmod (iand .i64 atv 65535) (IntKind.wrap .i64 ((d : Int) + 1)))), (5, vp ra), (7, vs sl d g), (8, vu e), (18, vu j), (20, vu f), (187, .bool true), (188, undef)] ?_
             refine T_gs 12 (some 189) (bv 27 8191) [(0, .string (runesStr rs)), (1, vi (Int.tmod (iand .i64 atv 65535) (IntKind.wrap .i64 ((d : Int) + 1)))), (5, vp ra), (7, vs sl d g), (8, vu e), (18, vu j), (20, vu f), (187, .bool true), (188, undef), (189, undef)] ?_
             refine T_gs 13 (some 190) (bv 27 16383) [(0, .string (runesStr rs)), (1, vi (Int.tmod (iand .i64 atv 65535) (IntKind.wrap .i64 ((d : Int) + 1)))), (5, vp ra), (7, vs sl d g), (8, vu e), (18, vu j), (20, vu f), (187, .bool true), (190, undef)] ?_
             refine T_gs 14 (some 191) (bv 27 32767) [(0, .string (runesStr rs)), (1, vi (Int.tmod (iand .i64 atv 65535) (IntKind.wrap .i64 ((d : Int) + 1)))), (5, vp ra), (7, vs sl d g), (8, vu e), (18, vu j), (20, vu f), (187, .bool true), (190, undef), (191, undef)] ?_
             refine T_gs 15 (some 192) (bv 27 65535) [(0, .string (runesStr rs)), (1, vi (Int.tmod (iand .i64 atv 65535) (IntKind.wrap .i64 ((d : Int) + 1)))), (5, vp ra), (7, vs sl d g), (8, vu e), (18, vu j), (20, vu f), (187, .bool true), (192, undef)] ?_
             refine T_gp 16 (some 193) (.bool true) (bv 27 131071) [(0, .string (runesStr rs)), (1, vi (Int.tmod (iand .i64 atv 65535) (IntKind.wrap .i64 ((d : Int) + 1)))), (5, vp ra), (7, vs sl d g), (8, vu e), (18, vu j), (20, vu f), (193, .bool true)] ?_
             refine T_gp 17 (some 194) (.bool true) (bv 27 262143) [(0, .string (runesStr rs)), (1, vi (Int.tmod (iand .i64 atv 65535) (IntKind.wrap .i64 ((d : Int) + 1)))), (5, vp ra), (7, vs sl d g), (8, vu e), (18, vu j), (20, vu f), (194, .bool true)] ?_
             refine T_gs 18 (some 195) (bv 27 524287) [(0, .string (runesStr rs)), (1, vi (Int.tmod (iand .i64 atv 65535) (IntKind.wrap .i64 ((d : Int) + 1)))), (5, vp ra), (7, vs sl d g), (8, vu e), (18, vu j), (20, vu f), (194, .bool true), (195, undef)] ?_
             refine T_gs 19 (some 196) (bv 27 1048575) [(0, .string (runesStr rs)), (1, vi (Int.tmod (iand .i64 atv 65535) (IntKind.wrap .i64 ((d : Int) + 1)))), (5, vp ra), (7, vs sl d g), (8, vu e), (20, vu f), (194, .bool true), (195, undef), (196, undef)] ?_
             refine T_gs 20 (some 197) (bv 27 2097151) [(0, .string (runesStr rs)), (1, vi (Int.tmod (iand .i64 atv 65535) (IntKind.wrap .i64 ((d : Int) + 1)))), (5, vp ra), (7, vs sl d g), (8, vu e), (20, vu f), (194, .bool true), (197, undef)] ?_
             refine T_gs 21 (some 198) (bv 27 4194303) [(0, .string (runesStr rs)), (1, vi (Int.tmod (iand .i64 atv 65535) (IntKind.wrap .i64 ((d : Int) + 1)))), (5, vp ra), (7, vs sl d g), (8, vu e), (20, vu f), (194, .bool true), (197, undef), (198, undef)] ?_
             refine T_gs 22 (some 199) (bv 27 8388607) [(0, .string (runesStr rs)), (5, vp ra), (7, vs sl d g), (8, vu e), (20, vu f), (194, .bool true), (197, undef), (198, undef), (199, undef)] ?_
             refine T_gs 23 (some 200) (bv 27 16777215) [(0, .string (runesStr rs)), (5, vp ra), (7, vs sl d g), (8, vu e), (20, vu f), (194, .bool true), (197, undef), (200, undef)] ?_
             refine T_gs 24 (some 201) (bv 27 33554431) [(0, .string (runesStr rs)), (5, vp ra), (7, vs sl d g), (8, vu e), (20, vu f), (194, .bool true), (197, undef), (201, undef)] ?_
             refine T_gs 25 (some 202) (bv 27 67108863) [(0, .string (runesStr rs)), (5, vp ra), (7, vs sl d g), (8, vu e), (20, vu f), (194, .bool true), (202, undef)] ?_
             refine T_gp 26 (some 203) (.bool true) (bv 27 134217727) [(0, .string (runesStr rs)), (5, vp ra), (7, vs sl d g), (8, vu e), (20, vu f), (203, .bool true)] ?_
             refine G_sub [(0, .string (runesStr rs)), (5, vp ra), (7, vs sl d g), (8, vu e), (20, vu f), (203, .bool true)] sk ?_
             refine G_end (by kernel_rfl) ?_
             refine S_then ?_
             exact S_meet (true : Bool) sk h
            rw [if_neg c98] at h
            have b99 : (!m) = true := congrArg Bool.not (eq_false_of_ne_true c98)
            refine S_regionG 20 (Code.ops K51) [] 27 (bv 27 0) (by kernel_rfl) (by kernel_rfl) (by kernel_rfl) (by kernel_rfl) (by kernel_rfl) (show FactsAt _ _ _ from trivial) ?_
            refine T_gp 0 (some 177) (.bool n) (bv 27 1) [(0, .string (runesStr rs)), (1, vi (Int.tmod (iand .i64 atv 65535) (IntKind.wrap .i64 ((d : Int) + 1)))), (5, vp ra), (7, vs sl d g), (8, vu e), (13, .bool m), (17, .bool l), (18, vu j), (20, vu f), (177, .bool n)] ?_
            refine T_gp 1 (some 178) (.bool (!n)) (bv 27 3) [(0, .string (runesStr rs)), (1, vi (Int.tmod (iand .i64 atv 65535) (IntKind.wrap .i64 ((d : Int) + 1)))), (5, vp ra), (7, vs sl d g), (8, vu e), (13, .bool m), (17, .bool l), (18, vu j), (20, vu f), (178, .bool (!n))] ?_
            refine T_gp 2 (some 179) (.bool (!n)) (bv 27 7) [(0, .string (runesStr rs)), (1, vi (Int.tmod (iand .i64 atv 65535) (IntKind.wrap .i64 ((d : Int) + 1)))), (5, vp ra), (7, vs sl d g), (8, vu e), (13, .bool m), (17, .bool l), (18, vu j), (20, vu f), (179, .bool (!n))] ?_
            refine G_env [(0, .string (runesStr rs)), (1, vi (Int.tmod (iand .i64 atv 65535) (IntKind.wrap .i64 ((d : Int) + 1)))), (5, vp ra), (7, vs sl d g), (8, vu e), (13, .bool m), (17, .bool l), (18, vu j), (20, vu f), (179, .bool false)] (by rw [b97]) ?_
            refine T_gp 3 (some 180) (.bool m) (bv 27 15) [(0, .string (runesStr rs)), (1, vi (Int.tmod (iand .i64 atv 65535) (IntKind.wrap .i64 ((d : Int) + 1)))), (5, vp ra), (7, vs sl d g), (8, vu e), (17, .bool l), (18, vu j), (20, vu f), (179, .bool false), (180, .bool m)] ?_
            refine T_gp 4 (some 181) (.bool (!m)) (bv 27 31) [(0, .string (runesStr rs)), (1, vi (Int.tmod (iand .i64 atv 65535) (IntKind.wrap .i64 ((d : Int) + 1)))), (5, vp ra), (7, vs sl d g), (8, vu e), (17, .bool l), (18, vu j), (20, vu f), (179, .bool false), (181, .bool (!m))] ?_
            refine T_gp 5 (some 182) (.bool (!m)) (bv 27 63) [(0, .string (runesStr rs)), (1, vi (Int.tmod (iand .i64 atv 65535) (IntKind.wrap .i64 ((d : Int) + 1)))), (5, vp ra), (7, vs sl d g), (8, vu e), (17, .bool l), (18, vu j), (20, vu f), (182, .bool (!m))] ?_
            refine T_gp 6 (some 183) (.bool (!m)) (bv 27 127) [(0, .string (runesStr rs)), (1, vi (Int.tmod (iand .i64 atv 65535) (IntKind.wrap .i64 ((d : Int) + 1)))), (5, vp ra), (7, vs sl d g), (8, vu e), (17, .bool l), (18, vu j), (20, vu f), (183, .bool (!m))] ?_
            refine G_env [(0, .string (runesStr rs)), (1, vi (Int.tmod (iand .i64 atv 65535) (IntKind.wrap .i64 ((d : Int) + 1)))), (5, vp ra), (7, vs sl d g), (8, vu e), (17, .bool l), (18, vu j), (20, vu f), (183, .bool true)] (by rw [b99]) ?_
            refine T_gs 7 (some 184) (bv 27 255) [(0, .string (runesStr rs)), (1, vi (Int.tmod (iand .i64 atv 65535) (IntKind.wrap .i64 ((d : Int) + 1)))), (5, vp ra), (7, vs sl d g), (8, vu e), (18, vu j), (20, vu f), (183, .bool true), (184, undef)] ?_
            refine T_gs 8 (some 185) (bv 27 511) [(0, .string (runesStr rs)), (1, vi (Int.tmod (iand .i64 atv 65535) (IntKind.wrap .i64 ((d : Int) + 1)))), (5, vp ra), (7, vs sl d g), (8, vu e), (18, vu j), (20, vu f), (183, .bool true), (185, undef)] ?_
            refine T_gp 9 (some 186) (.bool true) (bv 27 1023) [(0, .string (runesStr rs)), (1, vi (Int.tmod (iand .i64 atv 65535) (IntKind.wrap .i64 ((d : Int) + 1)))), (5, vp ra), (7, vs sl d g), (8, vu e), (18, vu j), (20, vu f), (186, .bool true)] ?_
            refine T_gp 10 (some 187) (.bool true) (bv 27 2047) [(0, .string (runesStr rs)), (1, vi (Int.tmod (iand .i64 atv 65535) (IntKind.wrap .i64 ((d : Int) + 1)))), (5, vp ra), (7, vs sl d g), (8, vu e), (18, vu j), (20, vu f), (187, .bool true)] ?_
            refine T_gs 11 (some 188) (bv 27 4095) [(0, .string (runesStr rs)), (1, vi (Int.tmod (iand .i64 atv 65535) (IntKind.wrap .i64 ((d : Int) + 1)))), (5, vp ra), (7, vs sl d g), (8, vu e), (18, vu j), (20, vu f), (187, .bool true), (188, undef)] ?_
            refine T_gs 12 (some 189) (bv 27 8191) [(0, .string (runesStr rs)), (1, vi (Int.tmod (iand .i64 atv 65535) (IntKind.wrap .i64 ((d : Int) + 1)))), (5, vp ra), (7, vs sl d g), (8, vu e), (18, vu j), (20, vu f), (187, .bool true), (188, undef), (189, undef)] ?_
            refine T_gs 13 (some 190) (bv 27 16383) [(0, .string (runesStr rs)), (1, vi (Int.tmod (iand .i64 atv 65535) (IntKind.wrap .i64 ((d : Int) + 1)))), (5, vp ra), (7, vs sl d g), (8, vu e), (18, vu j), (20, vu f), (187, .bool true), (190, undef)] ?_
            refine T_gs 14 (some 191) (bv 27 32767) [(0, .string (runesStr rs)), (1, vi (Int.tmod (iand .i64 atv 65535) (IntKind.wrap .i64 ((d : Int) + 1)))), (5, vp ra), (7, vs sl d g), (8, vu e), (18, vu j), (20, vu f), (187, .bool true), (190, undef), (191, undef)] ?_
            refine T_gs 15 (some 192) (bv 27 65535) [(0, .string (runesStr rs)), (1, vi (Int.tmod (iand .i64 atv 65535) (IntKind.wrap .i64 ((d : Int) + 1)))), (5, vp ra), (7, vs sl d g), (8, vu e), (18, vu j), (20, vu f), (187, .bool true), (192, undef)] ?_
            refine T_gp 16 (some 193) (.bool true) (bv 27 131071) [(0, .string (runesStr rs)), (1, vi (Int.tmod (iand .i64 atv 65535) (IntKind.wrap .i64 ((d : Int) + 1)))), (5, vp ra), (7, vs sl d g), (8, vu e), (18, vu j), (20, vu f), (193, .bool true)] ?_
            refine T_gp 17 (some 194) (.bool true) (bv 27 262143) [(0, .string (runesStr rs)), (1, vi (Int.tmod (iand .i64 atv 65535) (IntKind.wrap .i64 ((d : Int) + 1)))), (5, vp ra), (7, vs sl d g), (8, vu e), (18, vu j), (20, vu f), (194, .bool true)] ?_
            refine T_gs 18 (some 195) (bv 27 524287) [(0, .string (runesStr rs)), (1, vi (Int.tmod (iand .i64 atv 65535) (IntKind.wrap .i64 ((d : Int) + 1)))), (5, vp ra), (7, vs sl d g), (8, vu e), (18, vu j), (20, vu f), (194, .bool true), (195, undef)] ?_
            refine T_gs 19 (some 196) (bv 27 1048575) [(0, .string (runesStr rs)), (1, vi (Int.tmod (iand .i64 atv 65535) (IntKind.wrap .i64 ((d : Int) + 1)))), (5, vp ra), (7, vs sl d g), (8, vu e), (20, vu f), (194, .bool true), (195, undef), (196, undef)] ?_
            refine T_gs 20 (some 197) (bv 27 2097151) [(0, .string (runesStr rs)), (1, vi (Int.tmod (iand .i64 atv 65535) (IntKind.wrap .i64 ((d : Int) + 1)))), (5, vp ra), (7, vs sl d g), (8, vu e), (20, vu f), (194, .bool true), (197, undef)] ?_
            refine T_gs 21 (some 198) (bv 27 4194303) [(0, .string (runesStr rs)), (1, vi (Int.tmod (iand .i64 atv 65535) (IntKind.wrap .i64 ((d : Int) + 1)))), (5, vp ra), (7, vs sl d g), (8, vu e), (20, vu f), (194, .bool true), (197, undef), (198, undef)] ?_
            refine T_gs 22 (some 199) (bv 27 8388607) [(0, .string (runesStr rs)), (5, vp ra), (7, vs sl d g), (8, vu e), (20, vu f), (194, .bool true), (197, undef), (198, undef), (199, undef)] ?_
            refine T_gs 23 (some 200) (bv 27 16777215) [(0, .string (runesStr rs)), (5, vp ra), (7, vs sl d g), (8, vu e), (20, vu f), (194, .bool true), (197, undef), (200, undef)] ?_
            refine T_gs 24 (some 201) (bv 27 33554431) [(0, .string (runesStr rs)), (5, vp ra), (7, vs sl d g), (8, vu e), (20, vu f), (194, .bool true), (197, undef), (201, undef)] ?_
            refine T_gs 25 (some 202) (bv 27 67108863) [(0, .string (runesStr rs)), (5, vp ra), (7, vs sl d g), (8, vu e), (20, vu f), (194, .bool true), (202, undef)] ?_
            refine T_gp 26 (some 203) (.bool true) (bv 27 134217727) [(0, .string (runesStr rs)), (5, vp ra), (7, vs sl d g), (8, vu e), (20, vu f), (203, .bool true)] ?_
            refine G_sub [(0, .string (runesStr rs)), (5, vp ra), (7, vs sl d g), (8, vu e), (20, vu f), (203, .bool true)] sk ?_
            refine G_end (by kernel_rfl) ?_
            refine S_then ?_
            exact S_meet (true : Bool) sk h
           rw [if_neg c96] at h
           have b97 : (!n) = true := congrArg Bool.not (eq_false_of_ne_true c96)
           refine S_regionG 20 (Code.ops K51) [] 27 (bv 27 0) (by kernel_rfl) (by kernel_rfl) (by kernel_rfl) (by kernel_rfl) (by kernel_rfl) (show FactsAt _ _ _ from trivial) ?_
           refine T_gp 0 (some 177) (.bool n) (bv 27 1) [(0, .string (runesStr rs)), (1, vi (Int.tmod (iand .i64 atv 65535) (IntKind.wrap .i64 ((d : Int) + 1)))), (5, vp ra), (7, vs sl d g), (8, vu e), (13, .bool m), (17, .bool l), (18, vu j), (20, vu f), (177, .bool n)] ?_
           refine T_gp 1 (some 178) (.bool (!n)) (bv 27 3) [(0, .string (runesStr rs)), (1, vi (Int.tmod (iand .i64 atv 65535) (IntKind.wrap .i64 ((d : Int) + 1)))), (5, vp ra), (7, vs sl d g), (8, vu e), (13, .bool m), (17, .bool l), (18, vu j), (20, vu f), (178, .bool (!n))] ?_
           refine T_gp 2 (some 179) (.bool (!n)) (bv 27 7) [(0, .string (runesStr rs)), (1, vi (Int.tmod (iand .i64 atv 65535) (IntKind.wrap .i64 ((d : Int) + 1)))), (5, vp ra), (7, vs sl d g), (8, vu e), (13, .bool m), (17, .bool l), (18, vu j), (20, vu f), (179, .bool (!n))] ?_
           refine G_env [(0, .string (runesStr rs)), (1, vi (Int.tmod (iand .i64 atv 65535) (IntKind.wrap .i64 ((d : Int) + 1)))), (5, vp ra), (7, vs sl d g), (8, vu e), (13, .bool m), (17, .bool l), (18, vu j), (20, vu f), (179, .bool true)] (by rw [b97]) ?_
           refine T_gs 3 (some 180) (bv 27 15) [(0, .string (runesStr rs)), (1, vi (Int.tmod (iand .i64 atv 65535) (IntKind.wrap .i64 ((d : Int) + 1)))), (5, vp ra), (7, vs sl d g), (8, vu e), (17, .bool l), (18, vu j), (20, vu f), (179, .bool true), (180, undef)] ?_
           refine T_gs 4 (some 181) (bv 27 31) [(0, .string (runesStr rs)), (1, vi (Int.tmod (iand .i64 atv 65535) (IntKind.wrap .i64 ((d : Int) + 1)))), (5, vp ra), (7, vs sl d g), (8, vu e), (17, .bool l), (18, vu j), (20, vu f), (179, .bool true), (181, undef)] ?_
           refine T_gp 5 (some 182) (.bool true) (bv 27 63) [(0, .string (runesStr rs)), (1, vi (Int.tmod (iand .i64 atv 65535) (IntKind.wrap .i64 ((d : Int) + 1)))), (5, vp ra), (7, vs sl d g), (8, vu e), (17, .bool l), (18, vu j), (20, vu f), (182, .bool true)] ?_
           refine T_gp 6 (some 183) (.bool true) (bv 27 127) [(0, .string (runesStr rs)), (1, vi (Int.tmod (iand .i64 atv 65535) (IntKind.wrap .i64 ((d : Int) + 1)))), (5, vp ra), (7, vs sl d g), (8, vu e), (17, .bool l), (18, vu j), (20, vu f), (183, .bool true)] ?_
           refine T_gs 7 (some 184) (bv 27 255) [(0, .string (runesStr rs)), (1, vi (Int.tmod (iand .i64 atv 65535) (IntKind.wrap .i64 ((d : Int) + 1)))), (5, vp ra), (7, vs sl d g), (8, vu e), (18, vu j), (20, vu f), (183, .bool true), (184, undef)] ?_
           refine T_gs 8 (some 185) (bv 27 511) [(0, .string (runesStr rs)), (1, vi (Int.tmod (iand .i64 atv 65535) (IntKind.wrap .i64 ((d : Int) + 1)))), (5, vp ra), (7, vs sl d g), (8, vu e), (18, vu j), (20, vu f), (183, .bool true), (185, undef)] ?_
           refine T_gp 9 (some 186) (.bool true) (bv 27 1023) [(0, .string (runesStr rs)), (1, vi (Int.tmod (iand .i64 atv 65535) (IntKind.wrap .i64 ((d : Int) + 1)))), (5, vp ra), (7, vs sl d g), (8, vu e), (18, vu j), (20, vu f), (186, .bool true)] ?_
           refine T_gp 10 (some 187) (.bool true) (bv 27 2047) [(0, .string (runesStr rs)), (1, vi (Int.tmod (iand .i64 atv 65535) (IntKind.wrap .i64 ((d : Int) + 1)))), (5, vp ra), (7, vs sl d g), (8, vu e), (18, vu j), (20, vu f), (187, .bool true)] ?_
           refine T_gs 11 (some 188) (bv 27 4095) [(0, .string (runesStr rs)), (1, vi (Int.tmod (iand .i64 atv 65535) (IntKind.wrap .i64 ((d : Int) + 1)))), (5, vp ra), (7, vs sl d g), (8, vu e), (18, vu j), (20, vu f), (187, .bool true), (188, undef)] ?_
           refine T_gs 12 (some 189) (bv 27 8191) [(0, .string (runesStr rs)), (1, vi (Int.tmod (iand .i64 atv 65535) (IntKind.wrap .i64 ((d : Int) + 1)))), (5, vp ra), (7, vs sl d g), (8, vu e), (18, vu j), (20, vu f), (187, .bool true), (188, undef), (189, undef)] ?_
           refine T_gs 13 (some 190) (bv 27 16383) [(0, .string (runesStr rs)), (1, vi (Int.tmod (iand .i64 atv 65535) (IntKind.wrap .i64 ((d : Int) + 1)))), (5, vp ra), (7, vs sl d g), (8, vu e), (18, vu j), (20, vu f), (187, .bool true), (190, undef)] ?_
           refine T_gs 14 (some 191) (bv 27 32767) [(0, .string (runesStr rs)), (1, vi (Int.tmod (iand .i64 atv 65535) (IntKind.wrap .i64 ((d : Int) + 1)))), (5, vp ra), (7, vs sl d g), (8, vu e), (18, vu j), (20, vu f), (187, .bool true), (190, undef), (191, undef)] ?_
           refine T_gs 15 (some 192) (bv 27 65535) [(0, .string (runesStr rs)), (1, vi (Int.tmod (iand .i64 atv 65535) (IntKind.wrap .i64 ((d : Int) + 1)))), (5, vp ra), (7, vs sl d g), (8, vu e), (18, vu j), (20, vu f), (187, .bool true), (192, undef)] ?_
           refine T_gp 16 (some 193) (.bool true) (bv 27 131071) [(0, .string (runesStr rs)), (1, vi (Int.tmod (iand .i64 atv 65535) (IntKind.wrap .i64 ((d : Int) + 1)))), (5, vp ra), (7, vs sl d g), (8, vu e), (18, vu j), (20, vu f), (193, .bool true)] ?_
           refine T_gp 17 (some 194) (.bool true) (bv 27 262143) [(0, .string (runesStr rs)), (1, vi (Int.tmod (iand .i64 atv 65535) (IntKind.wrap .i64 ((d : Int) + 1)))), (5, vp ra), (7, vs sl d g), (8, vu e), (18, vu j), (20, vu f), (194, .bool true)] ?_
           refine T_gs 18 (some 195) (bv 27 524287) [(0, .string (runesStr rs)), (1, vi (Int.tmod (iand .i64 atv 65535) (IntKind.wrap .i64 ((d : Int) + 1)))), (5, vp ra), (7, vs sl d g), (8, vu e), (18, vu j), (20, vu f), (194, .bool true), (195, undef)] ?_
           refine T_gs 19 (some 196) (bv 27 1048575) [(0, .string (runesStr rs)), (1, vi (Int.tmod (iand .i64 atv 65535) (IntKind.wrap .i64 ((d : Int) + 1)))), (5, vp ra), (7, vs sl d g), (8, vu e), (20, vu f), (194, .bool true), (195, undef), (196, undef)] ?_
           refine T_gs 20 (some 197) (bv 27 2097151) [(0, .string (runesStr rs)), (1, vi (Int.tmod (iand .i64 atv 65535) (IntKind.wrap .i64 ((d : Int) + 1)))), (5, vp ra), (7, vs sl d g), (8, vu e), (20, vu f), (194, .bool true), (197, undef)] ?_
           refine T_gs 21 (some 198) (bv 27 4194303) [(0, .string (runesStr rs)), (1, vi (Int.tmod (iand .i64 atv 65535) (IntKind.wrap .i64 ((d : Int) + 1)))), (5, vp ra), (7, vs sl d g), (8, vu e), (20, vu f), (194, .bool true), (197, undef), (198, undef)] ?_
           refine T_gs 22 (some 199) (bv 27 8388607) [(0, .string (runesStr rs)), (5, vp ra), (7, vs sl d g), (8, vu e), (20, vu f), (194, .bool true), (197, undef), (198, undef), (199, undef)] ?_
           refine T_gs 23 (some 200) (bv 27 16777215) [(0, .string (runesStr rs)), (5, vp ra), (7, vs sl d g), (8, vu e), (20, vu f), (194, .bool true), (197, undef), (200, undef)] ?_
           refine T_gs 24 (some 201) (bv 27 33554431) [(0, .string (runesStr rs)), (5, vp ra), (7, vs sl d g), (8, vu e), (20, vu f), (194, .bool true), (197, undef), (201, undef)] ?_
           refine T_gs 25 (some 202) (bv 27 67108863) [(0, .string (runesStr rs)), (5, vp ra), (7, vs sl d g), (8, vu e), (20, vu f), (194, .bool true), (202, undef)] ?_
           refine T_gp 26 (some 203) (.bool true) (bv 27 134217727) [(0, .string (runesStr rs)), (5, vp ra), (7, vs sl d g), (8, vu e), (20, vu f), (203, .bool true)] ?_
           refine G_sub [(0, .string (runesStr rs)), (5, vp ra), (7, vs sl d g), (8, vu e), (20, vu f), (203, .bool true)] sk ?_
           refine G_end (by kernel_rfl) ?_
           refine S_then ?_
           exact S_meet (true : Bool) sk h
          rw [if_neg c39] at h
          have b40 : (ba != (d : Int)) = true := bne_iff_ne.mpr c39
          refine T_cT 138 K39 K40 b40 ?_
          refine T_sr 15 K100 K101 ?_
          refine T_ne 1 [(4, .bool false)] ?_
          exact T_ret [4] [.bool false] hQ h
         rw [if_neg c37] at h
         have b38 : (!(bb.toList == (runesStr rs).toList)) = true := congrArg Bool.not (beq_eq_false_iff_ne.mpr c37)
         refine N_env [(0, .string (runesStr rs)), (1, vi atv), (5, vp ra), (7, vs sl d g), (8, vu e), (14, vu z), (131, .bool true)] (by rw [b38]) ?_
         clear b38
         refine T_ne 7 [(0, .string (runesStr rs)), (1, vi atv), (5, vp ra), (7, vs sl d g), (8, vu e), (138, .bool true)] ?_
         refine T_t 138 K39 K40 ?_
         refine T_sr 15 K100 K101 ?_
         refine T_ne 1 [(4, .bool false)] ?_
         exact T_ret [4] [.bool false] hQ h
        rw [if_neg c35] at h
        have b36 : (!am) = true := congrArg Bool.not (eq_false_of_ne_true c35)
        have b362 : am = false := eq_false_of_ne_true c35
        refine N_env [(0, .string (runesStr rs)), (1, vi atv), (5, vp ra), (7, vs sl d g), (8, vu e), (14, vu z), (16, vu aq), (124, .bool true)] (by simp only [b36, b362, Bool.not_true, Bool.not_false]) ?_
        clear b36 b362
        refine T_ne 14 [(0, .string (runesStr rs)), (1, vi atv), (5, vp ra), (7, vs sl d g), (8, vu e), (138, .bool true)] ?_
        refine T_t 138 K39 K40 ?_
        refine T_sr 15 K100 K101 ?_
        refine T_ne 1 [(4, .bool false)] ?_
        exact T_ret [4] [.bool false] hQ h
       rw [if_neg c33] at h
       have b34 : (!ak) = true := congrArg Bool.not (eq_false_of_ne_true c33)
       have b342 : ak = false := eq_false_of_ne_true c33
       refine N_env [(0, .string (runesStr rs)), (1, vi atv), (5, vp ra), (7, vs sl d g), (8, vu e), (14, vu z), (16, vu aq), (17, .bool am), (120, .bool true)] (by simp only [b34, b342, Bool.not_true, Bool.not_false]) ?_
       clear b34 b342
       refine T_ne 18 [(0, .string (runesStr rs)), (1, vi atv), (5, vp ra), (7, vs sl d g), (8, vu e), (138, .bool true)] ?_
       refine T_t 138 K39 K40 ?_
       refine T_sr 15 K100 K101 ?_
       refine T_ne 1 [(4, .bool false)] ?_
       exact T_ret [4] [.bool false] hQ h
      rw [if_neg c31] at h
      have b32 : (!aj) = true := congrArg Bool.not (eq_false_of_ne_true c31)
      have b322 : aj = false := eq_false_of_ne_true c31
      refine N_env [(0, .string (runesStr rs)), (1, vi atv), (5, vp ra), (7, vs sl d g), (8, vu e), (13, .bool ak), (14, vu z), (16, vu aq), (17, .bool am), (116, .bool true)] (by simp only [b32, b322, Bool.not_true, Bool.not_false]) ?_
      clear b32 b322
      refine T_ne 22 [(0, .string (runesStr rs)), (1, vi atv), (5, vp ra), (7, vs sl d g), (8, vu e), (138, .bool true)] ?_
      refine T_t 138 K39 K40 ?_
      refine T_sr 15 K100 K101 ?_
      refine T_ne 1 [(4, .bool false)] ?_
      exact T_ret [4] [.bool false] hQ h
     rw [if_neg c23] at h
     have b24 : (!(a8.toList == (runesStr rs).toList)) = true := congrArg Bool.not (beq_eq_false_iff_ne.mpr c23)
     refine T_cT 92 K27 K28 b24 ?_
     refine T_sr 10 K102 K103 ?_
     refine T_ne 1 [(4, .bool false)] ?_
     exact T_ret [4] [.bool false] hQ h
    rw [if_neg c21] at h
    have b22 : (!an) = true := congrArg Bool.not (eq_false_of_ne_true c21)
    have b222 : an = false := eq_false_of_ne_true c21
    refine N_env [(0, .string (runesStr rs)), (1, vi atv), (5, vp ra), (7, vs sl d g), (8, vu e), (10, vu aa), (12, vu ar), (86, .bool true)] (by simp only [b22, b222, Bool.not_true, Bool.not_false]) ?_
    clear b22 b222
    refine T_ne 6 [(0, .string (runesStr rs)), (1, vi atv), (5, vp ra), (7, vs sl d g), (8, vu e), (10, vu aa), (92, .bool true)] ?_
    refine T_t 92 K27 K28 ?_
    refine T_sr 10 K102 K103 ?_
    refine T_ne 1 [(4, .bool false)] ?_
    exact T_ret [4] [.bool false] hQ h
   rw [if_neg c19] at h
   have b20 : (!al) = true := congrArg Bool.not (eq_false_of_ne_true c19)
   have b202 : al = false := eq_false_of_ne_true c19
   refine N_env [(0, .string (runesStr rs)), (1, vi atv), (5, vp ra), (7, vs sl d g), (8, vu e), (10, vu aa), (12, vu ar), (13, .bool an), (82, .bool true)] (by simp only [b20, b202, Bool.not_true, Bool.not_false]) ?_
   clear b20 b202
   refine T_ne 10 [(0, .string (runesStr rs)), (1, vi atv), (5, vp ra), (7, vs sl d g), (8, vu e), (10, vu aa), (92, .bool true)] ?_
   refine T_t 92 K27 K28 ?_
   refine T_sr 10 K102 K103 ?_
   refine T_ne 1 [(4, .bool false)] ?_
   exact T_ret [4] [.bool false] hQ h
  rw [if_neg c17] at h
  have b18 : (ah != 0) = true := bne_iff_ne.mpr c17
  refine N_env [(0, .string (runesStr rs)), (1, vi atv), (5, vp ra), (7, vs sl d g), (8, vu e), (10, vu aa), (11, .bool al), (12, vu ar), (13, .bool an), (78, .bool true)] (by rw [b18]) ?_
  clear b18
  refine T_ne 14 [(0, .string (runesStr rs)), (1, vi atv), (5, vp ra), (7, vs sl d g), (8, vu e), (10, vu aa), (92, .bool true)] ?_
  refine T_t 92 K27 K28 ?_
  refine T_sr 10 K102 K103 ?_
  refine T_ne 1 [(4, .bool false)] ?_
  exact T_ret [4] [.bool false] hQ h
 intro hk
 refine T_n 3 [(0, .string s), (1, vi atv), (5, vp ra), (6, vi rb), (7, vs sl d g), (39, .bool (rb != 0))] ?_
 by_cases c1 : rb = 0
 ·have b2 : (rb != 0) = false := bne_eq_false_iff_eq.mpr c1
  refine N_env [(0, .string s), (1, vi atv), (5, vp ra), (6, vi rb), (7, vs sl d g), (39, .bool false)] (by rw [b2]) ?_
  refine T_n 5 [(0, .string s), (1, vi atv), (5, vp ra), (6, vi rb), (7, vs sl d g), (44, .bool (decide ((s.size : Int) > 1000)))] ?_
  by_cases c3 : (s.size : Int) > 1000
  ·have b4 : (decide ((s.size : Int) > 1000)) = true := decide_eq_true c3
   refine N_env [(0, .string s), (1, vi atv), (5, vp ra), (6, vi rb), (7, vs sl d g), (44, .bool true)] (by rw [b4]) ?_
   refine T_n 4 [(0, .string s), (1, vi atv), (5, vp ra), (6, vi rb), (7, vs sl d g), (48, .bool true)] ?_
   refine N_end (by kernel_rfl) ?_
   refine S_env [(0, .string s), (1, vi atv), (5, vp ra), (6, vi rb), (7, vs sl d g), (48, .bool (((rb != 0) || (decide ((s.size : Int) > 1000))) || (decide ((d : Int) > 62))))] (by simp only [b2, b4, BL]) ?_
   exact hk
  have b4 : (decide ((s.size : Int) > 1000)) = false := decide_eq_false c3
  refine N_env [(0, .string s), (1, vi atv), (5, vp ra), (6, vi rb), (7, vs sl d g), (44, .bool false)] (by rw [b4]) ?_
  refine T_n 4 [(0, .string s), (1, vi atv), (5, vp ra), (6, vi rb), (7, vs sl d g), (48, .bool (decide ((d : Int) > 62)))] ?_
  refine N_end (by kernel_rfl) ?_
  refine S_env [(0, .string s), (1, vi atv), (5, vp ra), (6, vi rb), (7, vs sl d g), (48, .bool (((rb != 0) || (decide ((s.size : Int) > 1000))) || (decide ((d : Int) > 62))))] (by simp only [b2, b4, BL]) ?_
  exact hk
 have b2 : (rb != 0) = true := bne_iff_ne.mpr c1
 refine N_env [(0, .string s), (1, vi atv), (5, vp ra), (6, vi rb), (7, vs sl d g), (39, .bool true)] (by rw [b2]) ?_
 refine T_n 9 [(0, .string s), (1, vi atv), (5, vp ra), (6, vi rb), (7, vs sl d g), (48, .bool true)] ?_
 refine N_end (by kernel_rfl) ?_
 refine S_env [(0, .string s), (1, vi atv), (5, vp ra), (6, vi rb), (7, vs sl d g), (48, .bool (((rb != 0) || (decide ((s.size : Int) > 1000))) || (decide ((d : Int) > 62))))] (by simp only [b2, BL]) ?_
 exact hk
end morainelaw23_TextsBack

end Go.Proofs.YthlohokmnajpoaaGreatDoor
