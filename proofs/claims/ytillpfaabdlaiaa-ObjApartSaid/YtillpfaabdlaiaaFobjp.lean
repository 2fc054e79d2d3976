/-
 Written by a program of mine (gen.py): for functions of this translation a predicate transformer over heaps (.pt), and the proof that it is sound for the call (.link).
-/
import Derived.Test.YtillpfaabdlaiaaFnsC
set_option linter.unusedSimpArgs false
set_option linter.unusedVariables false
set_option maxHeartbeats 1000000
noncomputable section
namespace Go.Proofs.Ytillpfaabdlaiaa
open Go
/-! (*moraine/obj.Heap).Cons -/
namespace obj_Heap_Cons
def kk0 := Func.code Try.f7
def kk1 := Code.fa kk0
def kk2 := Code.fb kk0
def kk3 := Code.fa kk2
def kk4 := Code.fb kk2
end obj_Heap_Cons
def obj_Heap_Cons.pt (hv : Option Addr) (car : Int) (cdr : Int) (H : Array Obj) (R : Value → Array Obj → Prop) : Prop :=
 ∀ (b : Nat) (H1 : Array Obj), b = H.size → H1 = H.push (.cells #[.int .u64 car, .int .u64 cdr] 32) →
 obj_Heap_put.C hv 0 1 (some (Addr.mk b 0 none)) 2 2 H1 (fun v H2 => ∃ ra : Int, ∃ rb : Int, v = .tuple #[.int .u64 ra, .int .i64 rb] ∧ 
 R (.tuple #[.int .u64 ra, .int .i64 rb]) H2)
namespace obj_Heap_Cons
set_option maxRecDepth 100000 in
theorem link {hv : Option Addr} {car : Int} {cdr : Int} {H : Array Obj} {R : Value → Array Obj → Prop} (h : pt hv car cdr H R) : C hv car cdr H R := by
 refine S_enter (fn := Try.f7) (c := kk0) 15 Try.func7 (by kernel_rfl) (by kernel_rfl) (Nat.le_of_ble_eq_true (by kernel_rfl)) ?_
 intro w0 Q hQ
 unfold pt at h
 refine T_su [(0, vp hv), (1, vu car), (2, vu cdr)] ?_
 refine T_sr 0 kk1 kk2 ?_
 refine T_ne 2 [(0, vp hv), (1, vu car), (2, vu cdr)] ?_
 refine T_sr 1 kk3 kk4 ?_
 refine T_n 3 [(8, vp hv), (9, vu car), (10, vu cdr)] ?_
 refine N_new (some 11) (fun b => vs (pa b) 2 2) (.cells #[vu car, vu cdr] 32) (fun _=>by kernel_rfl) ?_
 intro b H1 e1 e2
 replace h := h b H1 e1 e2
 refine ⟨[(8, vp hv), (11, vs (pa b) 2 2)], pk, ?_⟩
 refine N_call (some 12) 24 #[vp hv, vi 0, vi 1, vs (pa b) 2 2] (fun _=>by kernel_rfl) h ?_; clear h
 rintro v H2 ⟨ra, rb, rfl, h⟩
 refine ⟨[(12, .tuple #[vu ra, vi rb])], pk, ?_⟩
 refine T_ne 4 [(6, vu ra), (7, vi rb)] ?_
 refine S_ret (by kernel_rfl) ?_
 show At _ _ _ _ _ (Q .ret)
 exact S_done (fn := Try.f7) [vu ra, vi rb] hQ (show ResOK _ _ _ [.tmp 6, .tmp 7] _ from .tmp (by kernel_rfl) (.tmp (by kernel_rfl) (.nil))) h
end obj_Heap_Cons

/-! (*moraine/obj.Heap).Weak -/
namespace obj_Heap_Weak
def kk0 := Func.code Try.f9
def kk1 := Code.fa kk0
def kk2 := Code.fb kk0
def kk3 := Code.fa kk2
def kk4 := Code.fb kk2
end obj_Heap_Weak
def obj_Heap_Weak.pt (hv : Option Addr) (car : Int) (cdr : Int) (H : Array Obj) (R : Value → Array Obj → Prop) : Prop :=
 ∀ (b : Nat) (H1 : Array Obj), b = H.size → H1 = H.push (.cells #[.int .u64 car, .int .u64 cdr] 32) →
 obj_Heap_put.C hv 1 2 (some (Addr.mk b 0 none)) 2 2 H1 (fun v H2 => ∃ ra : Int, ∃ rb : Int, v = .tuple #[.int .u64 ra, .int .i64 rb] ∧ 
 R (.tuple #[.int .u64 ra, .int .i64 rb]) H2)
namespace obj_Heap_Weak
set_option maxRecDepth 100000 in
theorem link {hv : Option Addr} {car : Int} {cdr : Int} {H : Array Obj} {R : Value → Array Obj → Prop} (h : pt hv car cdr H R) : C hv car cdr H R := by
 refine S_enter (fn := Try.f9) (c := kk0) 15 Try.func9 (by kernel_rfl) (by kernel_rfl) (Nat.le_of_ble_eq_true (by kernel_rfl)) ?_
 intro w0 Q hQ
 unfold pt at h
 refine T_su [(0, vp hv), (1, vu car), (2, vu cdr)] ?_
 refine T_sr 0 kk1 kk2 ?_
 refine T_ne 2 [(0, vp hv), (1, vu car), (2, vu cdr)] ?_
 refine T_sr 1 kk3 kk4 ?_
 refine T_n 3 [(8, vp hv), (9, vu car), (10, vu cdr)] ?_
 refine N_new (some 11) (fun b => vs (pa b) 2 2) (.cells #[vu car, vu cdr] 32) (fun _=>by kernel_rfl) ?_
 intro b H1 e1 e2
 replace h := h b H1 e1 e2
 refine ⟨[(8, vp hv), (11, vs (pa b) 2 2)], pk, ?_⟩
 refine N_call (some 12) 24 #[vp hv, vi 1, vi 2, vs (pa b) 2 2] (fun _=>by kernel_rfl) h ?_; clear h
 rintro v H2 ⟨ra, rb, rfl, h⟩
 refine ⟨[(12, .tuple #[vu ra, vi rb])], pk, ?_⟩
 refine T_ne 4 [(6, vu ra), (7, vi rb)] ?_
 refine S_ret (by kernel_rfl) ?_
 show At _ _ _ _ _ (Q .ret)
 exact S_done (fn := Try.f9) [vu ra, vi rb] hQ (show ResOK _ _ _ [.tmp 6, .tmp 7] _ from .tmp (by kernel_rfl) (.tmp (by kernel_rfl) (.nil))) h
end obj_Heap_Weak

/-! (*moraine/obj.Heap).Size -/
namespace obj_Heap_Size
def kk0 := Func.code Try.f15
def kk1 := Code.fa kk0
def kk2 := Code.fb kk0
def kk3 := Code.fa kk2
def kk4 := Code.fb kk2
def kk5 := Code.fa kk3
def kk6 := Code.fb kk3
def kk7 := Code.fa kk6
def kk8 := Code.fb kk6
def kk9 := Code.fa kk7
def kk10 := Code.fb kk7
def kk11 := Code.fa kk4
def kk12 := Code.fb kk4
def kk13 := Code.fa kk11
def kk14 := Code.fb kk11
def kk15 := Code.fa kk14
def kk16 := Code.fb kk14
def kk17 := Code.fa kk16
def kk18 := Code.fb kk16
def kk19 := Code.fa kk17
def kk20 := Code.fb kk17
def kk21 := Code.fa kk12
def kk22 := Code.fb kk12
end obj_Heap_Size
def obj_Heap_Size.pt (hv : Option Addr) (wv : Int) (H : Array Obj) (R : Value → Array Obj → Prop) : Prop :=
 obj_Heap_Pair.C hv wv H (fun v H1 => ∃ x : Bool, v = .bool x ∧ 
 if x = true then (
 R (.int .i64 2) H1)
 else
 obj_Heap_object.C hv wv H1 (fun a H2 => ∃ ra : Int, ∃ rb : Int, ∃ rc : Int, ∃ rd : Int, ∃ re : Bool, a = .tuple #[.int .i64 ra, .int .i64 rb, .int .i64 rc, .int .u64 rd, .bool re] ∧ 
 if re = true then (
 R (.int .i64 (IntKind.wrap .i64 (rc + 1))) H2)
 else
 R (.int .i64 0) H2))
namespace obj_Heap_Size
set_option maxRecDepth 100000 in
theorem link {hv : Option Addr} {wv : Int} {H : Array Obj} {R : Value → Array Obj → Prop} (h : pt hv wv H R) : C hv wv H R := by
 refine S_enter (fn := Try.f15) (c := kk0) 25 Try.func15 (by kernel_rfl) (by kernel_rfl) (Nat.le_of_ble_eq_true (by kernel_rfl)) ?_
 intro w0 Q hQ
 unfold pt at h
 refine T_su [(0, vp hv), (1, vu wv)] ?_
 refine T_sr 0 kk1 kk2 ?_
 refine T_ne 1 [(0, vp hv), (1, vu wv)] ?_
 refine T_s kk3 kk4 ?_
 refine T_sr 1 kk5 kk6 ?_
 refine T_n 2 [(0, vp hv), (1, vu wv), (10, vp hv), (11, vu wv)] ?_
 refine N_call (some 12) 31 #[vp hv, vu wv] (fun _=>by kernel_rfl) h ?_; clear h
 rintro v H1 ⟨x, rfl, h⟩
 refine ⟨[(0, vp hv), (1, vu wv), (12, .bool x)], pk, ?_⟩
 refine T_e ?_
 by_cases c1 : x = true
 ·rw [if_pos c1] at h
  have b2 : x = true := c1
  refine S_env [(0, vp hv), (1, vu wv), (12, .bool true)] (by simp only [b2, Bool.not_true, Bool.not_false]) ?_
  clear b2
  refine T_t 12 kk7 kk8 ?_
  refine T_sr 2 kk9 kk10 ?_
  refine T_ne 1 [(4, vi 2)] ?_
  refine S_ret (by kernel_rfl) ?_
  show At _ _ _ _ _ (Q .ret)
  exact S_done (fn := Try.f15) [vi 2] hQ (show ResOK _ _ _ [.tmp 4] _ from .tmp (by kernel_rfl) (.nil)) h
 ·rw [if_neg c1] at h
  have b2 : x = false := eq_false_of_ne_true c1
  refine S_env [(0, vp hv), (1, vu wv), (12, .bool false)] (by simp only [b2, Bool.not_true, Bool.not_false]) ?_
  clear b2
  refine T_f 12 kk7 kk8 ?_
  refine T_kt ?_
  refine T_s kk11 kk12 ?_
  refine T_sr 3 kk13 kk14 ?_
  refine T_n 2 [(14, vp hv), (15, vu wv)] ?_
  refine N_call (some 16) 32 #[vp hv, vu wv] (fun _=>by kernel_rfl) h ?_; clear h
  rintro a H2 ⟨ra, rb, rc, rd, re, rfl, h⟩
  refine ⟨[(16, .tuple #[vi ra, vi rb, vi rc, vu rd, .bool re])], pk, ?_⟩
  refine T_ne 11 [(7, vi rc), (9, .bool re)] ?_
  refine T_sr 4 kk15 kk16 ?_
  refine T_ne 1 [(7, vi rc), (22, .bool re)] ?_
  by_cases c3 : re = true
  ·rw [if_pos c3] at h
   have b4 : re = true := c3
   refine S_env [(7, vi rc), (22, .bool true)] (by simp only [b4, Bool.not_true, Bool.not_false]) ?_
   clear b4
   refine T_t 22 kk17 kk18 ?_
   refine T_sr 5 kk19 kk20 ?_
   refine T_ne 3 [(4, vi (IntKind.wrap .i64 (rc + 1)))] ?_
   refine S_ret (by kernel_rfl) ?_
   show At _ _ _ _ _ (Q .ret)
   exact S_done (fn := Try.f15) [vi (IntKind.wrap .i64 (rc + 1))] hQ (show ResOK _ _ _ [.tmp 4] _ from .tmp (by kernel_rfl) (.nil)) h
  ·rw [if_neg c3] at h
   have b4 : re = false := eq_false_of_ne_true c3
   refine S_env [(7, vi rc), (22, .bool false)] (by simp only [b4, Bool.not_true, Bool.not_false]) ?_
   clear b4
   refine T_f 22 kk17 kk18 ?_
   refine T_kt ?_
   refine T_sr 6 kk21 kk22 ?_
   refine T_ne 1 [(4, vi 0)] ?_
   refine S_ret (by kernel_rfl) ?_
   show At _ _ _ _ _ (Q .ret)
   exact S_done (fn := Try.f15) [vi 0] hQ (show ResOK _ _ _ [.tmp 4] _ from .tmp (by kernel_rfl) (.nil)) h
end obj_Heap_Size

/-! (*moraine/obj.Heap).Car -/
namespace obj_Heap_Car
def kk0 := Func.code Try.f19
def kk1 := Code.fa kk0
def kk2 := Code.fb kk0
def kk3 := Code.fa kk2
def kk4 := Code.fb kk2
end obj_Heap_Car
def obj_Heap_Car.pt (hv : Option Addr) (wv : Int) (H : Array Obj) (R : Value → Array Obj → Prop) : Prop :=
 obj_Heap_half.C hv wv 0 H (fun v H1 => ∃ ra : Int, ∃ rb : Int, v = .tuple #[.int .u64 ra, .int .i64 rb] ∧ 
 R (.tuple #[.int .u64 ra, .int .i64 rb]) H1)
namespace obj_Heap_Car
set_option maxRecDepth 100000 in
theorem link {hv : Option Addr} {wv : Int} {H : Array Obj} {R : Value → Array Obj → Prop} (h : pt hv wv H R) : C hv wv H R := by
 refine S_enter (fn := Try.f19) (c := kk0) 11 Try.func19 (by kernel_rfl) (by kernel_rfl) (Nat.le_of_ble_eq_true (by kernel_rfl)) ?_
 intro w0 Q hQ
 unfold pt at h
 refine T_su [(0, vp hv), (1, vu wv)] ?_
 refine T_sr 0 kk1 kk2 ?_
 refine T_ne 2 [(0, vp hv), (1, vu wv)] ?_
 refine T_sr 1 kk3 kk4 ?_
 refine T_n 2 [(6, vp hv), (7, vu wv)] ?_
 refine N_call (some 8) 40 #[vp hv, vu wv, vi 0] (fun _=>by kernel_rfl) h ?_; clear h
 rintro v H1 ⟨ra, rb, rfl, h⟩
 refine ⟨[(8, .tuple #[vu ra, vi rb])], pk, ?_⟩
 refine T_ne 4 [(4, vu ra), (5, vi rb)] ?_
 refine S_ret (by kernel_rfl) ?_
 show At _ _ _ _ _ (Q .ret)
 exact S_done (fn := Try.f19) [vu ra, vi rb] hQ (show ResOK _ _ _ [.tmp 4, .tmp 5] _ from .tmp (by kernel_rfl) (.tmp (by kernel_rfl) (.nil))) h
end obj_Heap_Car

/-! (*moraine/obj.Heap).Cdr -/
namespace obj_Heap_Cdr
def kk0 := Func.code Try.f20
def kk1 := Code.fa kk0
def kk2 := Code.fb kk0
def kk3 := Code.fa kk2
def kk4 := Code.fb kk2
end obj_Heap_Cdr
def obj_Heap_Cdr.pt (hv : Option Addr) (wv : Int) (H : Array Obj) (R : Value → Array Obj → Prop) : Prop :=
 obj_Heap_half.C hv wv 1 H (fun v H1 => ∃ ra : Int, ∃ rb : Int, v = .tuple #[.int .u64 ra, .int .i64 rb] ∧ 
 R (.tuple #[.int .u64 ra, .int .i64 rb]) H1)
namespace obj_Heap_Cdr
set_option maxRecDepth 100000 in
theorem link {hv : Option Addr} {wv : Int} {H : Array Obj} {R : Value → Array Obj → Prop} (h : pt hv wv H R) : C hv wv H R := by
 refine S_enter (fn := Try.f20) (c := kk0) 11 Try.func20 (by kernel_rfl) (by kernel_rfl) (Nat.le_of_ble_eq_true (by kernel_rfl)) ?_
 intro w0 Q hQ
 unfold pt at h
 refine T_su [(0, vp hv), (1, vu wv)] ?_
 refine T_sr 0 kk1 kk2 ?_
 refine T_ne 2 [(0, vp hv), (1, vu wv)] ?_
 refine T_sr 1 kk3 kk4 ?_
 refine T_n 2 [(6, vp hv), (7, vu wv)] ?_
 refine N_call (some 8) 40 #[vp hv, vu wv, vi 1] (fun _=>by kernel_rfl) h ?_; clear h
 rintro v H1 ⟨ra, rb, rfl, h⟩
 refine ⟨[(8, .tuple #[vu ra, vi rb])], pk, ?_⟩
 refine T_ne 4 [(4, vu ra), (5, vi rb)] ?_
 refine S_ret (by kernel_rfl) ?_
 show At _ _ _ _ _ (Q .ret)
 exact S_done (fn := Try.f20) [vu ra, vi rb] hQ (show ResOK _ _ _ [.tmp 4, .tmp 5] _ from .tmp (by kernel_rfl) (.tmp (by kernel_rfl) (.nil))) h
end obj_Heap_Cdr

/-! (*moraine/obj.Heap).Pair -/
namespace obj_Heap_Pair
def kk0 := Func.code Try.f31
def kk1 := Code.fa kk0
def kk2 := Code.fb kk0
def kk3 := Code.fa kk2
def kk4 := Code.fb kk2
def kk5 := Code.fa kk4
def kk6 := Code.fb kk4
end obj_Heap_Pair
def obj_Heap_Pair.pt (hv : Option Addr) (wv : Int) (H : Array Obj) (R : Value → Array Obj → Prop) : Prop :=
 obj_Heap_pair.C hv wv H (fun v H1 => ∃ ra : Int, ∃ rb : Bool, v = .tuple #[.int .i64 ra, .bool rb] ∧ 
 R (.bool rb) H1)
namespace obj_Heap_Pair
set_option maxRecDepth 100000 in
theorem link {hv : Option Addr} {wv : Int} {H : Array Obj} {R : Value → Array Obj → Prop} (h : pt hv wv H R) : C hv wv H R := by
 refine S_enter (fn := Try.f31) (c := kk0) 14 Try.func31 (by kernel_rfl) (by kernel_rfl) (Nat.le_of_ble_eq_true (by kernel_rfl)) ?_
 intro w0 Q hQ
 unfold pt at h
 refine T_su [(0, vp hv), (1, vu wv)] ?_
 refine T_sr 0 kk1 kk2 ?_
 refine T_ne 1 [(0, vp hv), (1, vu wv)] ?_
 refine T_sr 1 kk3 kk4 ?_
 refine T_n 2 [(8, vp hv), (9, vu wv)] ?_
 refine N_call (some 10) 51 #[vp hv, vu wv] (fun _=>by kernel_rfl) h ?_; clear h
 rintro v H1 ⟨ra, rb, rfl, h⟩
 refine ⟨[(10, .tuple #[vi ra, .bool rb])], pk, ?_⟩
 refine T_ne 5 [(6, .bool rb)] ?_
 refine T_sr 2 kk5 kk6 ?_
 refine T_ne 2 [(4, .bool rb)] ?_
 refine S_ret (by kernel_rfl) ?_
 show At _ _ _ _ _ (Q .ret)
 exact S_done (fn := Try.f31) [.bool rb] hQ (show ResOK _ _ _ [.tmp 4] _ from .tmp (by kernel_rfl) (.nil)) h
end obj_Heap_Pair

/-! (*moraine/obj.Heap).half -/
namespace obj_Heap_half
def kk0 := Func.code Try.f40
def kk1 := Code.fa kk0
def kk2 := Code.fb kk0
def kk3 := Code.fa kk2
def kk4 := Code.fb kk2
def kk5 := Code.fa kk4
def kk6 := Code.fb kk4
def kk7 := Code.fa kk5
def kk8 := Code.fb kk5
def kk9 := Code.fa kk8
def kk10 := Code.fb kk8
def kk11 := Code.fa kk6
def kk12 := Code.fb kk6
def kk13 := Code.fa kk9
def kk14 := Code.fb kk9
end obj_Heap_half
def obj_Heap_half.pt (hv : Option Addr) (wv : Int) (i : Int) (H : Array Obj) (R : Value → Array Obj → Prop) : Prop :=
 obj_Heap_pair.C hv wv H (fun v H1 => ∃ ra : Int, ∃ rb : Bool, v = .tuple #[.int .i64 ra, .bool rb] ∧ 
 if rb = true then (
 ∃ e : Addr, hv = some e ∧
 ∃ x : Option Addr, hat H1 e = some (.pointer x) ∧
 ∃ xA : Addr, x = some xA ∧
 ∃ f : Option Addr, hat H1 xA = some (.pointer f) ∧
 ∃ g : Addr, f = some g ∧
 ∃ d : Option Addr, hat H1 g = some (.pointer d) ∧
 seg_Mem_Read.C d (IntKind.wrap .i64 (ra + i)) H1 (fun j H2 => ∃ a : Int, ∃ b : Int, j = .tuple #[.int .u64 a, .int .i64 b] ∧ 
 R (.tuple #[.int .u64 a, .int .i64 b]) H2))
 else
 R (.tuple #[.int .u64 0, .int .i64 3]) H1)
namespace obj_Heap_half
set_option maxRecDepth 100000 in
theorem link {hv : Option Addr} {wv : Int} {i : Int} {H : Array Obj} {R : Value → Array Obj → Prop} (h : pt hv wv i H R) : C hv wv i H R := by
 refine S_enter (fn := Try.f40) (c := kk0) 34 Try.func40 (by kernel_rfl) (by kernel_rfl) (Nat.le_of_ble_eq_true (by kernel_rfl)) ?_
 intro w0 Q hQ
 unfold pt at h
 refine T_su [(0, vp hv), (1, vu wv), (2, vi i)] ?_
 refine T_sr 0 kk1 kk2 ?_
 refine T_ne 2 [(0, vp hv), (1, vu wv), (2, vi i)] ?_
 refine T_sr 1 kk3 kk4 ?_
 refine T_n 2 [(0, vp hv), (2, vi i), (11, vp hv), (12, vu wv)] ?_
 refine N_call (some 13) 51 #[vp hv, vu wv] (fun _=>by kernel_rfl) h ?_; clear h
 rintro v H1 ⟨ra, rb, rfl, h⟩
 refine ⟨[(0, vp hv), (2, vi i), (13, .tuple #[vi ra, .bool rb])], pk, ?_⟩
 refine T_ne 5 [(0, vp hv), (2, vi i), (8, vi ra), (9, .bool rb)] ?_
 refine T_s kk5 kk6 ?_
 refine T_sr 2 kk7 kk8 ?_
 refine T_ne 2 [(0, vp hv), (2, vi i), (8, vi ra), (17, .bool (!rb))] ?_
 by_cases c1 : rb = true
 ·rw [if_pos c1] at h
  have b2 : (!rb) = false := congrArg Bool.not (c1)
  have b22 : rb = true := c1
  refine S_env [(0, vp hv), (2, vi i), (8, vi ra), (17, .bool false)] (by simp only [b2, b22, Bool.not_true, Bool.not_false]) ?_
  clear b2 b22
  refine T_f 17 kk9 kk10 ?_
  refine T_kt ?_
  refine T_sr 4 kk11 kk12 ?_
  refine T_n 1 [(2, vi i), (8, vi ra), (18, vp hv)] ?_
  obtain ⟨e, rfl, h⟩ := h
  refine T_n 2 [(2, vi i), (8, vi ra), (20, vp (some e))] ?_
  obtain ⟨x, q3, h⟩ := h
  refine T_l (some 21) 53 q3 [(2, vi i), (8, vi ra), (21, vp x)] ?_
  obtain ⟨xA, rfl, h⟩ := h
  refine T_n 2 [(2, vi i), (8, vi ra), (23, vp (some xA))] ?_
  obtain ⟨f, q4, h⟩ := h
  refine T_l (some 24) 58 q4 [(2, vi i), (8, vi ra), (24, vp f)] ?_
  obtain ⟨g, rfl, h⟩ := h
  refine T_n 2 [(2, vi i), (8, vi ra), (26, vp (some g))] ?_
  obtain ⟨d, q5, h⟩ := h
  refine T_l (some 27) 86 q5 [(2, vi i), (8, vi ra), (27, vp d)] ?_
  refine T_n 3 [(27, vp d), (30, vi (IntKind.wrap .i64 (ra + i)))] ?_
  refine N_call (some 31) 42 #[vp d, vi (IntKind.wrap .i64 (ra + i))] (fun _=>by kernel_rfl) h ?_; clear h
  rintro j H2 ⟨a, b, rfl, h⟩
  refine ⟨[(31, .tuple #[vu a, vi b])], pk, ?_⟩
  refine T_ne 4 [(6, vu a), (7, vi b)] ?_
  refine S_ret (by kernel_rfl) ?_
  show At _ _ _ _ _ (Q .ret)
  exact S_done (fn := Try.f40) [vu a, vi b] hQ (show ResOK _ _ _ [.tmp 6, .tmp 7] _ from .tmp (by kernel_rfl) (.tmp (by kernel_rfl) (.nil))) h
 ·rw [if_neg c1] at h
  have b2 : (!rb) = true := congrArg Bool.not (eq_false_of_ne_true c1)
  have b22 : rb = false := eq_false_of_ne_true c1
  refine S_env [(0, vp hv), (2, vi i), (8, vi ra), (17, .bool true)] (by simp only [b2, b22, Bool.not_true, Bool.not_false]) ?_
  clear b2 b22
  refine T_t 17 kk9 kk10 ?_
  refine T_sr 3 kk13 kk14 ?_
  refine T_ne 2 [(6, vu 0), (7, vi 3)] ?_
  refine S_ret (by kernel_rfl) ?_
  show At _ _ _ _ _ (Q .ret)
  exact S_done (fn := Try.f40) [vu 0, vi 3] hQ (show ResOK _ _ _ [.tmp 6, .tmp 7] _ from .tmp (by kernel_rfl) (.tmp (by kernel_rfl) (.nil))) h
end obj_Heap_half

/-! (*moraine/obj.Heap).pair -/
namespace obj_Heap_pair
def kk0 := Func.code Try.f51
def kk1 := Code.fa kk0
def kk2 := Code.fb kk0
def kk3 := Code.fa kk2
def kk4 := Code.fb kk2
def kk5 := Code.fa kk4
def kk6 := Code.fb kk4
def kk7 := Code.fa kk5
def kk8 := Code.fb kk5
def kk9 := Code.fa kk8
def kk10 := Code.fb kk8
def kk11 := Code.fa kk6
def kk12 := Code.fb kk6
end obj_Heap_pair
def obj_Heap_pair.pt (hv : Option Addr) (wv : Int) (H : Array Obj) (R : Value → Array Obj → Prop) : Prop :=
 obj_Heap_at.C hv wv 1 0 H (fun v H1 => ∃ ra : Int, ∃ rb : Bool, v = .tuple #[.int .i64 ra, .bool rb] ∧ 
 if rb = true then (
 R (.tuple #[.int .i64 ra, .bool ((Int.tmod ra 2) == 0)]) H1)
 else
 obj_Heap_at.C hv wv 2 1 H1 (fun d H2 => ∃ a : Int, ∃ b : Bool, d = .tuple #[.int .i64 a, .bool b] ∧ 
 R (.tuple #[.int .i64 a, .bool (b && ((Int.tmod a 2) == 0))]) H2))
namespace obj_Heap_pair
set_option maxRecDepth 100000 in
theorem link {hv : Option Addr} {wv : Int} {H : Array Obj} {R : Value → Array Obj → Prop} (h : pt hv wv H R) : C hv wv H R := by
 refine S_enter (fn := Try.f51) (c := kk0) 29 Try.func51 (by kernel_rfl) (by kernel_rfl) (Nat.le_of_ble_eq_true (by kernel_rfl)) ?_
 intro w0 Q hQ
 unfold pt at h
 refine T_su [(0, vp hv), (1, vu wv)] ?_
 refine T_sr 0 kk1 kk2 ?_
 refine T_ne 2 [(0, vp hv), (1, vu wv)] ?_
 refine T_sr 1 kk3 kk4 ?_
 refine T_n 2 [(0, vp hv), (1, vu wv), (9, vp hv), (10, vu wv)] ?_
 refine N_call (some 11) 52 #[vp hv, vu wv, vi 1, vi 0] (fun _=>by kernel_rfl) h ?_; clear h
 rintro v H1 ⟨ra, rb, rfl, h⟩
 refine ⟨[(0, vp hv), (1, vu wv), (11, .tuple #[vi ra, .bool rb])], pk, ?_⟩
 refine T_ne 5 [(0, vp hv), (1, vu wv), (6, vi ra), (7, .bool rb)] ?_
 refine T_s kk5 kk6 ?_
 refine T_sr 2 kk7 kk8 ?_
 refine T_ne 2 [(0, vp hv), (1, vu wv), (6, vi ra), (7, .bool rb), (15, .bool (!rb))] ?_
 by_cases c1 : rb = true
 ·rw [if_pos c1] at h
  have b2 : (!rb) = false := congrArg Bool.not (c1)
  have b22 : rb = true := c1
  refine S_env [(0, vp hv), (1, vu wv), (6, vi ra), (7, .bool true), (15, .bool false)] (by simp only [b2, b22, Bool.not_true, Bool.not_false]) ?_
  clear b2 b22
  refine T_f 15 kk9 kk10 ?_
  refine T_kt ?_
  refine T_sr 4 kk11 kk12 ?_
  refine T_ne 9 [(4, vi ra), (5, .bool ((Int.tmod ra 2) == 0))] ?_
  refine S_ret (by kernel_rfl) ?_
  show At _ _ _ _ _ (Q .ret)
  exact S_done (fn := Try.f51) [vi ra, .bool ((Int.tmod ra 2) == 0)] hQ (show ResOK _ _ _ [.tmp 4, .tmp 5] _ from .tmp (by kernel_rfl) (.tmp (by kernel_rfl) (.nil))) h
 ·rw [if_neg c1] at h
  have b2 : (!rb) = true := congrArg Bool.not (eq_false_of_ne_true c1)
  have b22 : rb = false := eq_false_of_ne_true c1
  refine S_env [(0, vp hv), (1, vu wv), (6, vi ra), (7, .bool false), (15, .bool true)] (by simp only [b2, b22, Bool.not_true, Bool.not_false]) ?_
  clear b2 b22
  refine T_t 15 kk9 kk10 ?_
  refine T_r 3 kk9 ?_
  refine T_n 2 [(17, vp hv), (18, vu wv)] ?_
  refine N_call (some 19) 52 #[vp hv, vu wv, vi 2, vi 1] (fun _=>by kernel_rfl) h ?_; clear h
  rintro d H2 ⟨a, b, rfl, h⟩
  refine ⟨[(19, .tuple #[vi a, .bool b])], pk, ?_⟩
  refine T_ne 5 [(6, vi a), (7, .bool b)] ?_
  refine T_sr 4 kk11 kk12 ?_
  refine N_cut [(4, vi a), (5, .bool (b && ((Int.tmod a 2) == 0)))] ?_ ?_
  ·refine S_then ?_
   refine S_ret (by kernel_rfl) ?_
   show At _ _ _ _ _ (Q .ret)
   exact S_done (fn := Try.f51) [vi a, .bool (b && ((Int.tmod a 2) == 0))] hQ (show ResOK _ _ _ [.tmp 4, .tmp 5] _ from .tmp (by kernel_rfl) (.tmp (by kernel_rfl) (.nil))) h
  ·intro hk
   refine T_n 3 [(6, vi a), (22, vi a), (24, .bool b)] ?_
   by_cases c3 : b = true
   ·have b4 : b = true := c3
    refine N_env [(6, vi a), (22, vi a), (24, .bool true)] (by simp only [b4, Bool.not_true, Bool.not_false]) ?_
    refine T_n 6 [(4, vi a), (5, .bool ((Int.tmod a 2) == 0))] ?_
    refine N_end (by kernel_rfl) ?_
    refine S_env [(4, vi a), (5, .bool (b && ((Int.tmod a 2) == 0)))] (by simp only [b4, Bool.true_or, Bool.false_or, Bool.or_true, Bool.or_false, Bool.true_and, Bool.false_and, Bool.and_true, Bool.and_false, Bool.not_true, Bool.not_false, cond_true, cond_false]) ?_
    exact hk
   ·have b4 : b = false := eq_false_of_ne_true c3
    refine N_env [(6, vi a), (22, vi a), (24, .bool false)] (by simp only [b4, Bool.not_true, Bool.not_false]) ?_
    refine T_n 6 [(4, vi a), (5, .bool false)] ?_
    refine N_end (by kernel_rfl) ?_
    refine S_env [(4, vi a), (5, .bool (b && ((Int.tmod a 2) == 0)))] (by simp only [b4, Bool.true_or, Bool.false_or, Bool.or_true, Bool.or_false, Bool.true_and, Bool.false_and, Bool.and_true, Bool.and_false, Bool.not_true, Bool.not_false, cond_true, cond_false]) ?_
    exact hk
end obj_Heap_pair

end Go.Proofs.Ytillpfaabdlaiaa
