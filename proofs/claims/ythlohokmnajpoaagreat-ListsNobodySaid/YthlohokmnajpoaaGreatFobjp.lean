/-
 Written by a program of mine (gen.py): for functions of this translation a predicate transformer over heaps (.pt), and the proof that it is sound for the call (.link).
-/
import Derived.Test.YthlohokmnajpoaaGreatFnsC
set_option linter.unusedSimpArgs false
set_option linter.unusedVariables false
set_option maxHeartbeats 1000000
noncomputable section
namespace Go.Proofs.YthlohokmnajpoaaGreat
open Go
/-! (*moraine/obj.Heap).Car -/
namespace obj_Heap_Car
def kk0 := Func.code Tryz.f9
def kk1 := Code.fa kk0
def kk2 := Code.fb kk0
def kk3 := Code.fa kk2
def kk4 := Code.fb kk2
end obj_Heap_Car
def obj_Heap_Car.pt (hv : Option Addr) (wv : Int) (H : Array Obj) (R : Value → Array Obj → Prop) : Prop :=
 obj_Heap_half.C hv wv 0 H (fun v H1 => ∃ ra : Int, ∃ rb : Int, v = .tuple #[.int .u64 ra, .int .i64 rb] ∧ 
 R (.tuple #[.int .u64 ra, .int .i64 rb]) H1)
namespace obj_Heap_Car
set_option maxRecDepth 100000 in
theorem link {hv : Option Addr} {wv : Int} {H : Array Obj} {R : Value → Array Obj → Prop} (h : pt hv wv H R) : C hv wv H R := by
 refine S_enter (fn := Tryz.f9) (c := kk0) 11 Tryz.func9 (by kernel_rfl) (by kernel_rfl) (Nat.le_of_ble_eq_true (by kernel_rfl)) ?_
 intro w0 Q hQ
 unfold pt at h
 refine S_sub [(0, .pointer hv), (1, .int .u64 wv)] (sb (by kernel_rfl)) ?_
 refine T_sr 0 kk1 kk2 ?_
 refine N_run 2 [(0, .pointer hv), (1, .int .u64 wv)] (fun _=>by kernel_rfl) ?_
 refine T_e ?_
 refine T_sr 1 kk3 kk4 ?_
 refine N_run 2 [(6, .pointer hv), (7, .int .u64 wv)] (fun _=>by kernel_rfl) ?_
 refine N_call (some 8) 29 #[.pointer hv, .int .u64 wv, .int .i64 0] (fun _=>by kernel_rfl) h ?_; clear h
 rintro v H1 ⟨ra, rb, rfl, h⟩
 refine ⟨[(8, .tuple #[.int .u64 ra, .int .i64 rb])], ps (by kernel_rfl), ?_⟩
 refine N_run 4 [(4, .int .u64 ra), (5, .int .i64 rb)] (fun _=>by kernel_rfl) ?_
 refine T_e ?_
 refine S_ret (by kernel_rfl) ?_
 show At _ _ _ _ _ (Q .ret)
 exact S_done (fn := Tryz.f9) [.int .u64 ra, .int .i64 rb] hQ (show ResOK _ _ _ [.tmp 4, .tmp 5] _ from .tmp (by kernel_rfl) (.tmp (by kernel_rfl) (.nil))) h
end obj_Heap_Car

/-! (*moraine/obj.Heap).Cons -/
namespace obj_Heap_Cons
def kk0 := Func.code Tryz.f11
def kk1 := Code.fa kk0
def kk2 := Code.fb kk0
def kk3 := Code.fa kk2
def kk4 := Code.fb kk2
end obj_Heap_Cons
def obj_Heap_Cons.pt (hv : Option Addr) (car : Int) (cdr : Int) (H : Array Obj) (R : Value → Array Obj → Prop) : Prop :=
 ∀ (b : Nat) (H1 : Array Obj), b = H.size → H1 = H.push (.cells #[.int .u64 car, .int .u64 cdr] 26) →
 obj_Heap_put.C hv 0 1 (some (Addr.mk b 0 none)) 2 2 H1 (fun v H2 => ∃ ra : Int, ∃ rb : Int, v = .tuple #[.int .u64 ra, .int .i64 rb] ∧ 
 R (.tuple #[.int .u64 ra, .int .i64 rb]) H2)
namespace obj_Heap_Cons
set_option maxRecDepth 100000 in
theorem link {hv : Option Addr} {car : Int} {cdr : Int} {H : Array Obj} {R : Value → Array Obj → Prop} (h : pt hv car cdr H R) : C hv car cdr H R := by
 refine S_enter (fn := Tryz.f11) (c := kk0) 15 Tryz.func11 (by kernel_rfl) (by kernel_rfl) (Nat.le_of_ble_eq_true (by kernel_rfl)) ?_
 intro w0 Q hQ
 unfold pt at h
 refine S_sub [(0, .pointer hv), (1, .int .u64 car), (2, .int .u64 cdr)] (sb (by kernel_rfl)) ?_
 refine T_sr 0 kk1 kk2 ?_
 refine N_run 2 [(0, .pointer hv), (1, .int .u64 car), (2, .int .u64 cdr)] (fun _=>by kernel_rfl) ?_
 refine T_e ?_
 refine T_sr 1 kk3 kk4 ?_
 refine N_run 3 [(8, .pointer hv), (9, .int .u64 car), (10, .int .u64 cdr)] (fun _=>by kernel_rfl) ?_
 refine N_new (some 11) (fun b => .slice (some (Addr.mk b 0 none)) 2 2) (.cells #[.int .u64 car, .int .u64 cdr] 26) (fun _=>by kernel_rfl) ?_
 intro b H1 e1 e2
 replace h := h b H1 e1 e2
 refine ⟨[(8, .pointer hv), (11, .slice (some (Addr.mk b 0 none)) 2 2)], ps (by kernel_rfl), ?_⟩
 refine N_call (some 12) 31 #[.pointer hv, .int .i64 0, .int .i64 1, .slice (some (Addr.mk b 0 none)) 2 2] (fun _=>by kernel_rfl) h ?_; clear h
 rintro v H2 ⟨ra, rb, rfl, h⟩
 refine ⟨[(12, .tuple #[.int .u64 ra, .int .i64 rb])], ps (by kernel_rfl), ?_⟩
 refine N_run 4 [(6, .int .u64 ra), (7, .int .i64 rb)] (fun _=>by kernel_rfl) ?_
 refine T_e ?_
 refine S_ret (by kernel_rfl) ?_
 show At _ _ _ _ _ (Q .ret)
 exact S_done (fn := Tryz.f11) [.int .u64 ra, .int .i64 rb] hQ (show ResOK _ _ _ [.tmp 6, .tmp 7] _ from .tmp (by kernel_rfl) (.tmp (by kernel_rfl) (.nil))) h
end obj_Heap_Cons

/-! (*moraine/obj.Heap).Cdr -/
namespace obj_Heap_Cdr
def kk0 := Func.code Tryz.f12
def kk1 := Code.fa kk0
def kk2 := Code.fb kk0
def kk3 := Code.fa kk2
def kk4 := Code.fb kk2
end obj_Heap_Cdr
def obj_Heap_Cdr.pt (hv : Option Addr) (wv : Int) (H : Array Obj) (R : Value → Array Obj → Prop) : Prop :=
 obj_Heap_half.C hv wv 1 H (fun v H1 => ∃ ra : Int, ∃ rb : Int, v = .tuple #[.int .u64 ra, .int .i64 rb] ∧ 
 R (.tuple #[.int .u64 ra, .int .i64 rb]) H1)
namespace obj_Heap_Cdr
set_option maxRecDepth 100000 in
theorem link {hv : Option Addr} {wv : Int} {H : Array Obj} {R : Value → Array Obj → Prop} (h : pt hv wv H R) : C hv wv H R := by
 refine S_enter (fn := Tryz.f12) (c := kk0) 11 Tryz.func12 (by kernel_rfl) (by kernel_rfl) (Nat.le_of_ble_eq_true (by kernel_rfl)) ?_
 intro w0 Q hQ
 unfold pt at h
 refine S_sub [(0, .pointer hv), (1, .int .u64 wv)] (sb (by kernel_rfl)) ?_
 refine T_sr 0 kk1 kk2 ?_
 refine N_run 2 [(0, .pointer hv), (1, .int .u64 wv)] (fun _=>by kernel_rfl) ?_
 refine T_e ?_
 refine T_sr 1 kk3 kk4 ?_
 refine N_run 2 [(6, .pointer hv), (7, .int .u64 wv)] (fun _=>by kernel_rfl) ?_
 refine N_call (some 8) 29 #[.pointer hv, .int .u64 wv, .int .i64 1] (fun _=>by kernel_rfl) h ?_; clear h
 rintro v H1 ⟨ra, rb, rfl, h⟩
 refine ⟨[(8, .tuple #[.int .u64 ra, .int .i64 rb])], ps (by kernel_rfl), ?_⟩
 refine N_run 4 [(4, .int .u64 ra), (5, .int .i64 rb)] (fun _=>by kernel_rfl) ?_
 refine T_e ?_
 refine S_ret (by kernel_rfl) ?_
 show At _ _ _ _ _ (Q .ret)
 exact S_done (fn := Tryz.f12) [.int .u64 ra, .int .i64 rb] hQ (show ResOK _ _ _ [.tmp 4, .tmp 5] _ from .tmp (by kernel_rfl) (.tmp (by kernel_rfl) (.nil))) h
end obj_Heap_Cdr

/-! (*moraine/obj.Heap).SetCar -/
namespace obj_Heap_half
def kk0 := Func.code Tryz.f29
def kk1 := Code.fa kk0
def kk2 := Code.fb kk0
def kk3 := Code.fa kk2
def kk4 := Code.fb kk2
def kk5 := Code.fa kk4
def kk6 := Code.fb kk4
def kk7 := Code.fa kk5
def kk8 := Code.fb kk5
def kk9 := Code.fa kk8
def kk10 := Code.fb kk8
def kk11 := Code.fa kk6
def kk12 := Code.fb kk6
def kk13 := Code.fa kk9
def kk14 := Code.fb kk9
end obj_Heap_half
def obj_Heap_half.pt (hv : Option Addr) (wv : Int) (i : Int) (H : Array Obj) (R : Value → Array Obj → Prop) : Prop :=
 obj_Heap_pair.C hv wv H (fun v H1 => ∃ ra : Int, ∃ rb : Bool, v = .tuple #[.int .i64 ra, .bool rb] ∧ 
 if rb = true then (
 ∃ hvA : Addr, hv = some hvA ∧
 ∃ x : Option Addr, hat H1 hvA = some (.pointer x) ∧
 ∃ xA : Addr, x = some xA ∧
 ∃ x_2 : Option Addr, hat H1 xA = some (.pointer x_2) ∧
 ∃ x2A : Addr, x_2 = some x2A ∧
 ∃ x_3 : Option Addr, hat H1 x2A = some (.pointer x_3) ∧
 seg_Mem_Read.C x_3 (IntKind.wrap .i64 (ra + i)) H1 (fun v_2 H2 => ∃ ra_2 : Int, ∃ rb_2 : Int, v_2 = .tuple #[.int .u64 ra_2, .int .i64 rb_2] ∧ 
 R (.tuple #[.int .u64 ra_2, .int .i64 rb_2]) H2))
 else
 R (.tuple #[.int .u64 0, .int .i64 3]) H1)
namespace obj_Heap_half
set_option maxRecDepth 100000 in
theorem link {hv : Option Addr} {wv : Int} {i : Int} {H : Array Obj} {R : Value → Array Obj → Prop} (h : pt hv wv i H R) : C hv wv i H R := by
 refine S_enter (fn := Tryz.f29) (c := kk0) 34 Tryz.func29 (by kernel_rfl) (by kernel_rfl) (Nat.le_of_ble_eq_true (by kernel_rfl)) ?_
 intro w0 Q hQ
 unfold pt at h
 refine S_sub [(0, .pointer hv), (1, .int .u64 wv), (2, .int .i64 i)] (sb (by kernel_rfl)) ?_
 refine T_sr 0 kk1 kk2 ?_
 refine N_run 2 [(0, .pointer hv), (1, .int .u64 wv), (2, .int .i64 i)] (fun _=>by kernel_rfl) ?_
 refine T_e ?_
 refine T_sr 1 kk3 kk4 ?_
 refine N_run 2 [(0, .pointer hv), (2, .int .i64 i), (11, .pointer hv), (12, .int .u64 wv)] (fun _=>by kernel_rfl) ?_
 refine N_call (some 13) 50 #[.pointer hv, .int .u64 wv] (fun _=>by kernel_rfl) h ?_; clear h
 rintro v H1 ⟨ra, rb, rfl, h⟩
 refine ⟨[(0, .pointer hv), (2, .int .i64 i), (13, .tuple #[.int .i64 ra, .bool rb])], ps (by kernel_rfl), ?_⟩
 refine N_run 5 [(0, .pointer hv), (2, .int .i64 i), (8, .int .i64 ra), (9, .bool rb)] (fun _=>by kernel_rfl) ?_
 refine T_e ?_
 refine S_seq kk5 kk6 (by kernel_rfl) ?_
 refine T_sr 2 kk7 kk8 ?_
 refine N_run 2 [(0, .pointer hv), (2, .int .i64 i), (8, .int .i64 ra), (17, .bool (!rb))] (fun _=>by kernel_rfl) ?_
 refine T_e ?_
 by_cases c1 : rb = true
 ·rw [if_pos c1] at h
  have b2 : (!rb) = false := congrArg Bool.not (c1)
  have b22 : rb = true := c1
  refine S_env [(0, .pointer hv), (2, .int .i64 i), (8, .int .i64 ra), (17, .bool false)] (by simp only [b2, b22, Bool.not_true, Bool.not_false]) ?_
  clear b2 b22
  refine S_condF (.tmp 17) kk9 kk10 (by kernel_rfl) (by kernel_rfl) ?_
  refine S_skip (by kernel_rfl) ?_
  refine S_then ?_
  refine T_sr 4 kk11 kk12 ?_
  refine N_run 1 [(2, .int .i64 i), (8, .int .i64 ra), (18, .pointer hv)] (fun _=>by kernel_rfl) ?_
  obtain ⟨hvA, rfl, h⟩ := h
  refine N_run 2 [(2, .int .i64 i), (8, .int .i64 ra), (20, .pointer (some hvA))] (fun _=>by kernel_rfl) ?_
  obtain ⟨x, q3, h⟩ := h
  refine N_val (some 21) (loadN 30 (.pointer (some hvA))) (.pointer x) (fun _=>by kernel_rfl) (loadN_run (loadOK_one (fun _=>by kernel_rfl) q3)) [(2, .int .i64 i), (8, .int .i64 ra), (21, .pointer x)] (ps (by kernel_rfl)) ?_
  obtain ⟨xA, rfl, h⟩ := h
  refine N_run 2 [(2, .int .i64 i), (8, .int .i64 ra), (23, .pointer (some xA))] (fun _=>by kernel_rfl) ?_
  obtain ⟨x_2, q4, h⟩ := h
  refine N_val (some 24) (loadN 39 (.pointer (some xA))) (.pointer x_2) (fun _=>by kernel_rfl) (loadN_run (loadOK_one (fun _=>by kernel_rfl) q4)) [(2, .int .i64 i), (8, .int .i64 ra), (24, .pointer x_2)] (ps (by kernel_rfl)) ?_
  obtain ⟨x2A, rfl, h⟩ := h
  refine N_run 2 [(2, .int .i64 i), (8, .int .i64 ra), (26, .pointer (some x2A))] (fun _=>by kernel_rfl) ?_
  obtain ⟨x_3, q5, h⟩ := h
  refine N_val (some 27) (loadN 68 (.pointer (some x2A))) (.pointer x_3) (fun _=>by kernel_rfl) (loadN_run (loadOK_one (fun _=>by kernel_rfl) q5)) [(2, .int .i64 i), (8, .int .i64 ra), (27, .pointer x_3)] (ps (by kernel_rfl)) ?_
  refine N_run 3 [(27, .pointer x_3), (30, .int .i64 (IntKind.wrap .i64 (ra + i)))] (fun _=>by kernel_rfl) ?_
  refine N_call (some 31) 51 #[.pointer x_3, .int .i64 (IntKind.wrap .i64 (ra + i))] (fun _=>by kernel_rfl) h ?_; clear h
  rintro v_2 H2 ⟨ra_2, rb_2, rfl, h⟩
  refine ⟨[(31, .tuple #[.int .u64 ra_2, .int .i64 rb_2])], ps (by kernel_rfl), ?_⟩
  refine N_run 4 [(6, .int .u64 ra_2), (7, .int .i64 rb_2)] (fun _=>by kernel_rfl) ?_
  refine T_e ?_
  refine S_ret (by kernel_rfl) ?_
  show At _ _ _ _ _ (Q .ret)
  exact S_done (fn := Tryz.f29) [.int .u64 ra_2, .int .i64 rb_2] hQ (show ResOK _ _ _ [.tmp 6, .tmp 7] _ from .tmp (by kernel_rfl) (.tmp (by kernel_rfl) (.nil))) h
 ·rw [if_neg c1] at h
  have b2 : (!rb) = true := congrArg Bool.not (eq_false_of_ne_true c1)
  have b22 : rb = false := eq_false_of_ne_true c1
  refine S_env [(0, .pointer hv), (2, .int .i64 i), (8, .int .i64 ra), (17, .bool true)] (by simp only [b2, b22, Bool.not_true, Bool.not_false]) ?_
  clear b2 b22
  refine S_condT (.tmp 17) kk9 kk10 (by kernel_rfl) (by kernel_rfl) ?_
  refine T_sr 3 kk13 kk14 ?_
  refine N_run 2 [(6, .int .u64 0), (7, .int .i64 3)] (fun _=>by kernel_rfl) ?_
  refine T_e ?_
  refine S_ret (by kernel_rfl) ?_
  show At _ _ _ _ _ (Q .ret)
  exact S_done (fn := Tryz.f29) [.int .u64 0, .int .i64 3] hQ (show ResOK _ _ _ [.tmp 6, .tmp 7] _ from .tmp (by kernel_rfl) (.tmp (by kernel_rfl) (.nil))) h
end obj_Heap_half

/-! (*moraine/obj.Heap).set -/
namespace obj_Heap_Pair
def kk0 := Func.code Tryz.f40
def kk1 := Code.fa kk0
def kk2 := Code.fb kk0
def kk3 := Code.fa kk2
def kk4 := Code.fb kk2
def kk5 := Code.fa kk4
def kk6 := Code.fb kk4
end obj_Heap_Pair
def obj_Heap_Pair.pt (hv : Option Addr) (wv : Int) (H : Array Obj) (R : Value → Array Obj → Prop) : Prop :=
 obj_Heap_pair.C hv wv H (fun v H1 => ∃ ra : Int, ∃ rb : Bool, v = .tuple #[.int .i64 ra, .bool rb] ∧ 
 R (.bool rb) H1)
namespace obj_Heap_Pair
set_option maxRecDepth 100000 in
theorem link {hv : Option Addr} {wv : Int} {H : Array Obj} {R : Value → Array Obj → Prop} (h : pt hv wv H R) : C hv wv H R := by
 refine S_enter (fn := Tryz.f40) (c := kk0) 14 Tryz.func40 (by kernel_rfl) (by kernel_rfl) (Nat.le_of_ble_eq_true (by kernel_rfl)) ?_
 intro w0 Q hQ
 unfold pt at h
 refine S_sub [(0, .pointer hv), (1, .int .u64 wv)] (sb (by kernel_rfl)) ?_
 refine T_sr 0 kk1 kk2 ?_
 refine N_run 1 [(0, .pointer hv), (1, .int .u64 wv)] (fun _=>by kernel_rfl) ?_
 refine T_e ?_
 refine T_sr 1 kk3 kk4 ?_
 refine N_run 2 [(8, .pointer hv), (9, .int .u64 wv)] (fun _=>by kernel_rfl) ?_
 refine N_call (some 10) 50 #[.pointer hv, .int .u64 wv] (fun _=>by kernel_rfl) h ?_; clear h
 rintro v H1 ⟨ra, rb, rfl, h⟩
 refine ⟨[(10, .tuple #[.int .i64 ra, .bool rb])], ps (by kernel_rfl), ?_⟩
 refine N_run 5 [(6, .bool rb)] (fun _=>by kernel_rfl) ?_
 refine T_e ?_
 refine T_sr 2 kk5 kk6 ?_
 refine N_run 2 [(4, .bool rb)] (fun _=>by kernel_rfl) ?_
 refine T_e ?_
 refine S_ret (by kernel_rfl) ?_
 show At _ _ _ _ _ (Q .ret)
 exact S_done (fn := Tryz.f40) [.bool rb] hQ (show ResOK _ _ _ [.tmp 4] _ from .tmp (by kernel_rfl) (.nil)) h
end obj_Heap_Pair

/-! (*moraine/obj.Heap).pair -/
namespace obj_Heap_pair
def kk0 := Func.code Tryz.f50
def kk1 := Code.fa kk0
def kk2 := Code.fb kk0
def kk3 := Code.fa kk2
def kk4 := Code.fb kk2
def kk5 := Code.fa kk4
def kk6 := Code.fb kk4
def kk7 := Code.fa kk5
def kk8 := Code.fb kk5
def kk9 := Code.fa kk8
def kk10 := Code.fb kk8
def kk11 := Code.fa kk6
def kk12 := Code.fb kk6
end obj_Heap_pair
def obj_Heap_pair.pt (hv : Option Addr) (wv : Int) (H : Array Obj) (R : Value → Array Obj → Prop) : Prop :=
 obj_Heap_at.C hv wv 1 0 H (fun v H1 => ∃ ra : Int, ∃ rb : Bool, v = .tuple #[.int .i64 ra, .bool rb] ∧ 
 if rb = true then (
 R (.tuple #[.int .i64 ra, .bool ((Int.tmod ra 2) == 0)]) H1)
 else
 obj_Heap_at.C hv wv 2 1 H1 (fun v_2 H2 => ∃ ra_2 : Int, ∃ rb_2 : Bool, v_2 = .tuple #[.int .i64 ra_2, .bool rb_2] ∧ 
 R (.tuple #[.int .i64 ra_2, .bool (rb_2 && ((Int.tmod ra_2 2) == 0))]) H2))
namespace obj_Heap_pair
set_option maxRecDepth 100000 in
theorem link {hv : Option Addr} {wv : Int} {H : Array Obj} {R : Value → Array Obj → Prop} (h : pt hv wv H R) : C hv wv H R := by
 refine S_enter (fn := Tryz.f50) (c := kk0) 29 Tryz.func50 (by kernel_rfl) (by kernel_rfl) (Nat.le_of_ble_eq_true (by kernel_rfl)) ?_
 intro w0 Q hQ
 unfold pt at h
 refine S_sub [(0, .pointer hv), (1, .int .u64 wv)] (sb (by kernel_rfl)) ?_
 refine T_sr 0 kk1 kk2 ?_
 refine N_run 2 [(0, .pointer hv), (1, .int .u64 wv)] (fun _=>by kernel_rfl) ?_
 refine T_e ?_
 refine T_sr 1 kk3 kk4 ?_
 refine N_run 2 [(0, .pointer hv), (1, .int .u64 wv), (9, .pointer hv), (10, .int .u64 wv)] (fun _=>by kernel_rfl) ?_
 refine N_call (some 11) 72 #[.pointer hv, .int .u64 wv, .int .i64 1, .int .i64 0] (fun _=>by kernel_rfl) h ?_; clear h
 rintro v H1 ⟨ra, rb, rfl, h⟩
 refine ⟨[(0, .pointer hv), (1, .int .u64 wv), (11, .tuple #[.int .i64 ra, .bool rb])], ps (by kernel_rfl), ?_⟩
 refine N_run 5 [(0, .pointer hv), (1, .int .u64 wv), (6, .int .i64 ra), (7, .bool rb)] (fun _=>by kernel_rfl) ?_
 refine T_e ?_
 refine S_seq kk5 kk6 (by kernel_rfl) ?_
 refine T_sr 2 kk7 kk8 ?_
 refine N_run 2 [(0, .pointer hv), (1, .int .u64 wv), (6, .int .i64 ra), (7, .bool rb), (15, .bool (!rb))] (fun _=>by kernel_rfl) ?_
 refine T_e ?_
 by_cases c1 : rb = true
 ·rw [if_pos c1] at h
  have b2 : (!rb) = false := congrArg Bool.not (c1)
  have b22 : rb = true := c1
  refine S_env [(0, .pointer hv), (1, .int .u64 wv), (6, .int .i64 ra), (7, .bool true), (15, .bool false)] (by simp only [b2, b22, Bool.not_true, Bool.not_false]) ?_
  clear b2 b22
  refine S_condF (.tmp 15) kk9 kk10 (by kernel_rfl) (by kernel_rfl) ?_
  refine S_skip (by kernel_rfl) ?_
  refine S_then ?_
  refine T_sr 4 kk11 kk12 ?_
  refine N_run 9 [(4, .int .i64 ra), (5, .bool ((Int.tmod ra 2) == 0))] (fun _=>by kernel_rfl) ?_
  refine T_e ?_
  refine S_ret (by kernel_rfl) ?_
  show At _ _ _ _ _ (Q .ret)
  exact S_done (fn := Tryz.f50) [.int .i64 ra, .bool ((Int.tmod ra 2) == 0)] hQ (show ResOK _ _ _ [.tmp 4, .tmp 5] _ from .tmp (by kernel_rfl) (.tmp (by kernel_rfl) (.nil))) h
 ·rw [if_neg c1] at h
  have b2 : (!rb) = true := congrArg Bool.not (eq_false_of_ne_true c1)
  have b22 : rb = false := eq_false_of_ne_true c1
  refine S_env [(0, .pointer hv), (1, .int .u64 wv), (6, .int .i64 ra), (7, .bool false), (15, .bool true)] (by simp only [b2, b22, Bool.not_true, Bool.not_false]) ?_
  clear b2 b22
  refine S_condT (.tmp 15) kk9 kk10 (by kernel_rfl) (by kernel_rfl) ?_
  refine S_region 3 (Code.ops kk9) (by kernel_rfl) ?_
  refine N_run 2 [(17, .pointer hv), (18, .int .u64 wv)] (fun _=>by kernel_rfl) ?_
  refine N_call (some 19) 72 #[.pointer hv, .int .u64 wv, .int .i64 2, .int .i64 1] (fun _=>by kernel_rfl) h ?_; clear h
  rintro v_2 H2 ⟨ra_2, rb_2, rfl, h⟩
  refine ⟨[(19, .tuple #[.int .i64 ra_2, .bool rb_2])], ps (by kernel_rfl), ?_⟩
  refine N_run 5 [(6, .int .i64 ra_2), (7, .bool rb_2)] (fun _=>by kernel_rfl) ?_
  refine T_e ?_
  refine T_sr 4 kk11 kk12 ?_
  refine N_cut [(4, .int .i64 ra_2), (5, .bool (rb_2 && ((Int.tmod ra_2 2) == 0)))] ?_ ?_
  ·refine S_then ?_
   refine S_ret (by kernel_rfl) ?_
   show At _ _ _ _ _ (Q .ret)
   exact S_done (fn := Tryz.f50) [.int .i64 ra_2, .bool (rb_2 && ((Int.tmod ra_2 2) == 0))] hQ (show ResOK _ _ _ [.tmp 4, .tmp 5] _ from .tmp (by kernel_rfl) (.tmp (by kernel_rfl) (.nil))) h
  ·intro hk
   refine N_run 3 [(6, .int .i64 ra_2), (22, .int .i64 ra_2), (24, .bool rb_2)] (fun _=>by kernel_rfl) ?_
   by_cases c3 : rb_2 = true
   ·have b4 : rb_2 = true := c3
    refine N_env [(6, .int .i64 ra_2), (22, .int .i64 ra_2), (24, .bool true)] (by simp only [b4, Bool.not_true, Bool.not_false]) ?_
    refine N_run 6 [(4, .int .i64 ra_2), (5, .bool ((Int.tmod ra_2 2) == 0))] (fun _=>by kernel_rfl) ?_
    refine N_end (by kernel_rfl) ?_
    refine S_env [(4, .int .i64 ra_2), (5, .bool (rb_2 && ((Int.tmod ra_2 2) == 0)))] (by simp only [b4, Bool.true_or, Bool.false_or, Bool.or_true, Bool.or_false, Bool.true_and, Bool.false_and, Bool.and_true, Bool.and_false, Bool.not_true, Bool.not_false, cond_true, cond_false]) ?_
    exact hk
   ·have b4 : rb_2 = false := eq_false_of_ne_true c3
    refine N_env [(6, .int .i64 ra_2), (22, .int .i64 ra_2), (24, .bool false)] (by simp only [b4, Bool.not_true, Bool.not_false]) ?_
    refine N_run 6 [(4, .int .i64 ra_2), (5, .bool false)] (fun _=>by kernel_rfl) ?_
    refine N_end (by kernel_rfl) ?_
    refine S_env [(4, .int .i64 ra_2), (5, .bool (rb_2 && ((Int.tmod ra_2 2) == 0)))] (by simp only [b4, Bool.true_or, Bool.false_or, Bool.or_true, Bool.or_false, Bool.true_and, Bool.false_and, Bool.and_true, Bool.and_false, Bool.not_true, Bool.not_false, cond_true, cond_false]) ?_
    exact hk
end obj_Heap_pair

end Go.Proofs.YthlohokmnajpoaaGreat
