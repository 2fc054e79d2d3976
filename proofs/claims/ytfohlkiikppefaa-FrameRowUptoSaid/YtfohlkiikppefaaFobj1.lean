/-
  Written by a program of mine (gen.py): for functions of this translation a predicate transformer over heaps (.pt), and the proof that it is sound for the call (.link).
-/
import Derived.Test.YtfohlkiikppefaaFnsC
set_option linter.unusedSimpArgs false
set_option linter.unusedVariables false
set_option maxHeartbeats 1000000
namespace Go.Proofs.Ytfohlkiikppefaa
open Go
/-! (*moraine/obj.Heap).Vector -/
noncomputable def obj_Heap_Vector.k0 : Code := Func.code Try.f46
noncomputable def obj_Heap_Vector.k1 : Code := Code.fa obj_Heap_Vector.k0
noncomputable def obj_Heap_Vector.k2 : Code := Code.fb obj_Heap_Vector.k0
noncomputable def obj_Heap_Vector.k3 : Code := Code.fa obj_Heap_Vector.k2
noncomputable def obj_Heap_Vector.k4 : Code := Code.fb obj_Heap_Vector.k2
noncomputable def obj_Heap_Vector.k5 : Code := Code.fa obj_Heap_Vector.k3
noncomputable def obj_Heap_Vector.k6 : Code := Code.fa obj_Heap_Vector.k5
noncomputable def obj_Heap_Vector.k7 : Code := Code.fb obj_Heap_Vector.k5
noncomputable def obj_Heap_Vector.k8 : Code := Code.fa obj_Heap_Vector.k7
noncomputable def obj_Heap_Vector.k9 : Code := Code.fb obj_Heap_Vector.k7
noncomputable def obj_Heap_Vector.k10 : Code := Code.fa obj_Heap_Vector.k8
noncomputable def obj_Heap_Vector.k11 : Code := Code.fb obj_Heap_Vector.k8
noncomputable def obj_Heap_Vector.k12 : Code := Code.fa obj_Heap_Vector.k9
noncomputable def obj_Heap_Vector.k13 : Code := Code.fb obj_Heap_Vector.k9
noncomputable def obj_Heap_Vector.k14 : Code := Code.fa obj_Heap_Vector.k13
noncomputable def obj_Heap_Vector.k15 : Code := Code.fb obj_Heap_Vector.k13
noncomputable def obj_Heap_Vector.k16 : Code := Code.fa obj_Heap_Vector.k14
noncomputable def obj_Heap_Vector.k17 : Code := Code.fb obj_Heap_Vector.k14
noncomputable def obj_Heap_Vector.k18 : Code := Code.fa obj_Heap_Vector.k4
noncomputable def obj_Heap_Vector.k19 : Code := Code.fb obj_Heap_Vector.k4
def obj_Heap_Vector.pt (hv : Option Addr) (nv : Int) (fill : Int) (H : Array Obj) (R : Value → Array Obj → Prop) : Prop :=
 if nv < 0 then (
  R (.tuple #[.int .u64 0, .int .i64 4]) H)
 else
 if nv > 62 then (
  R (.tuple #[.int .u64 0, .int .i64 6]) H)
 else
 ∀ (b : Nat) (H1 : Array Obj), b = H.size → H1 = H.push (.cells #[.int .u64 fill] 29) →
 slices_Repeat_api_Word_api_Word.C (some (Addr.mk b 0 none)) 1 1 nv H1 (fun v H2 => ∃ xB : Option Addr, ∃ xN : Nat, ∃ xC : Nat, v = .slice xB xN xC ∧ 
  obj_Heap_Make.C hv 1 0 xB xN xC H2 (fun v_2 H3 => ∃ ra : Int, ∃ rb : Int, v_2 = .tuple #[.int .u64 ra, .int .i64 rb] ∧ 
   R (.tuple #[.int .u64 ra, .int .i64 rb]) H3))
set_option maxRecDepth 100000 in
theorem obj_Heap_Vector.link {hv : Option Addr} {nv : Int} {fill : Int} {H : Array Obj} {R : Value → Array Obj → Prop} (h : obj_Heap_Vector.pt hv nv fill H R) : obj_Heap_Vector.C hv nv fill H R := by
  refine S_enter (fn := Try.f46) (c := obj_Heap_Vector.k0) 22 Try.func46 (by kernel_rfl) (by kernel_rfl) (Nat.le_of_ble_eq_true (by kernel_rfl)) ?_
  intro w0 Q hQ
  unfold obj_Heap_Vector.pt at h
  refine S_sub [(0, .pointer hv), (1, .int .i64 nv), (2, .int .u64 fill)] (sb (by kernel_rfl)) ?_
  refine S_seq obj_Heap_Vector.k1 obj_Heap_Vector.k2 (by kernel_rfl) ?_
  refine S_region 0 (Code.ops obj_Heap_Vector.k1) (by kernel_rfl) ?_
  refine N_run 2 [(0, .pointer hv), (1, .int .i64 nv), (2, .int .u64 fill)] (fun w => by kernel_rfl) ?_
  refine N_end (by kernel_rfl) ?_
  refine S_then ?_
  refine S_seq obj_Heap_Vector.k3 obj_Heap_Vector.k4 (by kernel_rfl) ?_
  refine S_block 0 obj_Heap_Vector.k5 (by kernel_rfl) ?_
  refine S_seq obj_Heap_Vector.k6 obj_Heap_Vector.k7 (by kernel_rfl) ?_
  refine S_region 1 (Code.ops obj_Heap_Vector.k6) (by kernel_rfl) ?_
  refine N_run 3 [(0, .pointer hv), (1, .int .i64 nv), (2, .int .u64 fill), (8, .bool (decide (nv < 0)))] (fun w => by kernel_rfl) ?_
  refine N_end (by kernel_rfl) ?_
  refine S_then ?_
  by_cases c1 : nv < 0
  · rw [if_pos c1] at h
    have b2 : (decide (nv < 0)) = true := decide_eq_true c1
    refine S_env [(0, .pointer hv), (1, .int .i64 nv), (2, .int .u64 fill), (8, .bool true)] (by simp only [b2, Bool.not_true, Bool.not_false]) ?_
    clear b2
    refine S_condT (.tmp 8) obj_Heap_Vector.k8 obj_Heap_Vector.k9 (by kernel_rfl) (by kernel_rfl) ?_
    refine S_seq obj_Heap_Vector.k10 obj_Heap_Vector.k11 (by kernel_rfl) ?_
    refine S_region 2 (Code.ops obj_Heap_Vector.k10) (by kernel_rfl) ?_
    refine N_run 2 [(6, .int .u64 0), (7, .int .i64 4)] (fun w => by kernel_rfl) ?_
    refine N_end (by kernel_rfl) ?_
    refine S_then ?_
    refine S_ret (by kernel_rfl) ?_
    show At _ _ _ _ (Q .ret)
    exact S_done (fn := Try.f46) [.int .u64 0, .int .i64 4] hQ (show ResOK _ _ _ [.tmp 6, .tmp 7] _ from .tmp (by kernel_rfl) (.tmp (by kernel_rfl) (.nil))) h
  · rw [if_neg c1] at h
    have b2 : (decide (nv < 0)) = false := decide_eq_false c1
    refine S_env [(0, .pointer hv), (1, .int .i64 nv), (2, .int .u64 fill), (8, .bool false)] (by simp only [b2, Bool.not_true, Bool.not_false]) ?_
    clear b2
    refine S_condF (.tmp 8) obj_Heap_Vector.k8 obj_Heap_Vector.k9 (by kernel_rfl) (by kernel_rfl) ?_
    refine S_seq obj_Heap_Vector.k12 obj_Heap_Vector.k13 (by kernel_rfl) ?_
    refine S_region 3 (Code.ops obj_Heap_Vector.k12) (by kernel_rfl) ?_
    refine N_run 3 [(0, .pointer hv), (1, .int .i64 nv), (2, .int .u64 fill), (11, .bool (decide (nv > 62)))] (fun w => by kernel_rfl) ?_
    refine N_end (by kernel_rfl) ?_
    refine S_then ?_
    by_cases c3 : nv > 62
    · rw [if_pos c3] at h
      have b4 : (decide (nv > 62)) = true := decide_eq_true c3
      refine S_env [(0, .pointer hv), (1, .int .i64 nv), (2, .int .u64 fill), (11, .bool true)] (by simp only [b4, Bool.not_true, Bool.not_false]) ?_
      clear b4
      refine S_condT (.tmp 11) obj_Heap_Vector.k14 obj_Heap_Vector.k15 (by kernel_rfl) (by kernel_rfl) ?_
      refine S_seq obj_Heap_Vector.k16 obj_Heap_Vector.k17 (by kernel_rfl) ?_
      refine S_region 4 (Code.ops obj_Heap_Vector.k16) (by kernel_rfl) ?_
      refine N_run 2 [(6, .int .u64 0), (7, .int .i64 6)] (fun w => by kernel_rfl) ?_
      refine N_end (by kernel_rfl) ?_
      refine S_then ?_
      refine S_ret (by kernel_rfl) ?_
      show At _ _ _ _ (Q .ret)
      exact S_done (fn := Try.f46) [.int .u64 0, .int .i64 6] hQ (show ResOK _ _ _ [.tmp 6, .tmp 7] _ from .tmp (by kernel_rfl) (.tmp (by kernel_rfl) (.nil))) h
    · rw [if_neg c3] at h
      have b4 : (decide (nv > 62)) = false := decide_eq_false c3
      refine S_env [(0, .pointer hv), (1, .int .i64 nv), (2, .int .u64 fill), (11, .bool false)] (by simp only [b4, Bool.not_true, Bool.not_false]) ?_
      clear b4
      refine S_condF (.tmp 11) obj_Heap_Vector.k14 obj_Heap_Vector.k15 (by kernel_rfl) (by kernel_rfl) ?_
      refine S_skip (by kernel_rfl) ?_
      refine S_blockEnd ?_
      refine S_then ?_
      refine S_seq obj_Heap_Vector.k18 obj_Heap_Vector.k19 (by kernel_rfl) ?_
      refine S_region 5 (Code.ops obj_Heap_Vector.k18) (by kernel_rfl) ?_
      refine N_run 2 [(1, .int .i64 nv), (14, .pointer hv), (15, .int .u64 fill)] (fun w => by kernel_rfl) ?_
      refine N_new (some 16) (fun b => .slice (some (Addr.mk b 0 none)) 1 1) (.cells #[.int .u64 fill] 29) (fun w => by kernel_rfl) ?_
      intro b H1 e5 e6
      replace h := h b H1 e5 e6
      refine ⟨[(1, .int .i64 nv), (14, .pointer hv), (16, .slice (some (Addr.mk b 0 none)) 1 1)], ps (by kernel_rfl), ?_⟩
      refine N_run 1 [(14, .pointer hv), (16, .slice (some (Addr.mk b 0 none)) 1 1), (17, .int .i64 nv)] (fun w => by kernel_rfl) ?_
      refine N_call (some 18) 74 #[.slice (some (Addr.mk b 0 none)) 1 1, .int .i64 nv] (fun w => by kernel_rfl) h ?_; clear h
      rintro v H2 ⟨xB, xN, xC, rfl, h⟩
      refine ⟨[(14, .pointer hv), (18, .slice xB xN xC)], ps (by kernel_rfl), ?_⟩
      refine N_call (some 19) 30 #[.pointer hv, .int .i64 1, .int .u64 0, .slice xB xN xC] (fun w => by kernel_rfl) h ?_; clear h
      rintro v_2 H3 ⟨ra, rb, rfl, h⟩
      refine ⟨[(19, .tuple #[.int .u64 ra, .int .i64 rb])], ps (by kernel_rfl), ?_⟩
      refine N_run 4 [(6, .int .u64 ra), (7, .int .i64 rb)] (fun w => by kernel_rfl) ?_
      refine N_end (by kernel_rfl) ?_
      refine S_then ?_
      refine S_ret (by kernel_rfl) ?_
      show At _ _ _ _ (Q .ret)
      exact S_done (fn := Try.f46) [.int .u64 ra, .int .i64 rb] hQ (show ResOK _ _ _ [.tmp 6, .tmp 7] _ from .tmp (by kernel_rfl) (.tmp (by kernel_rfl) (.nil))) h

/-! (*moraine/obj.Heap).Next -/
noncomputable def obj_Heap_Next.k0 : Code := Func.code Try.f47
noncomputable def obj_Heap_Next.k1 : Code := Code.fa obj_Heap_Next.k0
noncomputable def obj_Heap_Next.k2 : Code := Code.fb obj_Heap_Next.k0
noncomputable def obj_Heap_Next.k3 : Code := Code.fa obj_Heap_Next.k2
noncomputable def obj_Heap_Next.k4 : Code := Code.fb obj_Heap_Next.k2
def obj_Heap_Next.pt (hv : Option Addr) (H : Array Obj) (R : Value → Array Obj → Prop) : Prop :=
 obj_Heap_none.C hv H (fun v H1 => ∃ x : Bool, v = .bool x ∧ 
  if x = true then (
   R (.tuple #[]) H1)
  else
  ∃ hvA : Addr, hv = some hvA ∧
  ∃ x_2 : Int, hat H1 (hvA.add 3) = some (.int .u64 x_2) ∧
  (CanPuts H1 (hvA.add 3) 0 1) ∧ ∀ H2 : Array Obj, H2 = hputs H1 (hvA.add 3) [.int .u64 (IntKind.wrap .u64 (x_2 + 1))] 0 →
  R (.tuple #[]) H2)
set_option maxRecDepth 100000 in
theorem obj_Heap_Next.link {hv : Option Addr} {H : Array Obj} {R : Value → Array Obj → Prop} (h : obj_Heap_Next.pt hv H R) : obj_Heap_Next.C hv H R := by
  refine S_enter (fn := Try.f47) (c := obj_Heap_Next.k0) 12 Try.func47 (by kernel_rfl) (by kernel_rfl) (Nat.le_of_ble_eq_true (by kernel_rfl)) ?_
  intro w0 Q hQ
  unfold obj_Heap_Next.pt at h
  refine S_sub [(0, .pointer hv)] (sb (by kernel_rfl)) ?_
  refine S_seq obj_Heap_Next.k1 obj_Heap_Next.k2 (by kernel_rfl) ?_
  refine S_region 0 (Code.ops obj_Heap_Next.k1) (by kernel_rfl) ?_
  refine N_run 1 [(0, .pointer hv), (2, .pointer hv)] (fun w => by kernel_rfl) ?_
  refine N_call (some 3) 75 #[.pointer hv] (fun w => by kernel_rfl) h ?_; clear h
  rintro v H1 ⟨x, rfl, h⟩
  refine ⟨[(0, .pointer hv), (3, .bool x)], ps (by kernel_rfl), ?_⟩
  refine N_run 1 [(0, .pointer hv), (4, .bool (!x))] (fun w => by kernel_rfl) ?_
  refine N_end (by kernel_rfl) ?_
  refine S_then ?_
  by_cases c1 : x = true
  · rw [if_pos c1] at h
    have b2 : (!x) = false := congrArg Bool.not (c1)
    have b22 : x = true := c1
    refine S_env [(0, .pointer hv), (4, .bool false)] (by simp only [b2, b22, Bool.not_true, Bool.not_false]) ?_
    clear b2 b22
    refine S_condF (.tmp 4) obj_Heap_Next.k3 obj_Heap_Next.k4 (by kernel_rfl) (by kernel_rfl) ?_
    refine S_skip (by kernel_rfl) ?_
    exact S_doneN (fn := Try.f47) [] hQ (show ResOK _ _ _ [] _ from .nil) h
  · rw [if_neg c1] at h
    have b2 : (!x) = true := congrArg Bool.not (eq_false_of_ne_true c1)
    have b22 : x = false := eq_false_of_ne_true c1
    refine S_env [(0, .pointer hv), (4, .bool true)] (by simp only [b2, b22, Bool.not_true, Bool.not_false]) ?_
    clear b2 b22
    refine S_condT (.tmp 4) obj_Heap_Next.k3 obj_Heap_Next.k4 (by kernel_rfl) (by kernel_rfl) ?_
    refine S_region 1 (Code.ops obj_Heap_Next.k3) (by kernel_rfl) ?_
    refine N_run 1 [(5, .pointer hv)] (fun w => by kernel_rfl) ?_
    obtain ⟨hvA, rfl, h⟩ := h
    refine N_run 2 [(5, .pointer (some hvA)), (7, .pointer (some (hvA.add 3)))] (fun w => by kernel_rfl) ?_
    obtain ⟨x_2, q3, h⟩ := h
    refine N_val (some 8) (loadN 28 (.pointer (some (hvA.add 3)))) (.int .u64 x_2) (fun w => by kernel_rfl) (loadN_run (loadOK_one (fun w => by kernel_rfl) q3)) [(5, .pointer (some hvA)), (8, .int .u64 x_2)] (ps (by kernel_rfl)) ?_
    refine N_run 3 [(9, .int .u64 (IntKind.wrap .u64 (x_2 + 1))), (11, .pointer (some (hvA.add 3)))] (fun w => by kernel_rfl) ?_
    obtain ⟨q5, h⟩ := h
    refine N_skipop none (storeN 28 (.pointer (some (hvA.add 3))) (.int .u64 (IntKind.wrap .u64 (x_2 + 1)))) (fun Hz => Hz = hputs H1 (hvA.add 3) [.int .u64 (IntKind.wrap .u64 (x_2 + 1))] 0) (fun w => by kernel_rfl) (ss_store [.int .u64 (IntKind.wrap .u64 (x_2 + 1))] 1 (by kernel_rfl) (by kernel_rfl) (fun w => by kernel_rfl) (by kernel_rfl) q5) ?_
    intro H2 e4
    replace h := h H2 e4
    refine ⟨[], ps (by kernel_rfl), ?_⟩
    refine N_end (by kernel_rfl) ?_
    exact S_doneN (fn := Try.f47) [] hQ (show ResOK _ _ _ [] _ from .nil) h

/-! (*moraine/obj.Heap).SetCar -/
noncomputable def obj_Heap_SetCar.k0 : Code := Func.code Try.f48
noncomputable def obj_Heap_SetCar.k1 : Code := Code.fa obj_Heap_SetCar.k0
noncomputable def obj_Heap_SetCar.k2 : Code := Code.fb obj_Heap_SetCar.k0
noncomputable def obj_Heap_SetCar.k3 : Code := Code.fa obj_Heap_SetCar.k2
noncomputable def obj_Heap_SetCar.k4 : Code := Code.fb obj_Heap_SetCar.k2
def obj_Heap_SetCar.pt (hv : Option Addr) (wv : Int) (v : Int) (H : Array Obj) (R : Value → Array Obj → Prop) : Prop :=
 obj_Heap_set.C hv wv 0 v H (fun v_2 H1 => ∃ x : Int, v_2 = .int .i64 x ∧ 
  R (.int .i64 x) H1)
set_option maxRecDepth 100000 in
theorem obj_Heap_SetCar.link {hv : Option Addr} {wv : Int} {v : Int} {H : Array Obj} {R : Value → Array Obj → Prop} (h : obj_Heap_SetCar.pt hv wv v H R) : obj_Heap_SetCar.C hv wv v H R := by
  refine S_enter (fn := Try.f48) (c := obj_Heap_SetCar.k0) 11 Try.func48 (by kernel_rfl) (by kernel_rfl) (Nat.le_of_ble_eq_true (by kernel_rfl)) ?_
  intro w0 Q hQ
  unfold obj_Heap_SetCar.pt at h
  refine S_sub [(0, .pointer hv), (1, .int .u64 wv), (2, .int .u64 v)] (sb (by kernel_rfl)) ?_
  refine S_seq obj_Heap_SetCar.k1 obj_Heap_SetCar.k2 (by kernel_rfl) ?_
  refine S_region 0 (Code.ops obj_Heap_SetCar.k1) (by kernel_rfl) ?_
  refine N_run 1 [(0, .pointer hv), (1, .int .u64 wv), (2, .int .u64 v)] (fun w => by kernel_rfl) ?_
  refine N_end (by kernel_rfl) ?_
  refine S_then ?_
  refine S_seq obj_Heap_SetCar.k3 obj_Heap_SetCar.k4 (by kernel_rfl) ?_
  refine S_region 1 (Code.ops obj_Heap_SetCar.k3) (by kernel_rfl) ?_
  refine N_run 3 [(7, .pointer hv), (8, .int .u64 wv), (9, .int .u64 v)] (fun w => by kernel_rfl) ?_
  refine N_call (some 10) 76 #[.pointer hv, .int .u64 wv, .int .i64 0, .int .u64 v] (fun w => by kernel_rfl) h ?_; clear h
  rintro v_2 H1 ⟨x, rfl, h⟩
  refine ⟨[(10, .int .i64 x)], ps (by kernel_rfl), ?_⟩
  refine N_run 1 [(6, .int .i64 x)] (fun w => by kernel_rfl) ?_
  refine N_end (by kernel_rfl) ?_
  refine S_then ?_
  refine S_ret (by kernel_rfl) ?_
  show At _ _ _ _ (Q .ret)
  exact S_done (fn := Try.f48) [.int .i64 x] hQ (show ResOK _ _ _ [.tmp 6] _ from .tmp (by kernel_rfl) (.nil)) h

/-! (*moraine/obj.Heap).Pair -/
noncomputable def obj_Heap_Pair.k0 : Code := Func.code Try.f49
noncomputable def obj_Heap_Pair.k1 : Code := Code.fa obj_Heap_Pair.k0
noncomputable def obj_Heap_Pair.k2 : Code := Code.fb obj_Heap_Pair.k0
noncomputable def obj_Heap_Pair.k3 : Code := Code.fa obj_Heap_Pair.k2
noncomputable def obj_Heap_Pair.k4 : Code := Code.fb obj_Heap_Pair.k2
noncomputable def obj_Heap_Pair.k5 : Code := Code.fa obj_Heap_Pair.k4
noncomputable def obj_Heap_Pair.k6 : Code := Code.fb obj_Heap_Pair.k4
def obj_Heap_Pair.pt (hv : Option Addr) (wv : Int) (H : Array Obj) (R : Value → Array Obj → Prop) : Prop :=
 obj_Heap_pair.C hv wv H (fun v H1 => ∃ ra : Int, ∃ rb : Bool, v = .tuple #[.int .i64 ra, .bool rb] ∧ 
  R (.bool rb) H1)
set_option maxRecDepth 100000 in
theorem obj_Heap_Pair.link {hv : Option Addr} {wv : Int} {H : Array Obj} {R : Value → Array Obj → Prop} (h : obj_Heap_Pair.pt hv wv H R) : obj_Heap_Pair.C hv wv H R := by
  refine S_enter (fn := Try.f49) (c := obj_Heap_Pair.k0) 14 Try.func49 (by kernel_rfl) (by kernel_rfl) (Nat.le_of_ble_eq_true (by kernel_rfl)) ?_
  intro w0 Q hQ
  unfold obj_Heap_Pair.pt at h
  refine S_sub [(0, .pointer hv), (1, .int .u64 wv)] (sb (by kernel_rfl)) ?_
  refine S_seq obj_Heap_Pair.k1 obj_Heap_Pair.k2 (by kernel_rfl) ?_
  refine S_region 0 (Code.ops obj_Heap_Pair.k1) (by kernel_rfl) ?_
  refine N_run 1 [(0, .pointer hv), (1, .int .u64 wv)] (fun w => by kernel_rfl) ?_
  refine N_end (by kernel_rfl) ?_
  refine S_then ?_
  refine S_seq obj_Heap_Pair.k3 obj_Heap_Pair.k4 (by kernel_rfl) ?_
  refine S_region 1 (Code.ops obj_Heap_Pair.k3) (by kernel_rfl) ?_
  refine N_run 2 [(8, .pointer hv), (9, .int .u64 wv)] (fun w => by kernel_rfl) ?_
  refine N_call (some 10) 77 #[.pointer hv, .int .u64 wv] (fun w => by kernel_rfl) h ?_; clear h
  rintro v H1 ⟨ra, rb, rfl, h⟩
  refine ⟨[(10, .tuple #[.int .i64 ra, .bool rb])], ps (by kernel_rfl), ?_⟩
  refine N_run 5 [(6, .bool rb)] (fun w => by kernel_rfl) ?_
  refine N_end (by kernel_rfl) ?_
  refine S_then ?_
  refine S_seq obj_Heap_Pair.k5 obj_Heap_Pair.k6 (by kernel_rfl) ?_
  refine S_region 2 (Code.ops obj_Heap_Pair.k5) (by kernel_rfl) ?_
  refine N_run 2 [(4, .bool rb)] (fun w => by kernel_rfl) ?_
  refine N_end (by kernel_rfl) ?_
  refine S_then ?_
  refine S_ret (by kernel_rfl) ?_
  show At _ _ _ _ (Q .ret)
  exact S_done (fn := Try.f49) [.bool rb] hQ (show ResOK _ _ _ [.tmp 4] _ from .tmp (by kernel_rfl) (.nil)) h

/-! (*moraine/obj.Heap).Epoch -/
noncomputable def obj_Heap_Epoch.k0 : Code := Func.code Try.f50
noncomputable def obj_Heap_Epoch.k1 : Code := Code.fa obj_Heap_Epoch.k0
noncomputable def obj_Heap_Epoch.k2 : Code := Code.fb obj_Heap_Epoch.k0
noncomputable def obj_Heap_Epoch.k3 : Code := Code.fa obj_Heap_Epoch.k2
noncomputable def obj_Heap_Epoch.k4 : Code := Code.fb obj_Heap_Epoch.k2
noncomputable def obj_Heap_Epoch.k5 : Code := Code.fa obj_Heap_Epoch.k3
noncomputable def obj_Heap_Epoch.k6 : Code := Code.fb obj_Heap_Epoch.k3
noncomputable def obj_Heap_Epoch.k7 : Code := Code.fa obj_Heap_Epoch.k6
noncomputable def obj_Heap_Epoch.k8 : Code := Code.fb obj_Heap_Epoch.k6
noncomputable def obj_Heap_Epoch.k9 : Code := Code.fa obj_Heap_Epoch.k7
noncomputable def obj_Heap_Epoch.k10 : Code := Code.fb obj_Heap_Epoch.k7
noncomputable def obj_Heap_Epoch.k11 : Code := Code.fa obj_Heap_Epoch.k4
noncomputable def obj_Heap_Epoch.k12 : Code := Code.fb obj_Heap_Epoch.k4
def obj_Heap_Epoch.pt (hv : Option Addr) (H : Array Obj) (R : Value → Array Obj → Prop) : Prop :=
 obj_Heap_none.C hv H (fun v H1 => ∃ x : Bool, v = .bool x ∧ 
  if x = true then (
   R (.int .u64 0) H1)
  else
  ∃ hvA : Addr, hv = some hvA ∧
  ∃ x_2 : Int, hat H1 (hvA.add 3) = some (.int .u64 x_2) ∧
  R (.int .u64 x_2) H1)
set_option maxRecDepth 100000 in
theorem obj_Heap_Epoch.link {hv : Option Addr} {H : Array Obj} {R : Value → Array Obj → Prop} (h : obj_Heap_Epoch.pt hv H R) : obj_Heap_Epoch.C hv H R := by
  refine S_enter (fn := Try.f50) (c := obj_Heap_Epoch.k0) 9 Try.func50 (by kernel_rfl) (by kernel_rfl) (Nat.le_of_ble_eq_true (by kernel_rfl)) ?_
  intro w0 Q hQ
  unfold obj_Heap_Epoch.pt at h
  refine S_sub [(0, .pointer hv)] (sb (by kernel_rfl)) ?_
  refine S_seq obj_Heap_Epoch.k1 obj_Heap_Epoch.k2 (by kernel_rfl) ?_
  refine S_region 0 (Code.ops obj_Heap_Epoch.k1) (by kernel_rfl) ?_
  refine N_run 1 [(0, .pointer hv)] (fun w => by kernel_rfl) ?_
  refine N_end (by kernel_rfl) ?_
  refine S_then ?_
  refine S_seq obj_Heap_Epoch.k3 obj_Heap_Epoch.k4 (by kernel_rfl) ?_
  refine S_seq obj_Heap_Epoch.k5 obj_Heap_Epoch.k6 (by kernel_rfl) ?_
  refine S_region 1 (Code.ops obj_Heap_Epoch.k5) (by kernel_rfl) ?_
  refine N_run 1 [(0, .pointer hv), (3, .pointer hv)] (fun w => by kernel_rfl) ?_
  refine N_call (some 4) 75 #[.pointer hv] (fun w => by kernel_rfl) h ?_; clear h
  rintro v H1 ⟨x, rfl, h⟩
  refine ⟨[(0, .pointer hv), (4, .bool x)], ps (by kernel_rfl), ?_⟩
  refine N_end (by kernel_rfl) ?_
  refine S_then ?_
  by_cases c1 : x = true
  · rw [if_pos c1] at h
    have b2 : x = true := c1
    refine S_env [(0, .pointer hv), (4, .bool true)] (by simp only [b2, Bool.not_true, Bool.not_false]) ?_
    clear b2
    refine S_condT (.tmp 4) obj_Heap_Epoch.k7 obj_Heap_Epoch.k8 (by kernel_rfl) (by kernel_rfl) ?_
    refine S_seq obj_Heap_Epoch.k9 obj_Heap_Epoch.k10 (by kernel_rfl) ?_
    refine S_region 2 (Code.ops obj_Heap_Epoch.k9) (by kernel_rfl) ?_
    refine N_run 1 [(2, .int .u64 0)] (fun w => by kernel_rfl) ?_
    refine N_end (by kernel_rfl) ?_
    refine S_then ?_
    refine S_ret (by kernel_rfl) ?_
    show At _ _ _ _ (Q .ret)
    exact S_done (fn := Try.f50) [.int .u64 0] hQ (show ResOK _ _ _ [.tmp 2] _ from .tmp (by kernel_rfl) (.nil)) h
  · rw [if_neg c1] at h
    have b2 : x = false := eq_false_of_ne_true c1
    refine S_env [(0, .pointer hv), (4, .bool false)] (by simp only [b2, Bool.not_true, Bool.not_false]) ?_
    clear b2
    refine S_condF (.tmp 4) obj_Heap_Epoch.k7 obj_Heap_Epoch.k8 (by kernel_rfl) (by kernel_rfl) ?_
    refine S_skip (by kernel_rfl) ?_
    refine S_then ?_
    refine S_seq obj_Heap_Epoch.k11 obj_Heap_Epoch.k12 (by kernel_rfl) ?_
    refine S_region 3 (Code.ops obj_Heap_Epoch.k11) (by kernel_rfl) ?_
    refine N_run 1 [(5, .pointer hv)] (fun w => by kernel_rfl) ?_
    obtain ⟨hvA, rfl, h⟩ := h
    refine N_run 2 [(7, .pointer (some (hvA.add 3)))] (fun w => by kernel_rfl) ?_
    obtain ⟨x_2, q3, h⟩ := h
    refine N_val (some 8) (loadN 28 (.pointer (some (hvA.add 3)))) (.int .u64 x_2) (fun w => by kernel_rfl) (loadN_run (loadOK_one (fun w => by kernel_rfl) q3)) [(8, .int .u64 x_2)] (ps (by kernel_rfl)) ?_
    refine N_run 1 [(2, .int .u64 x_2)] (fun w => by kernel_rfl) ?_
    refine N_end (by kernel_rfl) ?_
    refine S_then ?_
    refine S_ret (by kernel_rfl) ?_
    show At _ _ _ _ (Q .ret)
    exact S_done (fn := Try.f50) [.int .u64 x_2] hQ (show ResOK _ _ _ [.tmp 2] _ from .tmp (by kernel_rfl) (.nil)) h

/-! (*moraine/obj.Heap).Copy -/
noncomputable def obj_Heap_Copy.k0 : Code := Func.code Try.f51
noncomputable def obj_Heap_Copy.k1 : Code := Code.fa obj_Heap_Copy.k0
noncomputable def obj_Heap_Copy.k2 : Code := Code.fb obj_Heap_Copy.k0
noncomputable def obj_Heap_Copy.k3 : Code := Code.fa obj_Heap_Copy.k2
noncomputable def obj_Heap_Copy.k4 : Code := Code.fb obj_Heap_Copy.k2
noncomputable def obj_Heap_Copy.k5 : Code := Code.fa obj_Heap_Copy.k3
noncomputable def obj_Heap_Copy.k6 : Code := Code.fb obj_Heap_Copy.k3
noncomputable def obj_Heap_Copy.k7 : Code := Code.fa obj_Heap_Copy.k6
noncomputable def obj_Heap_Copy.k8 : Code := Code.fb obj_Heap_Copy.k6
noncomputable def obj_Heap_Copy.k9 : Code := Code.fa obj_Heap_Copy.k7
noncomputable def obj_Heap_Copy.k10 : Code := Code.fb obj_Heap_Copy.k7
noncomputable def obj_Heap_Copy.k11 : Code := Code.fa obj_Heap_Copy.k4
noncomputable def obj_Heap_Copy.k12 : Code := Code.fb obj_Heap_Copy.k4
def obj_Heap_Copy.pt (hv : Option Addr) (H : Array Obj) (R : Value → Array Obj → Prop) : Prop :=
 onPtr hv (
  R (.pointer none) H) (fun hvA =>
  ∃ x : Option Addr, hat H hvA = some (.pointer x) ∧
  ∃ xB : Option Addr, ∃ xN : Nat, ∃ xC : Nat, hat H (hvA.add 1) = some (.slice xB xN xC) ∧
  ∃ xB_2 : Option Addr, ∃ xN_2 : Nat, ∃ xC_2 : Nat, hat H (hvA.add 2) = some (.slice xB_2 xN_2 xC_2) ∧
  ∃ x_2 : Int, hat H (hvA.add 3) = some (.int .u64 x_2) ∧
  card_Cards_Copy.C x H (fun v H1 => ∃ x_3 : Option Addr, v = .pointer x_3 ∧ RowAt H1 (hvA.add 1) 0 [.slice xB xN xC] ∧ RowAt H1 (hvA.add 2) 0 [.slice xB_2 xN_2 xC_2] ∧ RowAt H1 (hvA.add 3) 0 [.int .u64 x_2] ∧ 
   slices_Clone_api_Word_api_Word.C xB xN xC H1 (fun v_2 H2 => ∃ xB_3 : Option Addr, ∃ xN_3 : Nat, ∃ xC_3 : Nat, v_2 = .slice xB_3 xN_3 xC_3 ∧ RowAt H2 (hvA.add 2) 0 [.slice xB_2 xN_2 xC_2] ∧ RowAt H2 (hvA.add 3) 0 [.int .u64 x_2] ∧ 
    slices_Clone_api_Entry_api_Entry.C xB_2 xN_2 xC_2 H2 (fun v_3 H3 => ∃ xB_4 : Option Addr, ∃ xN_4 : Nat, ∃ xC_4 : Nat, v_3 = .slice xB_4 xN_4 xC_4 ∧ RowAt H3 (hvA.add 3) 0 [.int .u64 x_2] ∧ 
     ∀ (b : Nat) (H4 : Array Obj), b = H3.size → H4 = H3.push (.cells #[.pointer x_3, .slice xB_3 xN_3 xC_3, .slice xB_4 xN_4 xC_4, .int .u64 x_2] 60) → 
     R (.pointer (some (Addr.mk b 0 none))) H4))))
set_option maxRecDepth 100000 in
theorem obj_Heap_Copy.link {hv : Option Addr} {H : Array Obj} {R : Value → Array Obj → Prop} (h : obj_Heap_Copy.pt hv H R) : obj_Heap_Copy.C hv H R := by
  refine S_enter (fn := Try.f51) (c := obj_Heap_Copy.k0) 26 Try.func51 (by kernel_rfl) (by kernel_rfl) (Nat.le_of_ble_eq_true (by kernel_rfl)) ?_
  intro w0 Q hQ
  unfold obj_Heap_Copy.pt at h
  refine S_sub [(0, .pointer hv)] (sb (by kernel_rfl)) ?_
  refine S_seq obj_Heap_Copy.k1 obj_Heap_Copy.k2 (by kernel_rfl) ?_
  refine S_region 0 (Code.ops obj_Heap_Copy.k1) (by kernel_rfl) ?_
  refine N_run 1 [(0, .pointer hv)] (fun w => by kernel_rfl) ?_
  refine N_end (by kernel_rfl) ?_
  refine S_then ?_
  refine S_seq obj_Heap_Copy.k3 obj_Heap_Copy.k4 (by kernel_rfl) ?_
  refine S_seq obj_Heap_Copy.k5 obj_Heap_Copy.k6 (by kernel_rfl) ?_
  refine S_region 1 (Code.ops obj_Heap_Copy.k5) (by kernel_rfl) ?_
  refine N_run 1 [(0, .pointer hv), (3, .pointer hv)] (fun w => by kernel_rfl) ?_
  rcases hv with _ | hvA
  · rw [onPtr_none] at h
    refine N_run 1 [(0, .pointer none), (4, .bool true)] (fun w => by kernel_rfl) ?_
    refine N_end (by kernel_rfl) ?_
    refine S_then ?_
    refine S_condT (.tmp 4) obj_Heap_Copy.k7 obj_Heap_Copy.k8 (by kernel_rfl) (by kernel_rfl) ?_
    refine S_seq obj_Heap_Copy.k9 obj_Heap_Copy.k10 (by kernel_rfl) ?_
    refine S_region 2 (Code.ops obj_Heap_Copy.k9) (by kernel_rfl) ?_
    refine N_run 1 [(2, .pointer none)] (fun w => by kernel_rfl) ?_
    refine N_end (by kernel_rfl) ?_
    refine S_then ?_
    refine S_ret (by kernel_rfl) ?_
    show At _ _ _ _ (Q .ret)
    exact S_done (fn := Try.f51) [.pointer none] hQ (show ResOK _ _ _ [.tmp 2] _ from .tmp (by kernel_rfl) (.nil)) h
  · rw [onPtr_some] at h
    refine N_run 1 [(0, .pointer (some hvA)), (4, .bool false)] (fun w => by kernel_rfl) ?_
    refine N_end (by kernel_rfl) ?_
    refine S_then ?_
    refine S_condF (.tmp 4) obj_Heap_Copy.k7 obj_Heap_Copy.k8 (by kernel_rfl) (by kernel_rfl) ?_
    refine S_skip (by kernel_rfl) ?_
    refine S_then ?_
    refine S_seq obj_Heap_Copy.k11 obj_Heap_Copy.k12 (by kernel_rfl) ?_
    obtain ⟨x, q1, h⟩ := h
    obtain ⟨xB, xN, xC, q2, h⟩ := h
    obtain ⟨xB_2, xN_2, xC_2, q3, h⟩ := h
    obtain ⟨x_2, q4, h⟩ := h
    refine S_regionG 3 (Code.ops obj_Heap_Copy.k11) [(4, hvA, [.pointer x]), (9, (hvA.add 1), [.slice xB xN xC]), (14, (hvA.add 2), [.slice xB_2 xN_2 xC_2]), (20, (hvA.add 3), [.int .u64 x_2])] 22 #[false, false, false, false, false, false, false, false, false, false, false, false, false, false, false, false, false, false, false, false, false, false] (by kernel_rfl) (by kernel_rfl) (by kernel_rfl) (by kernel_rfl) (by kernel_rfl) (show FactsAt _ _ _ from ⟨⟨q1, trivial⟩, ⟨q2, trivial⟩, ⟨q3, trivial⟩, ⟨q4, trivial⟩, trivial⟩) ?_
    refine G_take 0 (some 5) (.pointer (some hvA)) #[true, false, false, false, false, false, false, false, false, false, false, false, false, false, false, false, false, false, false, false, false, false] [(0, .pointer (some hvA)), (5, .pointer (some hvA))] ((pure (.value (.pointer (some hvA))) : Sem Next)) (fun w => by kernel_rfl) (fun _ _ _ _ _ => rfl) (by kernel_rfl) (by kernel_rfl) (by kernel_rfl) (by kernel_rfl) (by kernel_rfl) (ps (by kernel_rfl)) ?_
    refine G_take 1 (some 6) (.pointer (some hvA)) #[true, true, false, false, false, false, false, false, false, false, false, false, false, false, false, false, false, false, false, false, false, false] [(0, .pointer (some hvA)), (6, .pointer (some hvA))] ((pure (.value (.pointer (some hvA))) : Sem Next)) (fun w => by kernel_rfl) (fun _ _ _ _ _ => rfl) (by kernel_rfl) (by kernel_rfl) (by kernel_rfl) (by kernel_rfl) (by kernel_rfl) (ps (by kernel_rfl)) ?_
    refine G_take 2 (some 7) (.pointer (some hvA)) #[true, true, true, false, false, false, false, false, false, false, false, false, false, false, false, false, false, false, false, false, false, false] [(0, .pointer (some hvA)), (7, .pointer (some hvA))] ((pure (.value (.pointer (some hvA))) : Sem Next)) (fun w => by kernel_rfl) (fun _ _ _ _ _ => rfl) (by kernel_rfl) (by kernel_rfl) (by kernel_rfl) (by kernel_rfl) (by kernel_rfl) (ps (by kernel_rfl)) ?_
    refine G_take 3 (some 8) (.pointer x) #[true, true, true, true, false, false, false, false, false, false, false, false, false, false, false, false, false, false, false, false, false, false] [(0, .pointer (some hvA)), (8, .pointer x)] (loadN 57 (.pointer (some hvA))) (fun w => by kernel_rfl) (held_one 4 (fun w => by kernel_rfl) (List.Mem.head _) (.inl (by kernel_rfl))) (by kernel_rfl) (by kernel_rfl) (by kernel_rfl) (by kernel_rfl) (by kernel_rfl) (ps (by kernel_rfl)) ?_
    refine G_take 5 (some 10) (.pointer (some hvA)) #[true, true, true, true, false, true, false, false, false, false, false, false, false, false, false, false, false, false, false, false, false, false] [(0, .pointer (some hvA)), (8, .pointer x), (10, .pointer (some hvA))] ((pure (.value (.pointer (some hvA))) : Sem Next)) (fun w => by kernel_rfl) (fun _ _ _ _ _ => rfl) (by kernel_rfl) (by kernel_rfl) (by kernel_rfl) (by kernel_rfl) (by kernel_rfl) (ps (by kernel_rfl)) ?_
    refine G_take 6 (some 11) (.pointer (some hvA)) #[true, true, true, true, false, true, true, false, false, false, false, false, false, false, false, false, false, false, false, false, false, false] [(0, .pointer (some hvA)), (8, .pointer x), (11, .pointer (some hvA))] ((pure (.value (.pointer (some hvA))) : Sem Next)) (fun w => by kernel_rfl) (fun _ _ _ _ _ => rfl) (by kernel_rfl) (by kernel_rfl) (by kernel_rfl) (by kernel_rfl) (by kernel_rfl) (ps (by kernel_rfl)) ?_
    refine G_take 7 (some 12) (.pointer (some (hvA.add 1))) #[true, true, true, true, false, true, true, true, false, false, false, false, false, false, false, false, false, false, false, false, false, false] [(0, .pointer (some hvA)), (8, .pointer x), (12, .pointer (some (hvA.add 1)))] ((pure (.value (.pointer (some (hvA.add 1)))) : Sem Next)) (fun w => by kernel_rfl) (fun _ _ _ _ _ => rfl) (by kernel_rfl) (by kernel_rfl) (by kernel_rfl) (by kernel_rfl) (by kernel_rfl) (ps (by kernel_rfl)) ?_
    refine G_take 8 (some 13) (.slice xB xN xC) #[true, true, true, true, false, true, true, true, true, false, false, false, false, false, false, false, false, false, false, false, false, false] [(0, .pointer (some hvA)), (8, .pointer x), (13, .slice xB xN xC)] (loadN 39 (.pointer (some (hvA.add 1)))) (fun w => by kernel_rfl) (held_one 9 (fun w => by kernel_rfl) (List.Mem.tail _ (List.Mem.head _)) (.inl (by kernel_rfl))) (by kernel_rfl) (by kernel_rfl) (by kernel_rfl) (by kernel_rfl) (by kernel_rfl) (ps (by kernel_rfl)) ?_
    refine G_take 10 (some 15) (.pointer (some hvA)) #[true, true, true, true, false, true, true, true, true, false, true, false, false, false, false, false, false, false, false, false, false, false] [(0, .pointer (some hvA)), (8, .pointer x), (13, .slice xB xN xC), (15, .pointer (some hvA))] ((pure (.value (.pointer (some hvA))) : Sem Next)) (fun w => by kernel_rfl) (fun _ _ _ _ _ => rfl) (by kernel_rfl) (by kernel_rfl) (by kernel_rfl) (by kernel_rfl) (by kernel_rfl) (ps (by kernel_rfl)) ?_
    refine G_take 11 (some 16) (.pointer (some hvA)) #[true, true, true, true, false, true, true, true, true, false, true, true, false, false, false, false, false, false, false, false, false, false] [(0, .pointer (some hvA)), (8, .pointer x), (13, .slice xB xN xC), (16, .pointer (some hvA))] ((pure (.value (.pointer (some hvA))) : Sem Next)) (fun w => by kernel_rfl) (fun _ _ _ _ _ => rfl) (by kernel_rfl) (by kernel_rfl) (by kernel_rfl) (by kernel_rfl) (by kernel_rfl) (ps (by kernel_rfl)) ?_
    refine G_take 12 (some 17) (.pointer (some (hvA.add 2))) #[true, true, true, true, false, true, true, true, true, false, true, true, true, false, false, false, false, false, false, false, false, false] [(0, .pointer (some hvA)), (8, .pointer x), (13, .slice xB xN xC), (17, .pointer (some (hvA.add 2)))] ((pure (.value (.pointer (some (hvA.add 2)))) : Sem Next)) (fun w => by kernel_rfl) (fun _ _ _ _ _ => rfl) (by kernel_rfl) (by kernel_rfl) (by kernel_rfl) (by kernel_rfl) (by kernel_rfl) (ps (by kernel_rfl)) ?_
    refine G_take 13 (some 18) (.slice xB_2 xN_2 xC_2) #[true, true, true, true, false, true, true, true, true, false, true, true, true, true, false, false, false, false, false, false, false, false] [(0, .pointer (some hvA)), (8, .pointer x), (13, .slice xB xN xC), (18, .slice xB_2 xN_2 xC_2)] (loadN 58 (.pointer (some (hvA.add 2)))) (fun w => by kernel_rfl) (held_one 14 (fun w => by kernel_rfl) (List.Mem.tail _ (List.Mem.tail _ (List.Mem.head _))) (.inl (by kernel_rfl))) (by kernel_rfl) (by kernel_rfl) (by kernel_rfl) (by kernel_rfl) (by kernel_rfl) (ps (by kernel_rfl)) ?_
    refine G_take 15 (some 20) (.pointer (some hvA)) #[true, true, true, true, false, true, true, true, true, false, true, true, true, true, false, true, false, false, false, false, false, false] [(8, .pointer x), (13, .slice xB xN xC), (18, .slice xB_2 xN_2 xC_2), (20, .pointer (some hvA))] ((pure (.value (.pointer (some hvA))) : Sem Next)) (fun w => by kernel_rfl) (fun _ _ _ _ _ => rfl) (by kernel_rfl) (by kernel_rfl) (by kernel_rfl) (by kernel_rfl) (by kernel_rfl) (ps (by kernel_rfl)) ?_
    refine G_take 16 (some 21) (.pointer (some hvA)) #[true, true, true, true, false, true, true, true, true, false, true, true, true, true, false, true, true, false, false, false, false, false] [(8, .pointer x), (13, .slice xB xN xC), (18, .slice xB_2 xN_2 xC_2), (21, .pointer (some hvA))] ((pure (.value (.pointer (some hvA))) : Sem Next)) (fun w => by kernel_rfl) (fun _ _ _ _ _ => rfl) (by kernel_rfl) (by kernel_rfl) (by kernel_rfl) (by kernel_rfl) (by kernel_rfl) (ps (by kernel_rfl)) ?_
    refine G_take 17 (some 22) (.pointer (some (hvA.add 3))) #[true, true, true, true, false, true, true, true, true, false, true, true, true, true, false, true, true, true, false, false, false, false] [(8, .pointer x), (13, .slice xB xN xC), (18, .slice xB_2 xN_2 xC_2), (22, .pointer (some (hvA.add 3)))] ((pure (.value (.pointer (some (hvA.add 3)))) : Sem Next)) (fun w => by kernel_rfl) (fun _ _ _ _ _ => rfl) (by kernel_rfl) (by kernel_rfl) (by kernel_rfl) (by kernel_rfl) (by kernel_rfl) (ps (by kernel_rfl)) ?_
    refine G_take 18 (some 23) (.int .u64 x_2) #[true, true, true, true, false, true, true, true, true, false, true, true, true, true, false, true, true, true, true, false, false, false] [(8, .pointer x), (13, .slice xB xN xC), (18, .slice xB_2 xN_2 xC_2), (23, .int .u64 x_2)] (loadN 28 (.pointer (some (hvA.add 3)))) (fun w => by kernel_rfl) (held_one 20 (fun w => by kernel_rfl) (List.Mem.tail _ (List.Mem.tail _ (List.Mem.tail _ (List.Mem.head _)))) (.inl (by kernel_rfl))) (by kernel_rfl) (by kernel_rfl) (by kernel_rfl) (by kernel_rfl) (by kernel_rfl) (ps (by kernel_rfl)) ?_
    refine G_call 4 (some 9) #[true, true, true, true, true, true, true, true, true, false, true, true, true, true, false, true, true, true, true, false, false, false] 78 #[.pointer x] (by kernel_rfl) (fun w => by kernel_rfl) h (by kernel_rfl) ?_; clear h
    rintro v H1 ⟨x_3, rfl, h⟩
    obtain ⟨f5, f6, f7, h⟩ := h
    refine ⟨[(9, .pointer x_3), (13, .slice xB xN xC), (18, .slice xB_2 xN_2 xC_2), (23, .int .u64 x_2)], ps (by kernel_rfl), (show FactsAt _ _ _ from ⟨trivial, f5, f6, f7, trivial⟩), ?_⟩
    refine G_call 9 (some 14) #[true, true, true, true, true, true, true, true, true, true, true, true, true, true, false, true, true, true, true, false, false, false] 79 #[.slice xB xN xC] (by kernel_rfl) (fun w => by kernel_rfl) h (by kernel_rfl) ?_; clear h
    rintro v_2 H2 ⟨xB_3, xN_3, xC_3, rfl, h⟩
    obtain ⟨f8, f9, h⟩ := h
    refine ⟨[(9, .pointer x_3), (14, .slice xB_3 xN_3 xC_3), (18, .slice xB_2 xN_2 xC_2), (23, .int .u64 x_2)], ps (by kernel_rfl), (show FactsAt _ _ _ from ⟨trivial, trivial, f8, f9, trivial⟩), ?_⟩
    refine G_call 14 (some 19) #[true, true, true, true, true, true, true, true, true, true, true, true, true, true, true, true, true, true, true, false, false, false] 80 #[.slice xB_2 xN_2 xC_2] (by kernel_rfl) (fun w => by kernel_rfl) h (by kernel_rfl) ?_; clear h
    rintro v_3 H3 ⟨xB_4, xN_4, xC_4, rfl, h⟩
    obtain ⟨f10, h⟩ := h
    refine ⟨[(9, .pointer x_3), (14, .slice xB_3 xN_3 xC_3), (19, .slice xB_4 xN_4 xC_4), (23, .int .u64 x_2)], ps (by kernel_rfl), (show FactsAt _ _ _ from ⟨trivial, trivial, trivial, f10, trivial⟩), ?_⟩
    refine G_take 19 (some 24) (.agg #[.pointer x_3, .slice xB_3 xN_3 xC_3, .slice xB_4 xN_4 xC_4, .int .u64 x_2]) #[true, true, true, true, true, true, true, true, true, true, true, true, true, true, true, true, true, true, true, true, false, false] [(24, .agg #[.pointer x_3, .slice xB_3 xN_3 xC_3, .slice xB_4 xN_4 xC_4, .int .u64 x_2])] (pure (.value (.agg #[.pointer x_3, .slice xB_3 xN_3 xC_3, .slice xB_4 xN_4 xC_4, .int .u64 x_2])) : Sem Next) (fun w => by kernel_rfl) (fun _ _ _ _ _ => rfl) (by kernel_rfl) (by kernel_rfl) (by kernel_rfl) (by kernel_rfl) (by kernel_rfl) (ps (by kernel_rfl)) ?_
    refine G_new 20 (some 25) #[true, true, true, true, true, true, true, true, true, true, true, true, true, true, true, true, true, true, true, true, true, false] (fun b => .pointer (some (Addr.mk b 0 none))) (.cells #[.pointer x_3, .slice xB_3 xN_3 xC_3, .slice xB_4 xN_4 xC_4, .int .u64 x_2] 60) (by kernel_rfl) (fun w => by kernel_rfl) (by kernel_rfl) ?_
    intro b H4 e11 e12
    replace h := h b H4 e11 e12
    refine ⟨[(25, .pointer (some (Addr.mk b 0 none)))], ps (by kernel_rfl), (show FactsAt _ _ _ from ⟨trivial, trivial, trivial, trivial, trivial⟩), ?_⟩
    refine G_take 21 (some 2) (.pointer (some (Addr.mk b 0 none))) #[true, true, true, true, true, true, true, true, true, true, true, true, true, true, true, true, true, true, true, true, true, true] [(2, .pointer (some (Addr.mk b 0 none)))] (pure (.value (.pointer (some (Addr.mk b 0 none)))) : Sem Next) (fun w => by kernel_rfl) (fun _ _ _ _ _ => rfl) (by kernel_rfl) (by kernel_rfl) (by kernel_rfl) (by kernel_rfl) (by kernel_rfl) (ps (by kernel_rfl)) ?_
    refine G_sub [(2, .pointer (some (Addr.mk b 0 none)))] (sb (by kernel_rfl)) ?_
    refine G_end (by kernel_rfl) ?_
    refine S_then ?_
    refine S_ret (by kernel_rfl) ?_
    show At _ _ _ _ (Q .ret)
    exact S_done (fn := Try.f51) [.pointer (some (Addr.mk b 0 none))] hQ (show ResOK _ _ _ [.tmp 2] _ from .tmp (by kernel_rfl) (.nil)) h

/-! (*moraine/obj.Heap).put -/
noncomputable def obj_Heap_put.k0 : Code := Func.code Try.f59
noncomputable def obj_Heap_put.k1 : Code := Code.fa obj_Heap_put.k0
noncomputable def obj_Heap_put.k2 : Code := Code.fb obj_Heap_put.k0
noncomputable def obj_Heap_put.k3 : Code := Code.fa obj_Heap_put.k2
noncomputable def obj_Heap_put.k4 : Code := Code.fb obj_Heap_put.k2
noncomputable def obj_Heap_put.k5 : Code := Code.fa obj_Heap_put.k3
noncomputable def obj_Heap_put.k6 : Code := Code.fb obj_Heap_put.k3
noncomputable def obj_Heap_put.k7 : Code := Code.fa obj_Heap_put.k6
noncomputable def obj_Heap_put.k8 : Code := Code.fb obj_Heap_put.k6
noncomputable def obj_Heap_put.k9 : Code := Code.fa obj_Heap_put.k7
noncomputable def obj_Heap_put.k10 : Code := Code.fb obj_Heap_put.k7
noncomputable def obj_Heap_put.k11 : Code := Code.fa obj_Heap_put.k4
noncomputable def obj_Heap_put.k12 : Code := Code.fb obj_Heap_put.k4
noncomputable def obj_Heap_put.k13 : Code := Code.fa obj_Heap_put.k12
noncomputable def obj_Heap_put.k14 : Code := Code.fb obj_Heap_put.k12
noncomputable def obj_Heap_put.k15 : Code := Code.fa obj_Heap_put.k13
noncomputable def obj_Heap_put.k16 : Code := Code.fb obj_Heap_put.k13
noncomputable def obj_Heap_put.k17 : Code := Code.fa obj_Heap_put.k16
noncomputable def obj_Heap_put.k18 : Code := Code.fb obj_Heap_put.k16
noncomputable def obj_Heap_put.k19 : Code := Code.fa obj_Heap_put.k14
noncomputable def obj_Heap_put.k20 : Code := Code.fb obj_Heap_put.k14
noncomputable def obj_Heap_put.k21 : Code := Code.fa obj_Heap_put.k19
noncomputable def obj_Heap_put.k22 : Code := Code.fb obj_Heap_put.k19
noncomputable def obj_Heap_put.k23 : Code := Code.fa obj_Heap_put.k22
noncomputable def obj_Heap_put.k24 : Code := Code.fa obj_Heap_put.k23
noncomputable def obj_Heap_put.k25 : Code := Code.fa obj_Heap_put.k24
noncomputable def obj_Heap_put.k26 : Code := Code.fb obj_Heap_put.k24
noncomputable def obj_Heap_put.k27 : Code := Code.fa obj_Heap_put.k26
noncomputable def obj_Heap_put.k28 : Code := Code.fb obj_Heap_put.k26
noncomputable def obj_Heap_put.k29 : Code := Code.fa obj_Heap_put.k27
noncomputable def obj_Heap_put.k30 : Code := Code.fb obj_Heap_put.k27
noncomputable def obj_Heap_put.k31 : Code := Code.fa obj_Heap_put.k28
noncomputable def obj_Heap_put.k32 : Code := Code.fb obj_Heap_put.k28
noncomputable def obj_Heap_put.k33 : Code := Code.fa obj_Heap_put.k31
noncomputable def obj_Heap_put.k34 : Code := Code.fa obj_Heap_put.k33
noncomputable def obj_Heap_put.k35 : Code := Code.fb obj_Heap_put.k33
noncomputable def obj_Heap_put.k36 : Code := Code.fa obj_Heap_put.k20
noncomputable def obj_Heap_put.k37 : Code := Code.fb obj_Heap_put.k20
noncomputable def obj_Heap_put.k38 : Code := Code.fa obj_Heap_put.k17
noncomputable def obj_Heap_put.k39 : Code := Code.fb obj_Heap_put.k17
def obj_Heap_put.pt (hv : Option Addr) (kind : Int) (tag : Int) (lB : Option Addr) (lN : Nat) (lC : Nat) (H : Array Obj) (R : Value → Array Obj → Prop) : Prop :=
 obj_Heap_none.C hv H (fun v H1 => ∃ x : Bool, v = .bool x ∧ 
  if x = true then (
   R (.tuple #[.int .u64 0, .int .i64 2]) H1)
  else
  ∃ hvA : Addr, hv = some hvA ∧
  ∃ x_2 : Option Addr, hat H1 hvA = some (.pointer x_2) ∧
  ∃ x2A : Addr, x_2 = some x2A ∧
  ∃ x_3 : Option Addr, hat H1 x2A = some (.pointer x_3) ∧
  space_Space_Alloc.C x_3 0 kind (lN : Int) H1 (fun v_2 H2 => ∃ ra : Int, ∃ rb : Int, v_2 = .tuple #[.int .i64 ra, .int .i64 rb] ∧ 
   if rb = 0 then (
    ∃ (I25 : Int → Array Obj → Prop) (m25 : Int → Array Obj → Nat), I25 0 H2 ∧ ∀ (s35 : Int) (H3 : Array Obj), I25 s35 H3 →
    if s35 < (lN : Int) then (
     ∃ lBA : Addr, lB = some lBA ∧
     ((0 : Int) ≤ s35 ∧ s35 < (lN : Int)) ∧
     ∃ x_4 : Int, hat H3 (lBA.add (Int.toNat s35 * 1)) = some (.int .u64 x_4) ∧
     ∃ x_5 : Option Addr, hat H3 hvA = some (.pointer x_5) ∧
     ∃ x5A : Addr, x_5 = some x5A ∧
     ∃ x_6 : Option Addr, hat H3 x5A = some (.pointer x_6) ∧
     ∃ x6A : Addr, x_6 = some x6A ∧
     ∃ x_7 : Option Addr, hat H3 x6A = some (.pointer x_7) ∧
     seg_Mem_Write.C x_7 (IntKind.wrap .i64 (ra + s35)) x_4 H3 (fun v_3 H4 => ∃ x_8 : Int, v_3 = .int .i64 x_8 ∧ 
      (I25 (IntKind.wrap .i64 (s35 + 1)) H4 ∧ m25 (IntKind.wrap .i64 (s35 + 1)) H4 < m25 s35 H3)))
    else
    word_At.C tag ra H3 (fun v_4 H5 => ∃ ra_2 : Int, ∃ rb_2 : Int, v_4 = .tuple #[.int .u64 ra_2, .int .i64 rb_2] ∧ 
     R (.tuple #[.int .u64 ra_2, .int .i64 rb_2]) H5))
   else
   R (.tuple #[.int .u64 0, .int .i64 rb]) H2))
set_option maxRecDepth 100000 in
theorem obj_Heap_put.link {hv : Option Addr} {kind : Int} {tag : Int} {lB : Option Addr} {lN : Nat} {lC : Nat} {H : Array Obj} {R : Value → Array Obj → Prop} (h : obj_Heap_put.pt hv kind tag lB lN lC H R) : obj_Heap_put.C hv kind tag lB lN lC H R := by
  refine S_enter (fn := Try.f59) (c := obj_Heap_put.k0) 61 Try.func59 (by kernel_rfl) (by kernel_rfl) (Nat.le_of_ble_eq_true (by kernel_rfl)) ?_
  intro w0 Q hQ
  unfold obj_Heap_put.pt at h
  refine S_sub [(0, .pointer hv), (1, .int .i64 kind), (2, .int .i64 tag), (3, .slice lB lN lC)] (sb (by kernel_rfl)) ?_
  refine S_seq obj_Heap_put.k1 obj_Heap_put.k2 (by kernel_rfl) ?_
  refine S_region 0 (Code.ops obj_Heap_put.k1) (by kernel_rfl) ?_
  refine N_run 2 [(0, .pointer hv), (1, .int .i64 kind), (2, .int .i64 tag), (3, .slice lB lN lC)] (fun w => by kernel_rfl) ?_
  refine N_end (by kernel_rfl) ?_
  refine S_then ?_
  refine S_seq obj_Heap_put.k3 obj_Heap_put.k4 (by kernel_rfl) ?_
  refine S_seq obj_Heap_put.k5 obj_Heap_put.k6 (by kernel_rfl) ?_
  refine S_region 1 (Code.ops obj_Heap_put.k5) (by kernel_rfl) ?_
  refine N_run 1 [(0, .pointer hv), (1, .int .i64 kind), (2, .int .i64 tag), (3, .slice lB lN lC), (14, .pointer hv)] (fun w => by kernel_rfl) ?_
  refine N_call (some 15) 75 #[.pointer hv] (fun w => by kernel_rfl) h ?_; clear h
  rintro v H1 ⟨x, rfl, h⟩
  refine ⟨[(0, .pointer hv), (1, .int .i64 kind), (2, .int .i64 tag), (3, .slice lB lN lC), (15, .bool x)], ps (by kernel_rfl), ?_⟩
  refine N_end (by kernel_rfl) ?_
  refine S_then ?_
  by_cases c1 : x = true
  · rw [if_pos c1] at h
    have b2 : x = true := c1
    refine S_env [(0, .pointer hv), (1, .int .i64 kind), (2, .int .i64 tag), (3, .slice lB lN lC), (15, .bool true)] (by simp only [b2, Bool.not_true, Bool.not_false]) ?_
    clear b2
    refine S_condT (.tmp 15) obj_Heap_put.k7 obj_Heap_put.k8 (by kernel_rfl) (by kernel_rfl) ?_
    refine S_seq obj_Heap_put.k9 obj_Heap_put.k10 (by kernel_rfl) ?_
    refine S_region 2 (Code.ops obj_Heap_put.k9) (by kernel_rfl) ?_
    refine N_run 2 [(8, .int .u64 0), (9, .int .i64 2)] (fun w => by kernel_rfl) ?_
    refine N_end (by kernel_rfl) ?_
    refine S_then ?_
    refine S_ret (by kernel_rfl) ?_
    show At _ _ _ _ (Q .ret)
    exact S_done (fn := Try.f59) [.int .u64 0, .int .i64 2] hQ (show ResOK _ _ _ [.tmp 8, .tmp 9] _ from .tmp (by kernel_rfl) (.tmp (by kernel_rfl) (.nil))) h
  · rw [if_neg c1] at h
    have b2 : x = false := eq_false_of_ne_true c1
    refine S_env [(0, .pointer hv), (1, .int .i64 kind), (2, .int .i64 tag), (3, .slice lB lN lC), (15, .bool false)] (by simp only [b2, Bool.not_true, Bool.not_false]) ?_
    clear b2
    refine S_condF (.tmp 15) obj_Heap_put.k7 obj_Heap_put.k8 (by kernel_rfl) (by kernel_rfl) ?_
    refine S_skip (by kernel_rfl) ?_
    refine S_then ?_
    refine S_seq obj_Heap_put.k11 obj_Heap_put.k12 (by kernel_rfl) ?_
    refine S_region 3 (Code.ops obj_Heap_put.k11) (by kernel_rfl) ?_
    refine N_run 1 [(0, .pointer hv), (1, .int .i64 kind), (2, .int .i64 tag), (3, .slice lB lN lC), (17, .pointer hv)] (fun w => by kernel_rfl) ?_
    obtain ⟨hvA, rfl, h⟩ := h
    refine N_run 2 [(0, .pointer (some hvA)), (1, .int .i64 kind), (2, .int .i64 tag), (3, .slice lB lN lC), (19, .pointer (some hvA))] (fun w => by kernel_rfl) ?_
    obtain ⟨x_2, q3, h⟩ := h
    refine N_val (some 20) (loadN 57 (.pointer (some hvA))) (.pointer x_2) (fun w => by kernel_rfl) (loadN_run (loadOK_one (fun w => by kernel_rfl) q3)) [(0, .pointer (some hvA)), (1, .int .i64 kind), (2, .int .i64 tag), (3, .slice lB lN lC), (20, .pointer x_2)] (ps (by kernel_rfl)) ?_
    obtain ⟨x2A, rfl, h⟩ := h
    refine N_run 2 [(0, .pointer (some hvA)), (1, .int .i64 kind), (2, .int .i64 tag), (3, .slice lB lN lC), (22, .pointer (some x2A))] (fun w => by kernel_rfl) ?_
    obtain ⟨x_3, q4, h⟩ := h
    refine N_val (some 23) (loadN 107 (.pointer (some x2A))) (.pointer x_3) (fun w => by kernel_rfl) (loadN_run (loadOK_one (fun w => by kernel_rfl) q4)) [(0, .pointer (some hvA)), (1, .int .i64 kind), (2, .int .i64 tag), (3, .slice lB lN lC), (23, .pointer x_3)] (ps (by kernel_rfl)) ?_
    refine N_run 3 [(0, .pointer (some hvA)), (2, .int .i64 tag), (3, .slice lB lN lC), (23, .pointer x_3), (24, .int .i64 kind), (26, .int .i64 (lN : Int))] (fun w => by kernel_rfl) ?_
    refine N_call (some 27) 88 #[.pointer x_3, .int .i64 0, .int .i64 kind, .int .i64 (lN : Int)] (fun w => by kernel_rfl) h ?_; clear h
    rintro v_2 H2 ⟨ra, rb, rfl, h⟩
    refine ⟨[(0, .pointer (some hvA)), (2, .int .i64 tag), (3, .slice lB lN lC), (27, .tuple #[.int .i64 ra, .int .i64 rb])], ps (by kernel_rfl), ?_⟩
    refine N_run 5 [(0, .pointer (some hvA)), (2, .int .i64 tag), (3, .slice lB lN lC), (10, .int .i64 ra), (11, .int .i64 rb)] (fun w => by kernel_rfl) ?_
    refine N_end (by kernel_rfl) ?_
    refine S_then ?_
    refine S_seq obj_Heap_put.k13 obj_Heap_put.k14 (by kernel_rfl) ?_
    refine S_seq obj_Heap_put.k15 obj_Heap_put.k16 (by kernel_rfl) ?_
    refine S_region 4 (Code.ops obj_Heap_put.k15) (by kernel_rfl) ?_
    refine N_run 2 [(0, .pointer (some hvA)), (2, .int .i64 tag), (3, .slice lB lN lC), (10, .int .i64 ra), (11, .int .i64 rb), (31, .bool (rb != 0))] (fun w => by kernel_rfl) ?_
    refine N_end (by kernel_rfl) ?_
    refine S_then ?_
    by_cases c5 : rb = 0
    · rw [if_pos c5] at h
      have b6 : (rb != 0) = false := bne_eq_false_iff_eq.mpr c5
      refine S_env [(0, .pointer (some hvA)), (2, .int .i64 tag), (3, .slice lB lN lC), (10, .int .i64 ra), (11, .int .i64 rb), (31, .bool false)] (by simp only [b6, Bool.not_true, Bool.not_false]) ?_
      clear b6
      refine S_condF (.tmp 31) obj_Heap_put.k17 obj_Heap_put.k18 (by kernel_rfl) (by kernel_rfl) ?_
      refine S_skip (by kernel_rfl) ?_
      refine S_then ?_
      refine S_seq obj_Heap_put.k19 obj_Heap_put.k20 (by kernel_rfl) ?_
      refine S_seq obj_Heap_put.k21 obj_Heap_put.k22 (by kernel_rfl) ?_
      refine S_region 6 (Code.ops obj_Heap_put.k21) (by kernel_rfl) ?_
      refine N_run 3 [(0, .pointer (some hvA)), (2, .int .i64 tag), (10, .int .i64 ra), (33, .slice lB lN lC), (34, .int .i64 (lN : Int)), (35, .int .i64 0)] (fun w => by kernel_rfl) ?_
      refine N_end (by kernel_rfl) ?_
      refine S_then ?_
      refine S_block 0 obj_Heap_put.k23 (by kernel_rfl) ?_
      obtain ⟨I25, m25, i7, i8⟩ := h
      refine S_loop (x := obj_Heap_put.k24) (σ := Int) (fun s_ => [(0, .pointer (some hvA)), (2, .int .i64 tag), (10, .int .i64 ra), (33, .slice lB lN lC), (34, .int .i64 (lN : Int)), (35, .int .i64 s_)]) (fun s_ H => I25 s_ H) (fun s_ H => m25 s_ H) (0 : Int) (by kernel_rfl) i7 (sb (by kernel_rfl)) ?_
      rintro s35 H3 i9
      have h := i8 s35 H3 i9
      refine S_sub [(0, .pointer (some hvA)), (2, .int .i64 tag), (10, .int .i64 ra), (33, .slice lB lN lC), (34, .int .i64 (lN : Int)), (35, .int .i64 s35)] (sb (by kernel_rfl)) ?_
      refine S_seq obj_Heap_put.k25 obj_Heap_put.k26 (by kernel_rfl) ?_
      refine S_region 7 (Code.ops obj_Heap_put.k25) (by kernel_rfl) ?_
      refine N_run 1 [(0, .pointer (some hvA)), (2, .int .i64 tag), (10, .int .i64 ra), (33, .slice lB lN lC), (34, .int .i64 (lN : Int)), (35, .int .i64 s35), (36, .bool (decide (s35 < (lN : Int))))] (fun w => by kernel_rfl) ?_
      refine N_end (by kernel_rfl) ?_
      refine S_then ?_
      refine S_seq obj_Heap_put.k27 obj_Heap_put.k28 (by kernel_rfl) ?_
      by_cases c10 : s35 < (lN : Int)
      · rw [if_pos c10] at h
        have b11 : (decide (s35 < (lN : Int))) = true := decide_eq_true c10
        refine S_env [(0, .pointer (some hvA)), (2, .int .i64 tag), (10, .int .i64 ra), (33, .slice lB lN lC), (34, .int .i64 (lN : Int)), (35, .int .i64 s35), (36, .bool true)] (by simp only [b11, Bool.not_true, Bool.not_false]) ?_
        clear b11
        refine S_condT (.tmp 36) obj_Heap_put.k29 obj_Heap_put.k30 (by kernel_rfl) (by kernel_rfl) ?_
        refine S_skip (by kernel_rfl) ?_
        refine S_then ?_
        refine S_seq obj_Heap_put.k31 obj_Heap_put.k32 (by kernel_rfl) ?_
        refine S_block 1 obj_Heap_put.k33 (by kernel_rfl) ?_
        refine S_seq obj_Heap_put.k34 obj_Heap_put.k35 (by kernel_rfl) ?_
        refine S_region 8 (Code.ops obj_Heap_put.k34) (by kernel_rfl) ?_
        refine N_run 1 [(0, .pointer (some hvA)), (2, .int .i64 tag), (10, .int .i64 ra), (33, .slice lB lN lC), (34, .int .i64 (lN : Int)), (35, .int .i64 s35), (37, .int .i64 s35)] (fun w => by kernel_rfl) ?_
        obtain ⟨lBA, rfl, h⟩ := h
        obtain ⟨q12, h⟩ := h
        refine N_val (some 38) (indexAtN 39 (.slice (some lBA) lN lC) (.int .i64 s35)) (.pointer (some (lBA.add (Int.toNat s35 * 1)))) (fun w => by kernel_rfl) (fun w _ => indexAt_run (P := Try.prog) (t := 39) (elem := 29) (sz := 1) (a := lBA) (len := lN) (cap := lC) (k := .i64) (i := s35) Try.underlying39 (fun w => by kernel_rfl) q12.1 q12.2 w) [(0, .pointer (some hvA)), (2, .int .i64 tag), (10, .int .i64 ra), (33, .slice (some lBA) lN lC), (34, .int .i64 (lN : Int)), (35, .int .i64 s35), (37, .int .i64 s35), (38, .pointer (some (lBA.add (Int.toNat s35 * 1))))] (ps (by kernel_rfl)) ?_
        obtain ⟨x_4, q13, h⟩ := h
        refine N_val (some 39) (loadN 29 (.pointer (some (lBA.add (Int.toNat s35 * 1))))) (.int .u64 x_4) (fun w => by kernel_rfl) (loadN_run (loadOK_one (fun w => by kernel_rfl) q13)) [(0, .pointer (some hvA)), (2, .int .i64 tag), (10, .int .i64 ra), (33, .slice (some lBA) lN lC), (34, .int .i64 (lN : Int)), (35, .int .i64 s35), (37, .int .i64 s35), (39, .int .u64 x_4)] (ps (by kernel_rfl)) ?_
        refine N_run 2 [(0, .pointer (some hvA)), (2, .int .i64 tag), (10, .int .i64 ra), (12, .int .i64 s35), (13, .int .u64 x_4), (33, .slice (some lBA) lN lC), (34, .int .i64 (lN : Int)), (35, .int .i64 s35)] (fun w => by kernel_rfl) ?_
        refine N_end (by kernel_rfl) ?_
        refine S_then ?_
        refine S_region 9 (Code.ops obj_Heap_put.k35) (by kernel_rfl) ?_
        refine N_run 3 [(0, .pointer (some hvA)), (2, .int .i64 tag), (10, .int .i64 ra), (12, .int .i64 s35), (13, .int .u64 x_4), (33, .slice (some lBA) lN lC), (34, .int .i64 (lN : Int)), (35, .int .i64 s35), (42, .pointer (some hvA))] (fun w => by kernel_rfl) ?_
        obtain ⟨x_5, q14, h⟩ := h
        refine N_val (some 43) (loadN 57 (.pointer (some hvA))) (.pointer x_5) (fun w => by kernel_rfl) (loadN_run (loadOK_one (fun w => by kernel_rfl) q14)) [(0, .pointer (some hvA)), (2, .int .i64 tag), (10, .int .i64 ra), (12, .int .i64 s35), (13, .int .u64 x_4), (33, .slice (some lBA) lN lC), (34, .int .i64 (lN : Int)), (35, .int .i64 s35), (43, .pointer x_5)] (ps (by kernel_rfl)) ?_
        obtain ⟨x5A, rfl, h⟩ := h
        refine N_run 2 [(0, .pointer (some hvA)), (2, .int .i64 tag), (10, .int .i64 ra), (12, .int .i64 s35), (13, .int .u64 x_4), (33, .slice (some lBA) lN lC), (34, .int .i64 (lN : Int)), (35, .int .i64 s35), (45, .pointer (some x5A))] (fun w => by kernel_rfl) ?_
        obtain ⟨x_6, q15, h⟩ := h
        refine N_val (some 46) (loadN 107 (.pointer (some x5A))) (.pointer x_6) (fun w => by kernel_rfl) (loadN_run (loadOK_one (fun w => by kernel_rfl) q15)) [(0, .pointer (some hvA)), (2, .int .i64 tag), (10, .int .i64 ra), (12, .int .i64 s35), (13, .int .u64 x_4), (33, .slice (some lBA) lN lC), (34, .int .i64 (lN : Int)), (35, .int .i64 s35), (46, .pointer x_6)] (ps (by kernel_rfl)) ?_
        obtain ⟨x6A, rfl, h⟩ := h
        refine N_run 2 [(0, .pointer (some hvA)), (2, .int .i64 tag), (10, .int .i64 ra), (12, .int .i64 s35), (13, .int .u64 x_4), (33, .slice (some lBA) lN lC), (34, .int .i64 (lN : Int)), (35, .int .i64 s35), (48, .pointer (some x6A))] (fun w => by kernel_rfl) ?_
        obtain ⟨x_7, q16, h⟩ := h
        refine N_val (some 49) (loadN 124 (.pointer (some x6A))) (.pointer x_7) (fun w => by kernel_rfl) (loadN_run (loadOK_one (fun w => by kernel_rfl) q16)) [(0, .pointer (some hvA)), (2, .int .i64 tag), (10, .int .i64 ra), (12, .int .i64 s35), (13, .int .u64 x_4), (33, .slice (some lBA) lN lC), (34, .int .i64 (lN : Int)), (35, .int .i64 s35), (49, .pointer x_7)] (ps (by kernel_rfl)) ?_
        refine N_run 4 [(0, .pointer (some hvA)), (2, .int .i64 tag), (10, .int .i64 ra), (33, .slice (some lBA) lN lC), (34, .int .i64 (lN : Int)), (35, .int .i64 s35), (49, .pointer x_7), (52, .int .i64 (IntKind.wrap .i64 (ra + s35))), (53, .int .u64 x_4)] (fun w => by kernel_rfl) ?_
        refine N_call (some 54) 89 #[.pointer x_7, .int .i64 (IntKind.wrap .i64 (ra + s35)), .int .u64 x_4] (fun w => by kernel_rfl) h ?_; clear h
        rintro v_3 H4 ⟨x_8, rfl, h⟩
        refine ⟨[(0, .pointer (some hvA)), (2, .int .i64 tag), (10, .int .i64 ra), (33, .slice (some lBA) lN lC), (34, .int .i64 (lN : Int)), (35, .int .i64 s35)], ps (by kernel_rfl), ?_⟩
        refine N_end (by kernel_rfl) ?_
        refine S_blockEnd ?_
        refine S_then ?_
        refine S_region 10 (Code.ops obj_Heap_put.k32) (by kernel_rfl) ?_
        refine N_run 2 [(0, .pointer (some hvA)), (2, .int .i64 tag), (10, .int .i64 ra), (33, .slice (some lBA) lN lC), (34, .int .i64 (lN : Int)), (35, .int .i64 (IntKind.wrap .i64 (s35 + 1)))] (fun w => by kernel_rfl) ?_
        refine N_end (by kernel_rfl) ?_
        refine S_then ?_
        exact S_round ((IntKind.wrap .i64 (s35 + 1)) : Int) (sb (by kernel_rfl)) h
      · rw [if_neg c10] at h
        have b11 : (decide (s35 < (lN : Int))) = false := decide_eq_false c10
        refine S_env [(0, .pointer (some hvA)), (2, .int .i64 tag), (10, .int .i64 ra), (33, .slice lB lN lC), (34, .int .i64 (lN : Int)), (35, .int .i64 s35), (36, .bool false)] (by simp only [b11, Bool.not_true, Bool.not_false]) ?_
        clear b11
        refine S_condF (.tmp 36) obj_Heap_put.k29 obj_Heap_put.k30 (by kernel_rfl) (by kernel_rfl) ?_
        refine S_exit 0 (by kernel_rfl) ?_
        refine S_exitThen ?_
        refine S_exitThen ?_
        refine S_exitHere ?_
        refine S_then ?_
        refine S_seq obj_Heap_put.k36 obj_Heap_put.k37 (by kernel_rfl) ?_
        refine S_region 11 (Code.ops obj_Heap_put.k36) (by kernel_rfl) ?_
        refine N_run 2 [(56, .int .i64 tag), (57, .int .i64 ra)] (fun w => by kernel_rfl) ?_
        refine N_call (some 58) 90 #[.int .i64 tag, .int .i64 ra] (fun w => by kernel_rfl) h ?_; clear h
        rintro v_4 H5 ⟨ra_2, rb_2, rfl, h⟩
        refine ⟨[(58, .tuple #[.int .u64 ra_2, .int .i64 rb_2])], ps (by kernel_rfl), ?_⟩
        refine N_run 4 [(8, .int .u64 ra_2), (9, .int .i64 rb_2)] (fun w => by kernel_rfl) ?_
        refine N_end (by kernel_rfl) ?_
        refine S_then ?_
        refine S_ret (by kernel_rfl) ?_
        show At _ _ _ _ (Q .ret)
        exact S_done (fn := Try.f59) [.int .u64 ra_2, .int .i64 rb_2] hQ (show ResOK _ _ _ [.tmp 8, .tmp 9] _ from .tmp (by kernel_rfl) (.tmp (by kernel_rfl) (.nil))) h
    · rw [if_neg c5] at h
      have b6 : (rb != 0) = true := bne_iff_ne.mpr c5
      refine S_env [(0, .pointer (some hvA)), (2, .int .i64 tag), (3, .slice lB lN lC), (10, .int .i64 ra), (11, .int .i64 rb), (31, .bool true)] (by simp only [b6, Bool.not_true, Bool.not_false]) ?_
      clear b6
      refine S_condT (.tmp 31) obj_Heap_put.k17 obj_Heap_put.k18 (by kernel_rfl) (by kernel_rfl) ?_
      refine S_seq obj_Heap_put.k38 obj_Heap_put.k39 (by kernel_rfl) ?_
      refine S_region 5 (Code.ops obj_Heap_put.k38) (by kernel_rfl) ?_
      refine N_run 3 [(8, .int .u64 0), (9, .int .i64 rb)] (fun w => by kernel_rfl) ?_
      refine N_end (by kernel_rfl) ?_
      refine S_then ?_
      refine S_ret (by kernel_rfl) ?_
      show At _ _ _ _ (Q .ret)
      exact S_done (fn := Try.f59) [.int .u64 0, .int .i64 rb] hQ (show ResOK _ _ _ [.tmp 8, .tmp 9] _ from .tmp (by kernel_rfl) (.tmp (by kernel_rfl) (.nil))) h

/-! moraine/obj.raw -/
noncomputable def obj_raw.k0 : Code := Func.code Try.f61
noncomputable def obj_raw.k1 : Code := Code.fa obj_raw.k0
noncomputable def obj_raw.k2 : Code := Code.fb obj_raw.k0
noncomputable def obj_raw.k3 : Code := Code.fa obj_raw.k2
noncomputable def obj_raw.k4 : Code := Code.fb obj_raw.k2
noncomputable def obj_raw.k5 : Code := Code.fa obj_raw.k3
noncomputable def obj_raw.k6 : Code := Code.fb obj_raw.k3
noncomputable def obj_raw.k7 : Code := Code.fa obj_raw.k6
noncomputable def obj_raw.k8 : Code := Code.fb obj_raw.k6
noncomputable def obj_raw.k9 : Code := Code.fa obj_raw.k7
noncomputable def obj_raw.k10 : Code := Code.fb obj_raw.k7
noncomputable def obj_raw.k11 : Code := Code.fa obj_raw.k4
noncomputable def obj_raw.k12 : Code := Code.fb obj_raw.k4
def obj_raw.pt (kind : Int) (H : Array Obj) (R : Value → Array Obj → Prop) : Prop :=
 if ((kind == 2) || (kind == 3)) = true then (
  R (.int .i64 3) H)
 else
 R (.int .i64 2) H
set_option maxRecDepth 100000 in
theorem obj_raw.link {kind : Int} {H : Array Obj} {R : Value → Array Obj → Prop} (h : obj_raw.pt kind H R) : obj_raw.C kind H R := by
  refine S_enter (fn := Try.f61) (c := obj_raw.k0) 9 Try.func61 (by kernel_rfl) (by kernel_rfl) (Nat.le_of_ble_eq_true (by kernel_rfl)) ?_
  intro w0 Q hQ
  unfold obj_raw.pt at h
  refine S_sub [(0, .int .i64 kind)] (sb (by kernel_rfl)) ?_
  refine S_seq obj_raw.k1 obj_raw.k2 (by kernel_rfl) ?_
  refine S_region 0 (Code.ops obj_raw.k1) (by kernel_rfl) ?_
  refine N_run 1 [(0, .int .i64 kind)] (fun w => by kernel_rfl) ?_
  refine N_end (by kernel_rfl) ?_
  refine S_then ?_
  refine S_seq obj_raw.k3 obj_raw.k4 (by kernel_rfl) ?_
  refine S_seq obj_raw.k5 obj_raw.k6 (by kernel_rfl) ?_
  refine S_region 1 (Code.ops obj_raw.k5) (by kernel_rfl) ?_
  refine N_cut [(8, .bool ((kind == 2) || (kind == 3)))] ?_ ?_
  · refine S_then ?_
    by_cases c3 : ((kind == 2) || (kind == 3)) = true
    · rw [if_pos c3] at h
      have b4 : ((kind == 2) || (kind == 3)) = true := c3
      refine S_env [(8, .bool true)] (by simp only [b4, Bool.not_true, Bool.not_false]) ?_
      clear b4
      refine S_condT (.tmp 8) obj_raw.k7 obj_raw.k8 (by kernel_rfl) (by kernel_rfl) ?_
      refine S_seq obj_raw.k9 obj_raw.k10 (by kernel_rfl) ?_
      refine S_region 2 (Code.ops obj_raw.k9) (by kernel_rfl) ?_
      refine N_run 1 [(2, .int .i64 3)] (fun w => by kernel_rfl) ?_
      refine N_end (by kernel_rfl) ?_
      refine S_then ?_
      refine S_ret (by kernel_rfl) ?_
      show At _ _ _ _ (Q .ret)
      exact S_done (fn := Try.f61) [.int .i64 3] hQ (show ResOK _ _ _ [.tmp 2] _ from .tmp (by kernel_rfl) (.nil)) h
    · rw [if_neg c3] at h
      have b4 : ((kind == 2) || (kind == 3)) = false := eq_false_of_ne_true c3
      refine S_env [(8, .bool false)] (by simp only [b4, Bool.not_true, Bool.not_false]) ?_
      clear b4
      refine S_condF (.tmp 8) obj_raw.k7 obj_raw.k8 (by kernel_rfl) (by kernel_rfl) ?_
      refine S_skip (by kernel_rfl) ?_
      refine S_then ?_
      refine S_seq obj_raw.k11 obj_raw.k12 (by kernel_rfl) ?_
      refine S_region 3 (Code.ops obj_raw.k11) (by kernel_rfl) ?_
      refine N_run 1 [(2, .int .i64 2)] (fun w => by kernel_rfl) ?_
      refine N_end (by kernel_rfl) ?_
      refine S_then ?_
      refine S_ret (by kernel_rfl) ?_
      show At _ _ _ _ (Q .ret)
      exact S_done (fn := Try.f61) [.int .i64 2] hQ (show ResOK _ _ _ [.tmp 2] _ from .tmp (by kernel_rfl) (.nil)) h
  · intro hk
    refine N_run 3 [(0, .int .i64 kind), (5, .bool (kind == 2))] (fun w => by kernel_rfl) ?_
    by_cases c1 : kind = 2
    · have b2 : (kind == 2) = true := beq_iff_eq.mpr c1
      refine N_env [(0, .int .i64 kind), (5, .bool true)] (by simp only [b2, Bool.not_true, Bool.not_false]) ?_
      refine N_run 3 [(8, .bool true)] (fun w => by kernel_rfl) ?_
      refine N_end (by kernel_rfl) ?_
      refine S_env [(8, .bool ((kind == 2) || (kind == 3)))] (by simp only [b2, Bool.true_or, Bool.false_or, Bool.or_true, Bool.or_false, Bool.true_and, Bool.false_and, Bool.and_true, Bool.and_false, Bool.not_true, Bool.not_false, cond_true, cond_false]) ?_
      exact hk
    · have b2 : (kind == 2) = false := beq_eq_false_iff_ne.mpr c1
      refine N_env [(0, .int .i64 kind), (5, .bool false)] (by simp only [b2, Bool.not_true, Bool.not_false]) ?_
      refine N_run 3 [(8, .bool (kind == 3))] (fun w => by kernel_rfl) ?_
      refine N_end (by kernel_rfl) ?_
      refine S_env [(8, .bool ((kind == 2) || (kind == 3)))] (by simp only [b2, Bool.true_or, Bool.false_or, Bool.or_true, Bool.or_false, Bool.true_and, Bool.false_and, Bool.and_true, Bool.and_false, Bool.not_true, Bool.not_false, cond_true, cond_false]) ?_
      exact hk

/-! (*moraine/obj.Heap).SetCdr -/
noncomputable def obj_Heap_SetCdr.k0 : Code := Func.code Try.f62
noncomputable def obj_Heap_SetCdr.k1 : Code := Code.fa obj_Heap_SetCdr.k0
noncomputable def obj_Heap_SetCdr.k2 : Code := Code.fb obj_Heap_SetCdr.k0
noncomputable def obj_Heap_SetCdr.k3 : Code := Code.fa obj_Heap_SetCdr.k2
noncomputable def obj_Heap_SetCdr.k4 : Code := Code.fb obj_Heap_SetCdr.k2
def obj_Heap_SetCdr.pt (hv : Option Addr) (wv : Int) (v : Int) (H : Array Obj) (R : Value → Array Obj → Prop) : Prop :=
 obj_Heap_set.C hv wv 1 v H (fun v_2 H1 => ∃ x : Int, v_2 = .int .i64 x ∧ 
  R (.int .i64 x) H1)
set_option maxRecDepth 100000 in
theorem obj_Heap_SetCdr.link {hv : Option Addr} {wv : Int} {v : Int} {H : Array Obj} {R : Value → Array Obj → Prop} (h : obj_Heap_SetCdr.pt hv wv v H R) : obj_Heap_SetCdr.C hv wv v H R := by
  refine S_enter (fn := Try.f62) (c := obj_Heap_SetCdr.k0) 11 Try.func62 (by kernel_rfl) (by kernel_rfl) (Nat.le_of_ble_eq_true (by kernel_rfl)) ?_
  intro w0 Q hQ
  unfold obj_Heap_SetCdr.pt at h
  refine S_sub [(0, .pointer hv), (1, .int .u64 wv), (2, .int .u64 v)] (sb (by kernel_rfl)) ?_
  refine S_seq obj_Heap_SetCdr.k1 obj_Heap_SetCdr.k2 (by kernel_rfl) ?_
  refine S_region 0 (Code.ops obj_Heap_SetCdr.k1) (by kernel_rfl) ?_
  refine N_run 1 [(0, .pointer hv), (1, .int .u64 wv), (2, .int .u64 v)] (fun w => by kernel_rfl) ?_
  refine N_end (by kernel_rfl) ?_
  refine S_then ?_
  refine S_seq obj_Heap_SetCdr.k3 obj_Heap_SetCdr.k4 (by kernel_rfl) ?_
  refine S_region 1 (Code.ops obj_Heap_SetCdr.k3) (by kernel_rfl) ?_
  refine N_run 3 [(7, .pointer hv), (8, .int .u64 wv), (9, .int .u64 v)] (fun w => by kernel_rfl) ?_
  refine N_call (some 10) 76 #[.pointer hv, .int .u64 wv, .int .i64 1, .int .u64 v] (fun w => by kernel_rfl) h ?_; clear h
  rintro v_2 H1 ⟨x, rfl, h⟩
  refine ⟨[(10, .int .i64 x)], ps (by kernel_rfl), ?_⟩
  refine N_run 1 [(6, .int .i64 x)] (fun w => by kernel_rfl) ?_
  refine N_end (by kernel_rfl) ?_
  refine S_then ?_
  refine S_ret (by kernel_rfl) ?_
  show At _ _ _ _ (Q .ret)
  exact S_done (fn := Try.f62) [.int .i64 x] hQ (show ResOK _ _ _ [.tmp 6] _ from .tmp (by kernel_rfl) (.nil)) h

/-! (*moraine/obj.Heap).field -/
noncomputable def obj_Heap_field.k0 : Code := Func.code Try.f63
noncomputable def obj_Heap_field.k1 : Code := Code.fa obj_Heap_field.k0
noncomputable def obj_Heap_field.k2 : Code := Code.fb obj_Heap_field.k0
noncomputable def obj_Heap_field.k3 : Code := Code.fa obj_Heap_field.k2
noncomputable def obj_Heap_field.k4 : Code := Code.fb obj_Heap_field.k2
noncomputable def obj_Heap_field.k5 : Code := Code.fa obj_Heap_field.k4
noncomputable def obj_Heap_field.k6 : Code := Code.fb obj_Heap_field.k4
noncomputable def obj_Heap_field.k7 : Code := Code.fa obj_Heap_field.k5
noncomputable def obj_Heap_field.k8 : Code := Code.fa obj_Heap_field.k7
noncomputable def obj_Heap_field.k9 : Code := Code.fb obj_Heap_field.k7
noncomputable def obj_Heap_field.k10 : Code := Code.fa obj_Heap_field.k9
noncomputable def obj_Heap_field.k11 : Code := Code.fb obj_Heap_field.k9
noncomputable def obj_Heap_field.k12 : Code := Code.fa obj_Heap_field.k10
noncomputable def obj_Heap_field.k13 : Code := Code.fb obj_Heap_field.k10
noncomputable def obj_Heap_field.k14 : Code := Code.fa obj_Heap_field.k11
noncomputable def obj_Heap_field.k15 : Code := Code.fb obj_Heap_field.k11
noncomputable def obj_Heap_field.k16 : Code := Code.fa obj_Heap_field.k15
noncomputable def obj_Heap_field.k17 : Code := Code.fb obj_Heap_field.k15
noncomputable def obj_Heap_field.k18 : Code := Code.fa obj_Heap_field.k16
noncomputable def obj_Heap_field.k19 : Code := Code.fb obj_Heap_field.k16
noncomputable def obj_Heap_field.k20 : Code := Code.fa obj_Heap_field.k6
noncomputable def obj_Heap_field.k21 : Code := Code.fb obj_Heap_field.k6
def obj_Heap_field.pt (hv : Option Addr) (wv : Int) (kind : Int) (i : Int) (H : Array Obj) (R : Value → Array Obj → Prop) : Prop :=
 obj_Heap_object.C hv wv H (fun v H1 => ∃ ra : Int, ∃ rb : Int, ∃ rc : Int, ∃ rd : Int, ∃ re : Bool, v = .tuple #[.int .i64 ra, .int .i64 rb, .int .i64 rc, .int .u64 rd, .bool re] ∧ 
  if ((!re) || (rb != kind)) = true then (
   R (.tuple #[.int .i64 0, .int .i64 3]) H1)
  else
  if ((decide (i < 0)) || (decide (i ≥ rc))) = true then (
   R (.tuple #[.int .i64 0, .int .i64 4]) H1)
  else
  R (.tuple #[.int .i64 (IntKind.wrap .i64 ((IntKind.wrap .i64 (ra + 1)) + i)), .int .i64 0]) H1)
set_option maxRecDepth 100000 in
theorem obj_Heap_field.link {hv : Option Addr} {wv : Int} {kind : Int} {i : Int} {H : Array Obj} {R : Value → Array Obj → Prop} (h : obj_Heap_field.pt hv wv kind i H R) : obj_Heap_field.C hv wv kind i H R := by
  refine S_enter (fn := Try.f63) (c := obj_Heap_field.k0) 44 Try.func63 (by kernel_rfl) (by kernel_rfl) (Nat.le_of_ble_eq_true (by kernel_rfl)) ?_
  intro w0 Q hQ
  unfold obj_Heap_field.pt at h
  refine S_sub [(0, .pointer hv), (1, .int .u64 wv), (2, .int .i64 kind), (3, .int .i64 i)] (sb (by kernel_rfl)) ?_
  refine S_seq obj_Heap_field.k1 obj_Heap_field.k2 (by kernel_rfl) ?_
  refine S_region 0 (Code.ops obj_Heap_field.k1) (by kernel_rfl) ?_
  refine N_run 2 [(0, .pointer hv), (1, .int .u64 wv), (2, .int .i64 kind), (3, .int .i64 i)] (fun w => by kernel_rfl) ?_
  refine N_end (by kernel_rfl) ?_
  refine S_then ?_
  refine S_seq obj_Heap_field.k3 obj_Heap_field.k4 (by kernel_rfl) ?_
  refine S_region 1 (Code.ops obj_Heap_field.k3) (by kernel_rfl) ?_
  refine N_run 2 [(2, .int .i64 kind), (3, .int .i64 i), (16, .pointer hv), (17, .int .u64 wv)] (fun w => by kernel_rfl) ?_
  refine N_call (some 18) 66 #[.pointer hv, .int .u64 wv] (fun w => by kernel_rfl) h ?_; clear h
  rintro v H1 ⟨ra, rb, rc, rd, re, rfl, h⟩
  refine ⟨[(2, .int .i64 kind), (3, .int .i64 i), (18, .tuple #[.int .i64 ra, .int .i64 rb, .int .i64 rc, .int .u64 rd, .bool re])], ps (by kernel_rfl), ?_⟩
  refine N_run 11 [(2, .int .i64 kind), (3, .int .i64 i), (10, .int .i64 ra), (11, .int .i64 rb), (12, .int .i64 rc), (14, .bool re)] (fun w => by kernel_rfl) ?_
  refine N_end (by kernel_rfl) ?_
  refine S_then ?_
  refine S_seq obj_Heap_field.k5 obj_Heap_field.k6 (by kernel_rfl) ?_
  refine S_block 0 obj_Heap_field.k7 (by kernel_rfl) ?_
  refine S_seq obj_Heap_field.k8 obj_Heap_field.k9 (by kernel_rfl) ?_
  refine S_region 2 (Code.ops obj_Heap_field.k8) (by kernel_rfl) ?_
  refine N_cut [(3, .int .i64 i), (10, .int .i64 ra), (12, .int .i64 rc), (24, .bool ((!re) || (rb != kind)))] ?_ ?_
  · refine S_then ?_
    by_cases c3 : ((!re) || (rb != kind)) = true
    · rw [if_pos c3] at h
      have b4 : ((!re) || (rb != kind)) = true := c3
      refine S_env [(3, .int .i64 i), (10, .int .i64 ra), (12, .int .i64 rc), (24, .bool true)] (by simp only [b4, Bool.not_true, Bool.not_false]) ?_
      clear b4
      refine S_condT (.tmp 24) obj_Heap_field.k10 obj_Heap_field.k11 (by kernel_rfl) (by kernel_rfl) ?_
      refine S_seq obj_Heap_field.k12 obj_Heap_field.k13 (by kernel_rfl) ?_
      refine S_region 3 (Code.ops obj_Heap_field.k12) (by kernel_rfl) ?_
      refine N_run 2 [(8, .int .i64 0), (9, .int .i64 3)] (fun w => by kernel_rfl) ?_
      refine N_end (by kernel_rfl) ?_
      refine S_then ?_
      refine S_ret (by kernel_rfl) ?_
      show At _ _ _ _ (Q .ret)
      exact S_done (fn := Try.f63) [.int .i64 0, .int .i64 3] hQ (show ResOK _ _ _ [.tmp 8, .tmp 9] _ from .tmp (by kernel_rfl) (.tmp (by kernel_rfl) (.nil))) h
    · rw [if_neg c3] at h
      have b4 : ((!re) || (rb != kind)) = false := eq_false_of_ne_true c3
      refine S_env [(3, .int .i64 i), (10, .int .i64 ra), (12, .int .i64 rc), (24, .bool false)] (by simp only [b4, Bool.not_true, Bool.not_false]) ?_
      clear b4
      refine S_condF (.tmp 24) obj_Heap_field.k10 obj_Heap_field.k11 (by kernel_rfl) (by kernel_rfl) ?_
      refine S_seq obj_Heap_field.k14 obj_Heap_field.k15 (by kernel_rfl) ?_
      refine S_region 4 (Code.ops obj_Heap_field.k14) (by kernel_rfl) ?_
      refine N_cut [(3, .int .i64 i), (10, .int .i64 ra), (32, .bool ((decide (i < 0)) || (decide (i ≥ rc))))] ?_ ?_
      · refine S_then ?_
        by_cases c7 : ((decide (i < 0)) || (decide (i ≥ rc))) = true
        · rw [if_pos c7] at h
          have b8 : ((decide (i < 0)) || (decide (i ≥ rc))) = true := c7
          refine S_env [(3, .int .i64 i), (10, .int .i64 ra), (32, .bool true)] (by simp only [b8, Bool.not_true, Bool.not_false]) ?_
          clear b8
          refine S_condT (.tmp 32) obj_Heap_field.k16 obj_Heap_field.k17 (by kernel_rfl) (by kernel_rfl) ?_
          refine S_seq obj_Heap_field.k18 obj_Heap_field.k19 (by kernel_rfl) ?_
          refine S_region 5 (Code.ops obj_Heap_field.k18) (by kernel_rfl) ?_
          refine N_run 2 [(8, .int .i64 0), (9, .int .i64 4)] (fun w => by kernel_rfl) ?_
          refine N_end (by kernel_rfl) ?_
          refine S_then ?_
          refine S_ret (by kernel_rfl) ?_
          show At _ _ _ _ (Q .ret)
          exact S_done (fn := Try.f63) [.int .i64 0, .int .i64 4] hQ (show ResOK _ _ _ [.tmp 8, .tmp 9] _ from .tmp (by kernel_rfl) (.tmp (by kernel_rfl) (.nil))) h
        · rw [if_neg c7] at h
          have b8 : ((decide (i < 0)) || (decide (i ≥ rc))) = false := eq_false_of_ne_true c7
          refine S_env [(3, .int .i64 i), (10, .int .i64 ra), (32, .bool false)] (by simp only [b8, Bool.not_true, Bool.not_false]) ?_
          clear b8
          refine S_condF (.tmp 32) obj_Heap_field.k16 obj_Heap_field.k17 (by kernel_rfl) (by kernel_rfl) ?_
          refine S_skip (by kernel_rfl) ?_
          refine S_blockEnd ?_
          refine S_then ?_
          refine S_seq obj_Heap_field.k20 obj_Heap_field.k21 (by kernel_rfl) ?_
          refine S_region 6 (Code.ops obj_Heap_field.k20) (by kernel_rfl) ?_
          refine N_run 6 [(8, .int .i64 (IntKind.wrap .i64 ((IntKind.wrap .i64 (ra + 1)) + i))), (9, .int .i64 0)] (fun w => by kernel_rfl) ?_
          refine N_end (by kernel_rfl) ?_
          refine S_then ?_
          refine S_ret (by kernel_rfl) ?_
          show At _ _ _ _ (Q .ret)
          exact S_done (fn := Try.f63) [.int .i64 (IntKind.wrap .i64 ((IntKind.wrap .i64 (ra + 1)) + i)), .int .i64 0] hQ (show ResOK _ _ _ [.tmp 8, .tmp 9] _ from .tmp (by kernel_rfl) (.tmp (by kernel_rfl) (.nil))) h
      · intro hk
        refine N_run 3 [(3, .int .i64 i), (10, .int .i64 ra), (12, .int .i64 rc), (35, .bool (decide (i < 0)))] (fun w => by kernel_rfl) ?_
        by_cases c5 : i < 0
        · have b6 : (decide (i < 0)) = true := decide_eq_true c5
          refine N_env [(3, .int .i64 i), (10, .int .i64 ra), (12, .int .i64 rc), (35, .bool true)] (by simp only [b6, Bool.not_true, Bool.not_false]) ?_
          refine N_run 5 [(3, .int .i64 i), (10, .int .i64 ra), (32, .bool true)] (fun w => by kernel_rfl) ?_
          refine N_end (by kernel_rfl) ?_
          refine S_env [(3, .int .i64 i), (10, .int .i64 ra), (32, .bool ((decide (i < 0)) || (decide (i ≥ rc))))] (by simp only [b6, Bool.true_or, Bool.false_or, Bool.or_true, Bool.or_false, Bool.true_and, Bool.false_and, Bool.and_true, Bool.and_false, Bool.not_true, Bool.not_false, cond_true, cond_false]) ?_
          exact hk
        · have b6 : (decide (i < 0)) = false := decide_eq_false c5
          refine N_env [(3, .int .i64 i), (10, .int .i64 ra), (12, .int .i64 rc), (35, .bool false)] (by simp only [b6, Bool.not_true, Bool.not_false]) ?_
          refine N_run 5 [(3, .int .i64 i), (10, .int .i64 ra), (32, .bool (decide (i ≥ rc)))] (fun w => by kernel_rfl) ?_
          refine N_end (by kernel_rfl) ?_
          refine S_env [(3, .int .i64 i), (10, .int .i64 ra), (32, .bool ((decide (i < 0)) || (decide (i ≥ rc))))] (by simp only [b6, Bool.true_or, Bool.false_or, Bool.or_true, Bool.or_false, Bool.true_and, Bool.false_and, Bool.and_true, Bool.and_false, Bool.not_true, Bool.not_false, cond_true, cond_false]) ?_
          exact hk
  · intro hk
    refine N_run 3 [(2, .int .i64 kind), (3, .int .i64 i), (10, .int .i64 ra), (11, .int .i64 rb), (12, .int .i64 rc), (27, .bool (!re))] (fun w => by kernel_rfl) ?_
    by_cases c1 : re = true
    · have b2 : (!re) = false := congrArg Bool.not (c1)
      have b22 : re = true := c1
      refine N_env [(2, .int .i64 kind), (3, .int .i64 i), (10, .int .i64 ra), (11, .int .i64 rb), (12, .int .i64 rc), (27, .bool false)] (by simp only [b2, b22, Bool.not_true, Bool.not_false]) ?_
      refine N_run 5 [(3, .int .i64 i), (10, .int .i64 ra), (12, .int .i64 rc), (24, .bool (rb != kind))] (fun w => by kernel_rfl) ?_
      refine N_end (by kernel_rfl) ?_
      refine S_env [(3, .int .i64 i), (10, .int .i64 ra), (12, .int .i64 rc), (24, .bool ((!re) || (rb != kind)))] (by simp only [b2, Bool.true_or, Bool.false_or, Bool.or_true, Bool.or_false, Bool.true_and, Bool.false_and, Bool.and_true, Bool.and_false, Bool.not_true, Bool.not_false, cond_true, cond_false]) ?_
      exact hk
    · have b2 : (!re) = true := congrArg Bool.not (eq_false_of_ne_true c1)
      have b22 : re = false := eq_false_of_ne_true c1
      refine N_env [(2, .int .i64 kind), (3, .int .i64 i), (10, .int .i64 ra), (11, .int .i64 rb), (12, .int .i64 rc), (27, .bool true)] (by simp only [b2, b22, Bool.not_true, Bool.not_false]) ?_
      refine N_run 5 [(3, .int .i64 i), (10, .int .i64 ra), (12, .int .i64 rc), (24, .bool true)] (fun w => by kernel_rfl) ?_
      refine N_end (by kernel_rfl) ?_
      refine S_env [(3, .int .i64 i), (10, .int .i64 ra), (12, .int .i64 rc), (24, .bool ((!re) || (rb != kind)))] (by simp only [b2, Bool.true_or, Bool.false_or, Bool.or_true, Bool.or_false, Bool.true_and, Bool.false_and, Bool.and_true, Bool.and_false, Bool.not_true, Bool.not_false, cond_true, cond_false]) ?_
      exact hk

/-! (*moraine/obj.Heap).half -/
noncomputable def obj_Heap_half.k0 : Code := Func.code Try.f65
noncomputable def obj_Heap_half.k1 : Code := Code.fa obj_Heap_half.k0
noncomputable def obj_Heap_half.k2 : Code := Code.fb obj_Heap_half.k0
noncomputable def obj_Heap_half.k3 : Code := Code.fa obj_Heap_half.k2
noncomputable def obj_Heap_half.k4 : Code := Code.fb obj_Heap_half.k2
noncomputable def obj_Heap_half.k5 : Code := Code.fa obj_Heap_half.k4
noncomputable def obj_Heap_half.k6 : Code := Code.fb obj_Heap_half.k4
noncomputable def obj_Heap_half.k7 : Code := Code.fa obj_Heap_half.k5
noncomputable def obj_Heap_half.k8 : Code := Code.fb obj_Heap_half.k5
noncomputable def obj_Heap_half.k9 : Code := Code.fa obj_Heap_half.k8
noncomputable def obj_Heap_half.k10 : Code := Code.fb obj_Heap_half.k8
noncomputable def obj_Heap_half.k11 : Code := Code.fa obj_Heap_half.k6
noncomputable def obj_Heap_half.k12 : Code := Code.fb obj_Heap_half.k6
noncomputable def obj_Heap_half.k13 : Code := Code.fa obj_Heap_half.k9
noncomputable def obj_Heap_half.k14 : Code := Code.fb obj_Heap_half.k9
def obj_Heap_half.pt (hv : Option Addr) (wv : Int) (i : Int) (H : Array Obj) (R : Value → Array Obj → Prop) : Prop :=
 obj_Heap_pair.C hv wv H (fun v H1 => ∃ ra : Int, ∃ rb : Bool, v = .tuple #[.int .i64 ra, .bool rb] ∧ 
  if rb = true then (
   ∃ hvA : Addr, hv = some hvA ∧
   ∃ x : Option Addr, hat H1 hvA = some (.pointer x) ∧
   ∃ xA : Addr, x = some xA ∧
   ∃ x_2 : Option Addr, hat H1 xA = some (.pointer x_2) ∧
   ∃ x2A : Addr, x_2 = some x2A ∧
   ∃ x_3 : Option Addr, hat H1 x2A = some (.pointer x_3) ∧
   seg_Mem_Read.C x_3 (IntKind.wrap .i64 (ra + i)) H1 (fun v_2 H2 => ∃ ra_2 : Int, ∃ rb_2 : Int, v_2 = .tuple #[.int .u64 ra_2, .int .i64 rb_2] ∧ 
    R (.tuple #[.int .u64 ra_2, .int .i64 rb_2]) H2))
  else
  R (.tuple #[.int .u64 0, .int .i64 3]) H1)
set_option maxRecDepth 100000 in
theorem obj_Heap_half.link {hv : Option Addr} {wv : Int} {i : Int} {H : Array Obj} {R : Value → Array Obj → Prop} (h : obj_Heap_half.pt hv wv i H R) : obj_Heap_half.C hv wv i H R := by
  refine S_enter (fn := Try.f65) (c := obj_Heap_half.k0) 34 Try.func65 (by kernel_rfl) (by kernel_rfl) (Nat.le_of_ble_eq_true (by kernel_rfl)) ?_
  intro w0 Q hQ
  unfold obj_Heap_half.pt at h
  refine S_sub [(0, .pointer hv), (1, .int .u64 wv), (2, .int .i64 i)] (sb (by kernel_rfl)) ?_
  refine S_seq obj_Heap_half.k1 obj_Heap_half.k2 (by kernel_rfl) ?_
  refine S_region 0 (Code.ops obj_Heap_half.k1) (by kernel_rfl) ?_
  refine N_run 2 [(0, .pointer hv), (1, .int .u64 wv), (2, .int .i64 i)] (fun w => by kernel_rfl) ?_
  refine N_end (by kernel_rfl) ?_
  refine S_then ?_
  refine S_seq obj_Heap_half.k3 obj_Heap_half.k4 (by kernel_rfl) ?_
  refine S_region 1 (Code.ops obj_Heap_half.k3) (by kernel_rfl) ?_
  refine N_run 2 [(0, .pointer hv), (2, .int .i64 i), (11, .pointer hv), (12, .int .u64 wv)] (fun w => by kernel_rfl) ?_
  refine N_call (some 13) 77 #[.pointer hv, .int .u64 wv] (fun w => by kernel_rfl) h ?_; clear h
  rintro v H1 ⟨ra, rb, rfl, h⟩
  refine ⟨[(0, .pointer hv), (2, .int .i64 i), (13, .tuple #[.int .i64 ra, .bool rb])], ps (by kernel_rfl), ?_⟩
  refine N_run 5 [(0, .pointer hv), (2, .int .i64 i), (8, .int .i64 ra), (9, .bool rb)] (fun w => by kernel_rfl) ?_
  refine N_end (by kernel_rfl) ?_
  refine S_then ?_
  refine S_seq obj_Heap_half.k5 obj_Heap_half.k6 (by kernel_rfl) ?_
  refine S_seq obj_Heap_half.k7 obj_Heap_half.k8 (by kernel_rfl) ?_
  refine S_region 2 (Code.ops obj_Heap_half.k7) (by kernel_rfl) ?_
  refine N_run 2 [(0, .pointer hv), (2, .int .i64 i), (8, .int .i64 ra), (17, .bool (!rb))] (fun w => by kernel_rfl) ?_
  refine N_end (by kernel_rfl) ?_
  refine S_then ?_
  by_cases c1 : rb = true
  · rw [if_pos c1] at h
    have b2 : (!rb) = false := congrArg Bool.not (c1)
    have b22 : rb = true := c1
    refine S_env [(0, .pointer hv), (2, .int .i64 i), (8, .int .i64 ra), (17, .bool false)] (by simp only [b2, b22, Bool.not_true, Bool.not_false]) ?_
    clear b2 b22
    refine S_condF (.tmp 17) obj_Heap_half.k9 obj_Heap_half.k10 (by kernel_rfl) (by kernel_rfl) ?_
    refine S_skip (by kernel_rfl) ?_
    refine S_then ?_
    refine S_seq obj_Heap_half.k11 obj_Heap_half.k12 (by kernel_rfl) ?_
    refine S_region 4 (Code.ops obj_Heap_half.k11) (by kernel_rfl) ?_
    refine N_run 1 [(2, .int .i64 i), (8, .int .i64 ra), (18, .pointer hv)] (fun w => by kernel_rfl) ?_
    obtain ⟨hvA, rfl, h⟩ := h
    refine N_run 2 [(2, .int .i64 i), (8, .int .i64 ra), (20, .pointer (some hvA))] (fun w => by kernel_rfl) ?_
    obtain ⟨x, q3, h⟩ := h
    refine N_val (some 21) (loadN 57 (.pointer (some hvA))) (.pointer x) (fun w => by kernel_rfl) (loadN_run (loadOK_one (fun w => by kernel_rfl) q3)) [(2, .int .i64 i), (8, .int .i64 ra), (21, .pointer x)] (ps (by kernel_rfl)) ?_
    obtain ⟨xA, rfl, h⟩ := h
    refine N_run 2 [(2, .int .i64 i), (8, .int .i64 ra), (23, .pointer (some xA))] (fun w => by kernel_rfl) ?_
    obtain ⟨x_2, q4, h⟩ := h
    refine N_val (some 24) (loadN 107 (.pointer (some xA))) (.pointer x_2) (fun w => by kernel_rfl) (loadN_run (loadOK_one (fun w => by kernel_rfl) q4)) [(2, .int .i64 i), (8, .int .i64 ra), (24, .pointer x_2)] (ps (by kernel_rfl)) ?_
    obtain ⟨x2A, rfl, h⟩ := h
    refine N_run 2 [(2, .int .i64 i), (8, .int .i64 ra), (26, .pointer (some x2A))] (fun w => by kernel_rfl) ?_
    obtain ⟨x_3, q5, h⟩ := h
    refine N_val (some 27) (loadN 124 (.pointer (some x2A))) (.pointer x_3) (fun w => by kernel_rfl) (loadN_run (loadOK_one (fun w => by kernel_rfl) q5)) [(2, .int .i64 i), (8, .int .i64 ra), (27, .pointer x_3)] (ps (by kernel_rfl)) ?_
    refine N_run 3 [(27, .pointer x_3), (30, .int .i64 (IntKind.wrap .i64 (ra + i)))] (fun w => by kernel_rfl) ?_
    refine N_call (some 31) 67 #[.pointer x_3, .int .i64 (IntKind.wrap .i64 (ra + i))] (fun w => by kernel_rfl) h ?_; clear h
    rintro v_2 H2 ⟨ra_2, rb_2, rfl, h⟩
    refine ⟨[(31, .tuple #[.int .u64 ra_2, .int .i64 rb_2])], ps (by kernel_rfl), ?_⟩
    refine N_run 4 [(6, .int .u64 ra_2), (7, .int .i64 rb_2)] (fun w => by kernel_rfl) ?_
    refine N_end (by kernel_rfl) ?_
    refine S_then ?_
    refine S_ret (by kernel_rfl) ?_
    show At _ _ _ _ (Q .ret)
    exact S_done (fn := Try.f65) [.int .u64 ra_2, .int .i64 rb_2] hQ (show ResOK _ _ _ [.tmp 6, .tmp 7] _ from .tmp (by kernel_rfl) (.tmp (by kernel_rfl) (.nil))) h
  · rw [if_neg c1] at h
    have b2 : (!rb) = true := congrArg Bool.not (eq_false_of_ne_true c1)
    have b22 : rb = false := eq_false_of_ne_true c1
    refine S_env [(0, .pointer hv), (2, .int .i64 i), (8, .int .i64 ra), (17, .bool true)] (by simp only [b2, b22, Bool.not_true, Bool.not_false]) ?_
    clear b2 b22
    refine S_condT (.tmp 17) obj_Heap_half.k9 obj_Heap_half.k10 (by kernel_rfl) (by kernel_rfl) ?_
    refine S_seq obj_Heap_half.k13 obj_Heap_half.k14 (by kernel_rfl) ?_
    refine S_region 3 (Code.ops obj_Heap_half.k13) (by kernel_rfl) ?_
    refine N_run 2 [(6, .int .u64 0), (7, .int .i64 3)] (fun w => by kernel_rfl) ?_
    refine N_end (by kernel_rfl) ?_
    refine S_then ?_
    refine S_ret (by kernel_rfl) ?_
    show At _ _ _ _ (Q .ret)
    exact S_done (fn := Try.f65) [.int .u64 0, .int .i64 3] hQ (show ResOK _ _ _ [.tmp 6, .tmp 7] _ from .tmp (by kernel_rfl) (.tmp (by kernel_rfl) (.nil))) h

/-! (*moraine/obj.Heap).object -/
noncomputable def obj_Heap_object.k0 : Code := Func.code Try.f66
noncomputable def obj_Heap_object.k1 : Code := Code.fa obj_Heap_object.k0
noncomputable def obj_Heap_object.k2 : Code := Code.fb obj_Heap_object.k0
noncomputable def obj_Heap_object.k3 : Code := Code.fa obj_Heap_object.k2
noncomputable def obj_Heap_object.k4 : Code := Code.fb obj_Heap_object.k2
noncomputable def obj_Heap_object.k5 : Code := Code.fa obj_Heap_object.k3
noncomputable def obj_Heap_object.k6 : Code := Code.fb obj_Heap_object.k3
noncomputable def obj_Heap_object.k7 : Code := Code.fa obj_Heap_object.k6
noncomputable def obj_Heap_object.k8 : Code := Code.fa obj_Heap_object.k7
noncomputable def obj_Heap_object.k9 : Code := Code.fa obj_Heap_object.k8
noncomputable def obj_Heap_object.k10 : Code := Code.fb obj_Heap_object.k8
noncomputable def obj_Heap_object.k11 : Code := Code.fa obj_Heap_object.k10
noncomputable def obj_Heap_object.k12 : Code := Code.fb obj_Heap_object.k10
noncomputable def obj_Heap_object.k13 : Code := Code.fa obj_Heap_object.k11
noncomputable def obj_Heap_object.k14 : Code := Code.fb obj_Heap_object.k11
noncomputable def obj_Heap_object.k15 : Code := Code.fa obj_Heap_object.k12
noncomputable def obj_Heap_object.k16 : Code := Code.fb obj_Heap_object.k12
noncomputable def obj_Heap_object.k17 : Code := Code.fa obj_Heap_object.k15
noncomputable def obj_Heap_object.k18 : Code := Code.fa obj_Heap_object.k17
noncomputable def obj_Heap_object.k19 : Code := Code.fb obj_Heap_object.k17
noncomputable def obj_Heap_object.k20 : Code := Code.fa obj_Heap_object.k19
noncomputable def obj_Heap_object.k21 : Code := Code.fb obj_Heap_object.k19
noncomputable def obj_Heap_object.k22 : Code := Code.fa obj_Heap_object.k20
noncomputable def obj_Heap_object.k23 : Code := Code.fb obj_Heap_object.k20
noncomputable def obj_Heap_object.k24 : Code := Code.fa obj_Heap_object.k23
noncomputable def obj_Heap_object.k25 : Code := Code.fb obj_Heap_object.k23
noncomputable def obj_Heap_object.k26 : Code := Code.fa obj_Heap_object.k25
noncomputable def obj_Heap_object.k27 : Code := Code.fb obj_Heap_object.k25
noncomputable def obj_Heap_object.k28 : Code := Code.fa obj_Heap_object.k21
noncomputable def obj_Heap_object.k29 : Code := Code.fb obj_Heap_object.k21
noncomputable def obj_Heap_object.k30 : Code := Code.fa obj_Heap_object.k29
noncomputable def obj_Heap_object.k31 : Code := Code.fb obj_Heap_object.k29
noncomputable def obj_Heap_object.k32 : Code := Code.fa obj_Heap_object.k31
noncomputable def obj_Heap_object.k33 : Code := Code.fb obj_Heap_object.k31
noncomputable def obj_Heap_object.k34 : Code := Code.fa obj_Heap_object.k33
noncomputable def obj_Heap_object.k35 : Code := Code.fb obj_Heap_object.k33
noncomputable def obj_Heap_object.k36 : Code := Code.fa obj_Heap_object.k35
noncomputable def obj_Heap_object.k37 : Code := Code.fb obj_Heap_object.k35
noncomputable def obj_Heap_object.k38 : Code := Code.fa obj_Heap_object.k36
noncomputable def obj_Heap_object.k39 : Code := Code.fb obj_Heap_object.k36
noncomputable def obj_Heap_object.k40 : Code := Code.fa obj_Heap_object.k4
noncomputable def obj_Heap_object.k41 : Code := Code.fb obj_Heap_object.k4
def obj_Heap_object.pt (hv : Option Addr) (wv : Int) (H : Array Obj) (R : Value → Array Obj → Prop) : Prop :=
 ∃ (I9 : Int → Array Obj → Prop) (m9 : Int → Array Obj → Nat), I9 0 H ∧ ∀ (s16 : Int) (H1 : Array Obj), I9 s16 H1 →
 if s16 < 2 then (
  ∃ x : Int, ((0 ≤ s16 ∧ s16 < (2 : Int)) ∧ (#[.int .i64 2, .int .i64 3] : Array Value)[Int.toNat s16]? = some (.int .i64 x)) ∧
  obj_Heap_at.C hv wv 3 x H1 (fun v H2 => ∃ ra : Int, ∃ rb : Bool, v = .tuple #[.int .i64 ra, .bool rb] ∧ 
   if rb = true then (
    ∃ hvA : Addr, hv = some hvA ∧
    ∃ x_2 : Option Addr, hat H2 hvA = some (.pointer x_2) ∧
    ∃ x2A : Addr, x_2 = some x2A ∧
    ∃ x_3 : Option Addr, hat H2 x2A = some (.pointer x_3) ∧
    ∃ x3A : Addr, x_3 = some x3A ∧
    ∃ x_4 : Option Addr, hat H2 x3A = some (.pointer x_4) ∧
    seg_Mem_Read.C x_4 ra H2 (fun v_2 H3 => ∃ ra_2 : Int, ∃ rb_2 : Int, v_2 = .tuple #[.int .u64 ra_2, .int .i64 rb_2] ∧ 
     word_Head.C ra_2 H3 (fun v_3 H4 => ∃ ra_3 : Int, ∃ rb_3 : Int, ∃ rc : Int, ∃ rd : Bool, v_3 = .tuple #[.int .i64 ra_3, .int .i64 rb_3, .int .u64 rc, .bool rd] ∧ 
      ∃ x_5 : Option Addr, hat H4 hvA = some (.pointer x_5) ∧
      ∃ x5A : Addr, x_5 = some x5A ∧
      ∃ x_6 : Option Addr, hat H4 x5A = some (.pointer x_6) ∧
      ∃ x6A : Addr, x_6 = some x6A ∧
      ∃ x_7 : Option Addr, hat H4 x6A = some (.pointer x_7) ∧
      seg_Mem_Seg.C x_7 (IntKind.wrap .i64 (Int.tdiv ra 64)) H4 (fun v_4 H5 => ∃ raGen : Int, ∃ raKind : Int, ∃ raN : Int, ∃ raCardsi0 : Int, ∃ raCardsi1 : Int, ∃ raCardsi2 : Int, ∃ raCardsi3 : Int, ∃ rb_4 : Bool, v_4 = .tuple #[.agg #[.int .i64 raGen, .int .i64 raKind, .int .i64 raN, .int .i64 raCardsi0, .int .i64 raCardsi1, .int .i64 raCardsi2, .int .i64 raCardsi3], .bool rb_4] ∧ 
       ∀ (b : Nat) (H6 : Array Obj), b = H5.size → H6 = H5.push (.cells #[.int .i64 0, .int .i64 0, .int .i64 0, .int .i64 0, .int .i64 0, .int .i64 0, .int .i64 0] 144) →
       (CanPuts H6 (Addr.mk b 0 none) 0 7) ∧ ∀ H7 : Array Obj, H7 = hputs H6 (Addr.mk b 0 none) [.int .i64 raGen, .int .i64 raKind, .int .i64 raN, .int .i64 raCardsi0, .int .i64 raCardsi1, .int .i64 raCardsi2, .int .i64 raCardsi3] 0 →
       if rd = true then (
        obj_raw.C ra_3 H7 (fun v_5 H8 => ∃ x_8 : Int, v_5 = .int .i64 x_8 ∧ 
         if x_8 = x then (
          ∃ x_9 : Int, hat H8 ((Addr.mk b 0 none).add 2) = some (.int .i64 x_9) ∧
          if (IntKind.wrap .i64 ((Int.tmod ra 64) + rb_3)) < x_9 then (
           R (.tuple #[.int .i64 ra, .int .i64 ra_3, .int .i64 rb_3, .int .u64 rc, .bool true]) H8)
          else
          (I9 (IntKind.wrap .i64 (s16 + 1)) H8 ∧ m9 (IntKind.wrap .i64 (s16 + 1)) H8 < m9 s16 H1))
         else
         (I9 (IntKind.wrap .i64 (s16 + 1)) H8 ∧ m9 (IntKind.wrap .i64 (s16 + 1)) H8 < m9 s16 H1)))
       else
       (I9 (IntKind.wrap .i64 (s16 + 1)) H7 ∧ m9 (IntKind.wrap .i64 (s16 + 1)) H7 < m9 s16 H1)))))
   else
   (I9 (IntKind.wrap .i64 (s16 + 1)) H2 ∧ m9 (IntKind.wrap .i64 (s16 + 1)) H2 < m9 s16 H1)))
 else
 R (.tuple #[.int .i64 0, .int .i64 0, .int .i64 0, .int .u64 0, .bool false]) H1
set_option maxRecDepth 100000 in
theorem obj_Heap_object.link {hv : Option Addr} {wv : Int} {H : Array Obj} {R : Value → Array Obj → Prop} (h : obj_Heap_object.pt hv wv H R) : obj_Heap_object.C hv wv H R := by
  refine S_enter (fn := Try.f66) (c := obj_Heap_object.k0) 87 Try.func66 (by kernel_rfl) (by kernel_rfl) (Nat.le_of_ble_eq_true (by kernel_rfl)) ?_
  intro w0 Q hQ
  unfold obj_Heap_object.pt at h
  refine S_sub [(0, .pointer hv), (1, .int .u64 wv)] (sb (by kernel_rfl)) ?_
  refine S_seq obj_Heap_object.k1 obj_Heap_object.k2 (by kernel_rfl) ?_
  refine S_region 0 (Code.ops obj_Heap_object.k1) (by kernel_rfl) ?_
  refine N_run 5 [(0, .pointer hv), (1, .int .u64 wv)] (fun w => by kernel_rfl) ?_
  refine N_end (by kernel_rfl) ?_
  refine S_then ?_
  refine S_seq obj_Heap_object.k3 obj_Heap_object.k4 (by kernel_rfl) ?_
  refine S_seq obj_Heap_object.k5 obj_Heap_object.k6 (by kernel_rfl) ?_
  refine S_region 1 (Code.ops obj_Heap_object.k5) (by kernel_rfl) ?_
  refine N_run 2 [(0, .pointer hv), (1, .int .u64 wv), (15, .agg #[.int .i64 2, .int .i64 3]), (16, .int .i64 0)] (fun w => by kernel_rfl) ?_
  refine N_end (by kernel_rfl) ?_
  refine S_then ?_
  refine S_block 0 obj_Heap_object.k7 (by kernel_rfl) ?_
  obtain ⟨I9, m9, i1, i2⟩ := h
  refine S_loop (x := obj_Heap_object.k8) (σ := Int) (fun s_ => [(0, .pointer hv), (1, .int .u64 wv), (15, .agg #[.int .i64 2, .int .i64 3]), (16, .int .i64 s_)]) (fun s_ H => I9 s_ H) (fun s_ H => m9 s_ H) (0 : Int) (by kernel_rfl) i1 (sb (by kernel_rfl)) ?_
  rintro s16 H1 i3
  have h := i2 s16 H1 i3
  refine S_sub [(0, .pointer hv), (1, .int .u64 wv), (15, .agg #[.int .i64 2, .int .i64 3]), (16, .int .i64 s16)] (sb (by kernel_rfl)) ?_
  refine S_seq obj_Heap_object.k9 obj_Heap_object.k10 (by kernel_rfl) ?_
  refine S_region 2 (Code.ops obj_Heap_object.k9) (by kernel_rfl) ?_
  refine N_run 1 [(0, .pointer hv), (1, .int .u64 wv), (15, .agg #[.int .i64 2, .int .i64 3]), (16, .int .i64 s16), (17, .bool (decide (s16 < 2)))] (fun w => by kernel_rfl) ?_
  refine N_end (by kernel_rfl) ?_
  refine S_then ?_
  refine S_seq obj_Heap_object.k11 obj_Heap_object.k12 (by kernel_rfl) ?_
  by_cases c4 : s16 < 2
  · rw [if_pos c4] at h
    have b5 : (decide (s16 < 2)) = true := decide_eq_true c4
    refine S_env [(0, .pointer hv), (1, .int .u64 wv), (15, .agg #[.int .i64 2, .int .i64 3]), (16, .int .i64 s16), (17, .bool true)] (by simp only [b5, Bool.not_true, Bool.not_false]) ?_
    clear b5
    refine S_condT (.tmp 17) obj_Heap_object.k13 obj_Heap_object.k14 (by kernel_rfl) (by kernel_rfl) ?_
    refine S_skip (by kernel_rfl) ?_
    refine S_then ?_
    refine S_seq obj_Heap_object.k15 obj_Heap_object.k16 (by kernel_rfl) ?_
    refine S_block 1 obj_Heap_object.k17 (by kernel_rfl) ?_
    refine S_seq obj_Heap_object.k18 obj_Heap_object.k19 (by kernel_rfl) ?_
    refine S_region 3 (Code.ops obj_Heap_object.k18) (by kernel_rfl) ?_
    refine N_sub [(0, .pointer hv), (1, .int .u64 wv), (15, .agg #[.int .i64 2, .int .i64 3]), (16, .int .i64 s16)] (sb (by kernel_rfl)) ?_
    obtain ⟨x, q6, h⟩ := h
    refine N_val (some 18) (indexN 154 (.agg #[.int .i64 2, .int .i64 3]) (.int .i64 s16)) (.int .i64 x) (fun w => by kernel_rfl) (fun w _ => indexAgg_run (P := Try.prog) (t := 154) (elem := 3) (n := 2) Try.underlying154 (fun w => by kernel_rfl) (fun w => by kernel_rfl) q6.1.1 q6.1.2 q6.2 w) [(0, .pointer hv), (1, .int .u64 wv), (15, .agg #[.int .i64 2, .int .i64 3]), (16, .int .i64 s16), (18, .int .i64 x)] (ps (by kernel_rfl)) ?_
    refine N_run 1 [(0, .pointer hv), (1, .int .u64 wv), (10, .int .i64 x), (15, .agg #[.int .i64 2, .int .i64 3]), (16, .int .i64 s16)] (fun w => by kernel_rfl) ?_
    refine N_end (by kernel_rfl) ?_
    refine S_then ?_
    refine S_seq obj_Heap_object.k20 obj_Heap_object.k21 (by kernel_rfl) ?_
    refine S_seq obj_Heap_object.k22 obj_Heap_object.k23 (by kernel_rfl) ?_
    refine S_region 4 (Code.ops obj_Heap_object.k22) (by kernel_rfl) ?_
    refine N_run 3 [(0, .pointer hv), (1, .int .u64 wv), (10, .int .i64 x), (15, .agg #[.int .i64 2, .int .i64 3]), (16, .int .i64 s16), (20, .pointer hv), (21, .int .u64 wv), (22, .int .i64 x)] (fun w => by kernel_rfl) ?_
    refine N_call (some 23) 93 #[.pointer hv, .int .u64 wv, .int .i64 3, .int .i64 x] (fun w => by kernel_rfl) h ?_; clear h
    rintro v H2 ⟨ra, rb, rfl, h⟩
    refine ⟨[(0, .pointer hv), (1, .int .u64 wv), (10, .int .i64 x), (15, .agg #[.int .i64 2, .int .i64 3]), (16, .int .i64 s16), (23, .tuple #[.int .i64 ra, .bool rb])], ps (by kernel_rfl), ?_⟩
    refine N_run 5 [(0, .pointer hv), (1, .int .u64 wv), (4, .int .i64 ra), (8, .bool rb), (10, .int .i64 x), (15, .agg #[.int .i64 2, .int .i64 3]), (16, .int .i64 s16)] (fun w => by kernel_rfl) ?_
    refine N_end (by kernel_rfl) ?_
    refine S_then ?_
    refine S_seq obj_Heap_object.k24 obj_Heap_object.k25 (by kernel_rfl) ?_
    refine S_region 5 (Code.ops obj_Heap_object.k24) (by kernel_rfl) ?_
    refine N_run 2 [(0, .pointer hv), (1, .int .u64 wv), (4, .int .i64 ra), (10, .int .i64 x), (15, .agg #[.int .i64 2, .int .i64 3]), (16, .int .i64 s16), (27, .bool (!rb))] (fun w => by kernel_rfl) ?_
    refine N_end (by kernel_rfl) ?_
    refine S_then ?_
    by_cases c7 : rb = true
    · rw [if_pos c7] at h
      have b8 : (!rb) = false := congrArg Bool.not (c7)
      have b82 : rb = true := c7
      refine S_env [(0, .pointer hv), (1, .int .u64 wv), (4, .int .i64 ra), (10, .int .i64 x), (15, .agg #[.int .i64 2, .int .i64 3]), (16, .int .i64 s16), (27, .bool false)] (by simp only [b8, b82, Bool.not_true, Bool.not_false]) ?_
      clear b8 b82
      refine S_condF (.tmp 27) obj_Heap_object.k26 obj_Heap_object.k27 (by kernel_rfl) (by kernel_rfl) ?_
      refine S_skip (by kernel_rfl) ?_
      refine S_then ?_
      refine S_seq obj_Heap_object.k28 obj_Heap_object.k29 (by kernel_rfl) ?_
      refine S_region 6 (Code.ops obj_Heap_object.k28) (by kernel_rfl) ?_
      refine N_run 1 [(0, .pointer hv), (1, .int .u64 wv), (4, .int .i64 ra), (10, .int .i64 x), (15, .agg #[.int .i64 2, .int .i64 3]), (16, .int .i64 s16), (29, .pointer hv)] (fun w => by kernel_rfl) ?_
      obtain ⟨hvA, rfl, h⟩ := h
      refine N_run 2 [(0, .pointer (some hvA)), (1, .int .u64 wv), (4, .int .i64 ra), (10, .int .i64 x), (15, .agg #[.int .i64 2, .int .i64 3]), (16, .int .i64 s16), (31, .pointer (some hvA))] (fun w => by kernel_rfl) ?_
      obtain ⟨x_2, q9, h⟩ := h
      refine N_val (some 32) (loadN 57 (.pointer (some hvA))) (.pointer x_2) (fun w => by kernel_rfl) (loadN_run (loadOK_one (fun w => by kernel_rfl) q9)) [(0, .pointer (some hvA)), (1, .int .u64 wv), (4, .int .i64 ra), (10, .int .i64 x), (15, .agg #[.int .i64 2, .int .i64 3]), (16, .int .i64 s16), (32, .pointer x_2)] (ps (by kernel_rfl)) ?_
      obtain ⟨x2A, rfl, h⟩ := h
      refine N_run 2 [(0, .pointer (some hvA)), (1, .int .u64 wv), (4, .int .i64 ra), (10, .int .i64 x), (15, .agg #[.int .i64 2, .int .i64 3]), (16, .int .i64 s16), (34, .pointer (some x2A))] (fun w => by kernel_rfl) ?_
      obtain ⟨x_3, q10, h⟩ := h
      refine N_val (some 35) (loadN 107 (.pointer (some x2A))) (.pointer x_3) (fun w => by kernel_rfl) (loadN_run (loadOK_one (fun w => by kernel_rfl) q10)) [(0, .pointer (some hvA)), (1, .int .u64 wv), (4, .int .i64 ra), (10, .int .i64 x), (15, .agg #[.int .i64 2, .int .i64 3]), (16, .int .i64 s16), (35, .pointer x_3)] (ps (by kernel_rfl)) ?_
      obtain ⟨x3A, rfl, h⟩ := h
      refine N_run 2 [(0, .pointer (some hvA)), (1, .int .u64 wv), (4, .int .i64 ra), (10, .int .i64 x), (15, .agg #[.int .i64 2, .int .i64 3]), (16, .int .i64 s16), (37, .pointer (some x3A))] (fun w => by kernel_rfl) ?_
      obtain ⟨x_4, q11, h⟩ := h
      refine N_val (some 38) (loadN 124 (.pointer (some x3A))) (.pointer x_4) (fun w => by kernel_rfl) (loadN_run (loadOK_one (fun w => by kernel_rfl) q11)) [(0, .pointer (some hvA)), (1, .int .u64 wv), (4, .int .i64 ra), (10, .int .i64 x), (15, .agg #[.int .i64 2, .int .i64 3]), (16, .int .i64 s16), (38, .pointer x_4)] (ps (by kernel_rfl)) ?_
      refine N_run 1 [(0, .pointer (some hvA)), (1, .int .u64 wv), (4, .int .i64 ra), (10, .int .i64 x), (15, .agg #[.int .i64 2, .int .i64 3]), (16, .int .i64 s16), (38, .pointer x_4), (39, .int .i64 ra)] (fun w => by kernel_rfl) ?_
      refine N_call (some 40) 67 #[.pointer x_4, .int .i64 ra] (fun w => by kernel_rfl) h ?_; clear h
      rintro v_2 H3 ⟨ra_2, rb_2, rfl, h⟩
      refine ⟨[(0, .pointer (some hvA)), (1, .int .u64 wv), (4, .int .i64 ra), (10, .int .i64 x), (15, .agg #[.int .i64 2, .int .i64 3]), (16, .int .i64 s16), (40, .tuple #[.int .u64 ra_2, .int .i64 rb_2])], ps (by kernel_rfl), ?_⟩
      refine N_run 5 [(0, .pointer (some hvA)), (1, .int .u64 wv), (4, .int .i64 ra), (10, .int .i64 x), (11, .int .u64 ra_2), (15, .agg #[.int .i64 2, .int .i64 3]), (16, .int .i64 s16)] (fun w => by kernel_rfl) ?_
      refine N_end (by kernel_rfl) ?_
      refine S_then ?_
      refine S_seq obj_Heap_object.k30 obj_Heap_object.k31 (by kernel_rfl) ?_
      refine S_region 7 (Code.ops obj_Heap_object.k30) (by kernel_rfl) ?_
      refine N_run 1 [(0, .pointer (some hvA)), (1, .int .u64 wv), (4, .int .i64 ra), (10, .int .i64 x), (15, .agg #[.int .i64 2, .int .i64 3]), (16, .int .i64 s16), (44, .int .u64 ra_2)] (fun w => by kernel_rfl) ?_
      refine N_call (some 45) 94 #[.int .u64 ra_2] (fun w => by kernel_rfl) h ?_; clear h
      rintro v_3 H4 ⟨ra_3, rb_3, rc, rd, rfl, h⟩
      refine ⟨[(0, .pointer (some hvA)), (1, .int .u64 wv), (4, .int .i64 ra), (10, .int .i64 x), (15, .agg #[.int .i64 2, .int .i64 3]), (16, .int .i64 s16), (45, .tuple #[.int .i64 ra_3, .int .i64 rb_3, .int .u64 rc, .bool rd])], ps (by kernel_rfl), ?_⟩
      refine N_run 9 [(0, .pointer (some hvA)), (1, .int .u64 wv), (4, .int .i64 ra), (5, .int .i64 ra_3), (6, .int .i64 rb_3), (7, .int .u64 rc), (8, .bool rd), (10, .int .i64 x), (15, .agg #[.int .i64 2, .int .i64 3]), (16, .int .i64 s16)] (fun w => by kernel_rfl) ?_
      refine N_end (by kernel_rfl) ?_
      refine S_then ?_
      refine S_seq obj_Heap_object.k32 obj_Heap_object.k33 (by kernel_rfl) ?_
      refine S_region 8 (Code.ops obj_Heap_object.k32) (by kernel_rfl) ?_
      refine N_run 3 [(0, .pointer (some hvA)), (1, .int .u64 wv), (4, .int .i64 ra), (5, .int .i64 ra_3), (6, .int .i64 rb_3), (7, .int .u64 rc), (8, .bool rd), (10, .int .i64 x), (15, .agg #[.int .i64 2, .int .i64 3]), (16, .int .i64 s16), (53, .pointer (some hvA))] (fun w => by kernel_rfl) ?_
      obtain ⟨x_5, q12, h⟩ := h
      refine N_val (some 54) (loadN 57 (.pointer (some hvA))) (.pointer x_5) (fun w => by kernel_rfl) (loadN_run (loadOK_one (fun w => by kernel_rfl) q12)) [(0, .pointer (some hvA)), (1, .int .u64 wv), (4, .int .i64 ra), (5, .int .i64 ra_3), (6, .int .i64 rb_3), (7, .int .u64 rc), (8, .bool rd), (10, .int .i64 x), (15, .agg #[.int .i64 2, .int .i64 3]), (16, .int .i64 s16), (54, .pointer x_5)] (ps (by kernel_rfl)) ?_
      obtain ⟨x5A, rfl, h⟩ := h
      refine N_run 2 [(0, .pointer (some hvA)), (1, .int .u64 wv), (4, .int .i64 ra), (5, .int .i64 ra_3), (6, .int .i64 rb_3), (7, .int .u64 rc), (8, .bool rd), (10, .int .i64 x), (15, .agg #[.int .i64 2, .int .i64 3]), (16, .int .i64 s16), (56, .pointer (some x5A))] (fun w => by kernel_rfl) ?_
      obtain ⟨x_6, q13, h⟩ := h
      refine N_val (some 57) (loadN 107 (.pointer (some x5A))) (.pointer x_6) (fun w => by kernel_rfl) (loadN_run (loadOK_one (fun w => by kernel_rfl) q13)) [(0, .pointer (some hvA)), (1, .int .u64 wv), (4, .int .i64 ra), (5, .int .i64 ra_3), (6, .int .i64 rb_3), (7, .int .u64 rc), (8, .bool rd), (10, .int .i64 x), (15, .agg #[.int .i64 2, .int .i64 3]), (16, .int .i64 s16), (57, .pointer x_6)] (ps (by kernel_rfl)) ?_
      obtain ⟨x6A, rfl, h⟩ := h
      refine N_run 2 [(0, .pointer (some hvA)), (1, .int .u64 wv), (4, .int .i64 ra), (5, .int .i64 ra_3), (6, .int .i64 rb_3), (7, .int .u64 rc), (8, .bool rd), (10, .int .i64 x), (15, .agg #[.int .i64 2, .int .i64 3]), (16, .int .i64 s16), (59, .pointer (some x6A))] (fun w => by kernel_rfl) ?_
      obtain ⟨x_7, q14, h⟩ := h
      refine N_val (some 60) (loadN 124 (.pointer (some x6A))) (.pointer x_7) (fun w => by kernel_rfl) (loadN_run (loadOK_one (fun w => by kernel_rfl) q14)) [(0, .pointer (some hvA)), (1, .int .u64 wv), (4, .int .i64 ra), (5, .int .i64 ra_3), (6, .int .i64 rb_3), (7, .int .u64 rc), (8, .bool rd), (10, .int .i64 x), (15, .agg #[.int .i64 2, .int .i64 3]), (16, .int .i64 s16), (60, .pointer x_7)] (ps (by kernel_rfl)) ?_
      refine N_run 2 [(0, .pointer (some hvA)), (1, .int .u64 wv), (4, .int .i64 ra), (5, .int .i64 ra_3), (6, .int .i64 rb_3), (7, .int .u64 rc), (8, .bool rd), (10, .int .i64 x), (15, .agg #[.int .i64 2, .int .i64 3]), (16, .int .i64 s16), (60, .pointer x_7), (62, .int .i64 (IntKind.wrap .i64 (Int.tdiv ra 64)))] (fun w => by kernel_rfl) ?_
      refine N_call (some 63) 84 #[.pointer x_7, .int .i64 (IntKind.wrap .i64 (Int.tdiv ra 64))] (fun w => by kernel_rfl) h ?_; clear h
      rintro v_4 H5 ⟨raGen, raKind, raN, raCardsi0, raCardsi1, raCardsi2, raCardsi3, rb_4, rfl, h⟩
      refine ⟨[(0, .pointer (some hvA)), (1, .int .u64 wv), (4, .int .i64 ra), (5, .int .i64 ra_3), (6, .int .i64 rb_3), (7, .int .u64 rc), (8, .bool rd), (10, .int .i64 x), (15, .agg #[.int .i64 2, .int .i64 3]), (16, .int .i64 s16), (63, .tuple #[.agg #[.int .i64 raGen, .int .i64 raKind, .int .i64 raN, .int .i64 raCardsi0, .int .i64 raCardsi1, .int .i64 raCardsi2, .int .i64 raCardsi3], .bool rb_4])], ps (by kernel_rfl), ?_⟩
      refine N_run 3 [(0, .pointer (some hvA)), (1, .int .u64 wv), (4, .int .i64 ra), (5, .int .i64 ra_3), (6, .int .i64 rb_3), (7, .int .u64 rc), (8, .bool rd), (10, .int .i64 x), (15, .agg #[.int .i64 2, .int .i64 3]), (16, .int .i64 s16), (64, .agg #[.int .i64 raGen, .int .i64 raKind, .int .i64 raN, .int .i64 raCardsi0, .int .i64 raCardsi1, .int .i64 raCardsi2, .int .i64 raCardsi3]), (65, .bool rb_4)] (fun w => by kernel_rfl) ?_
      refine N_new (some 13) (fun b => .pointer (some (Addr.mk b 0 none))) (.cells #[.int .i64 0, .int .i64 0, .int .i64 0, .int .i64 0, .int .i64 0, .int .i64 0, .int .i64 0] 144) (fun w => by kernel_rfl) ?_
      intro b H6 e15 e16
      replace h := h b H6 e15 e16
      refine ⟨[(0, .pointer (some hvA)), (1, .int .u64 wv), (4, .int .i64 ra), (5, .int .i64 ra_3), (6, .int .i64 rb_3), (7, .int .u64 rc), (8, .bool rd), (10, .int .i64 x), (13, .pointer (some (Addr.mk b 0 none))), (15, .agg #[.int .i64 2, .int .i64 3]), (16, .int .i64 s16), (64, .agg #[.int .i64 raGen, .int .i64 raKind, .int .i64 raN, .int .i64 raCardsi0, .int .i64 raCardsi1, .int .i64 raCardsi2, .int .i64 raCardsi3]), (65, .bool rb_4)], ps (by kernel_rfl), ?_⟩
      obtain ⟨q18, h⟩ := h
      refine N_skipop none (storeN 144 (.pointer (some (Addr.mk b 0 none))) (.agg #[.int .i64 raGen, .int .i64 raKind, .int .i64 raN, .int .i64 raCardsi0, .int .i64 raCardsi1, .int .i64 raCardsi2, .int .i64 raCardsi3])) (fun Hz => Hz = hputs H6 (Addr.mk b 0 none) [.int .i64 raGen, .int .i64 raKind, .int .i64 raN, .int .i64 raCardsi0, .int .i64 raCardsi1, .int .i64 raCardsi2, .int .i64 raCardsi3] 0) (fun w => by kernel_rfl) (ss_store [.int .i64 raGen, .int .i64 raKind, .int .i64 raN, .int .i64 raCardsi0, .int .i64 raCardsi1, .int .i64 raCardsi2, .int .i64 raCardsi3] 7 (by kernel_rfl) (by kernel_rfl) (fun w => by kernel_rfl) (by kernel_rfl) q18) ?_
      intro H7 e17
      replace h := h H7 e17
      refine ⟨[(0, .pointer (some hvA)), (1, .int .u64 wv), (4, .int .i64 ra), (5, .int .i64 ra_3), (6, .int .i64 rb_3), (7, .int .u64 rc), (8, .bool rd), (10, .int .i64 x), (13, .pointer (some (Addr.mk b 0 none))), (15, .agg #[.int .i64 2, .int .i64 3]), (16, .int .i64 s16), (65, .bool rb_4)], ps (by kernel_rfl), ?_⟩
      refine N_run 1 [(0, .pointer (some hvA)), (1, .int .u64 wv), (4, .int .i64 ra), (5, .int .i64 ra_3), (6, .int .i64 rb_3), (7, .int .u64 rc), (8, .bool rd), (10, .int .i64 x), (13, .pointer (some (Addr.mk b 0 none))), (15, .agg #[.int .i64 2, .int .i64 3]), (16, .int .i64 s16)] (fun w => by kernel_rfl) ?_
      refine N_end (by kernel_rfl) ?_
      refine S_then ?_
      refine S_seq obj_Heap_object.k34 obj_Heap_object.k35 (by kernel_rfl) ?_
      refine S_region 9 (Code.ops obj_Heap_object.k34) (by kernel_rfl) ?_
      refine N_run 2 [(0, .pointer (some hvA)), (1, .int .u64 wv), (4, .int .i64 ra), (5, .int .i64 ra_3), (6, .int .i64 rb_3), (7, .int .u64 rc), (10, .int .i64 x), (13, .pointer (some (Addr.mk b 0 none))), (15, .agg #[.int .i64 2, .int .i64 3]), (16, .int .i64 s16), (67, .bool rd)] (fun w => by kernel_rfl) ?_
      by_cases c19 : rd = true
      · rw [if_pos c19] at h
        have b20 : rd = true := c19
        refine N_env [(0, .pointer (some hvA)), (1, .int .u64 wv), (4, .int .i64 ra), (5, .int .i64 ra_3), (6, .int .i64 rb_3), (7, .int .u64 rc), (10, .int .i64 x), (13, .pointer (some (Addr.mk b 0 none))), (15, .agg #[.int .i64 2, .int .i64 3]), (16, .int .i64 s16), (67, .bool true)] (by simp only [b20, Bool.not_true, Bool.not_false]) ?_
        clear b20
        refine N_run 1 [(0, .pointer (some hvA)), (1, .int .u64 wv), (4, .int .i64 ra), (5, .int .i64 ra_3), (6, .int .i64 rb_3), (7, .int .u64 rc), (10, .int .i64 x), (13, .pointer (some (Addr.mk b 0 none))), (15, .agg #[.int .i64 2, .int .i64 3]), (16, .int .i64 s16), (67, .bool true), (68, .int .i64 ra_3)] (fun w => by kernel_rfl) ?_
        refine N_call (some 69) 61 #[.int .i64 ra_3] (fun w => by kernel_rfl) h ?_; clear h
        rintro v_5 H8 ⟨x_8, rfl, h⟩
        refine ⟨[(0, .pointer (some hvA)), (1, .int .u64 wv), (4, .int .i64 ra), (5, .int .i64 ra_3), (6, .int .i64 rb_3), (7, .int .u64 rc), (10, .int .i64 x), (13, .pointer (some (Addr.mk b 0 none))), (15, .agg #[.int .i64 2, .int .i64 3]), (16, .int .i64 s16), (67, .bool true), (69, .int .i64 x_8)], ps (by kernel_rfl), ?_⟩
        refine N_run 4 [(0, .pointer (some hvA)), (1, .int .u64 wv), (4, .int .i64 ra), (5, .int .i64 ra_3), (6, .int .i64 rb_3), (7, .int .u64 rc), (13, .pointer (some (Addr.mk b 0 none))), (15, .agg #[.int .i64 2, .int .i64 3]), (16, .int .i64 s16), (73, .bool (x_8 == x))] (fun w => by kernel_rfl) ?_
        by_cases c21 : x_8 = x
        · rw [if_pos c21] at h
          have b22 : (x_8 == x) = true := beq_iff_eq.mpr c21
          refine N_env [(0, .pointer (some hvA)), (1, .int .u64 wv), (4, .int .i64 ra), (5, .int .i64 ra_3), (6, .int .i64 rb_3), (7, .int .u64 rc), (13, .pointer (some (Addr.mk b 0 none))), (15, .agg #[.int .i64 2, .int .i64 3]), (16, .int .i64 s16), (73, .bool true)] (by simp only [b22, Bool.not_true, Bool.not_false]) ?_
          clear b22
          refine N_run 5 [(0, .pointer (some hvA)), (1, .int .u64 wv), (4, .int .i64 ra), (5, .int .i64 ra_3), (6, .int .i64 rb_3), (7, .int .u64 rc), (15, .agg #[.int .i64 2, .int .i64 3]), (16, .int .i64 s16), (73, .bool true), (77, .int .i64 (IntKind.wrap .i64 ((Int.tmod ra 64) + rb_3))), (78, .pointer (some ((Addr.mk b 0 none).add 2)))] (fun w => by kernel_rfl) ?_
          obtain ⟨x_9, q23, h⟩ := h
          refine N_val (some 79) (loadN 3 (.pointer (some ((Addr.mk b 0 none).add 2)))) (.int .i64 x_9) (fun w => by kernel_rfl) (loadN_run (loadOK_one (fun w => by kernel_rfl) q23)) [(0, .pointer (some hvA)), (1, .int .u64 wv), (4, .int .i64 ra), (5, .int .i64 ra_3), (6, .int .i64 rb_3), (7, .int .u64 rc), (15, .agg #[.int .i64 2, .int .i64 3]), (16, .int .i64 s16), (73, .bool true), (77, .int .i64 (IntKind.wrap .i64 ((Int.tmod ra 64) + rb_3))), (79, .int .i64 x_9)] (ps (by kernel_rfl)) ?_
          refine N_run 2 [(0, .pointer (some hvA)), (1, .int .u64 wv), (4, .int .i64 ra), (5, .int .i64 ra_3), (6, .int .i64 rb_3), (7, .int .u64 rc), (15, .agg #[.int .i64 2, .int .i64 3]), (16, .int .i64 s16), (81, .bool (decide ((IntKind.wrap .i64 ((Int.tmod ra 64) + rb_3)) < x_9)))] (fun w => by kernel_rfl) ?_
          refine N_end (by kernel_rfl) ?_
          refine S_then ?_
          by_cases c24 : (IntKind.wrap .i64 ((Int.tmod ra 64) + rb_3)) < x_9
          · rw [if_pos c24] at h
            have b25 : (decide ((IntKind.wrap .i64 ((Int.tmod ra 64) + rb_3)) < x_9)) = true := decide_eq_true c24
            refine S_env [(0, .pointer (some hvA)), (1, .int .u64 wv), (4, .int .i64 ra), (5, .int .i64 ra_3), (6, .int .i64 rb_3), (7, .int .u64 rc), (15, .agg #[.int .i64 2, .int .i64 3]), (16, .int .i64 s16), (81, .bool true)] (by simp only [b25, Bool.not_true, Bool.not_false]) ?_
            clear b25
            refine S_condT (.tmp 81) obj_Heap_object.k36 obj_Heap_object.k37 (by kernel_rfl) (by kernel_rfl) ?_
            refine S_seq obj_Heap_object.k38 obj_Heap_object.k39 (by kernel_rfl) ?_
            refine S_region 10 (Code.ops obj_Heap_object.k38) (by kernel_rfl) ?_
            refine N_run 9 [(4, .int .i64 ra), (5, .int .i64 ra_3), (6, .int .i64 rb_3), (7, .int .u64 rc), (8, .bool true)] (fun w => by kernel_rfl) ?_
            refine N_end (by kernel_rfl) ?_
            refine S_then ?_
            refine S_ret (by kernel_rfl) ?_
            show At _ _ _ _ (Q .ret)
            exact S_done (fn := Try.f66) [.int .i64 ra, .int .i64 ra_3, .int .i64 rb_3, .int .u64 rc, .bool true] hQ (show ResOK _ _ _ [.tmp 4, .tmp 5, .tmp 6, .tmp 7, .tmp 8] _ from .tmp (by kernel_rfl) (.tmp (by kernel_rfl) (.tmp (by kernel_rfl) (.tmp (by kernel_rfl) (.tmp (by kernel_rfl) (.nil)))))) h
          · rw [if_neg c24] at h
            have b25 : (decide ((IntKind.wrap .i64 ((Int.tmod ra 64) + rb_3)) < x_9)) = false := decide_eq_false c24
            refine S_env [(0, .pointer (some hvA)), (1, .int .u64 wv), (4, .int .i64 ra), (5, .int .i64 ra_3), (6, .int .i64 rb_3), (7, .int .u64 rc), (15, .agg #[.int .i64 2, .int .i64 3]), (16, .int .i64 s16), (81, .bool false)] (by simp only [b25, Bool.not_true, Bool.not_false]) ?_
            clear b25
            refine S_condF (.tmp 81) obj_Heap_object.k36 obj_Heap_object.k37 (by kernel_rfl) (by kernel_rfl) ?_
            refine S_skip (by kernel_rfl) ?_
            refine S_blockEnd ?_
            refine S_then ?_
            refine S_region 11 (Code.ops obj_Heap_object.k16) (by kernel_rfl) ?_
            refine N_run 2 [(0, .pointer (some hvA)), (1, .int .u64 wv), (15, .agg #[.int .i64 2, .int .i64 3]), (16, .int .i64 (IntKind.wrap .i64 (s16 + 1)))] (fun w => by kernel_rfl) ?_
            refine N_end (by kernel_rfl) ?_
            refine S_then ?_
            exact S_round ((IntKind.wrap .i64 (s16 + 1)) : Int) (sb (by kernel_rfl)) h
        · rw [if_neg c21] at h
          have b22 : (x_8 == x) = false := beq_eq_false_iff_ne.mpr c21
          refine N_env [(0, .pointer (some hvA)), (1, .int .u64 wv), (4, .int .i64 ra), (5, .int .i64 ra_3), (6, .int .i64 rb_3), (7, .int .u64 rc), (13, .pointer (some (Addr.mk b 0 none))), (15, .agg #[.int .i64 2, .int .i64 3]), (16, .int .i64 s16), (73, .bool false)] (by simp only [b22, Bool.not_true, Bool.not_false]) ?_
          clear b22
          refine N_run 8 [(0, .pointer (some hvA)), (1, .int .u64 wv), (4, .int .i64 ra), (5, .int .i64 ra_3), (6, .int .i64 rb_3), (7, .int .u64 rc), (15, .agg #[.int .i64 2, .int .i64 3]), (16, .int .i64 s16), (81, .bool false)] (fun w => by kernel_rfl) ?_
          refine N_end (by kernel_rfl) ?_
          refine S_then ?_
          refine S_condF (.tmp 81) obj_Heap_object.k36 obj_Heap_object.k37 (by kernel_rfl) (by kernel_rfl) ?_
          refine S_skip (by kernel_rfl) ?_
          refine S_blockEnd ?_
          refine S_then ?_
          refine S_region 11 (Code.ops obj_Heap_object.k16) (by kernel_rfl) ?_
          refine N_run 2 [(0, .pointer (some hvA)), (1, .int .u64 wv), (15, .agg #[.int .i64 2, .int .i64 3]), (16, .int .i64 (IntKind.wrap .i64 (s16 + 1)))] (fun w => by kernel_rfl) ?_
          refine N_end (by kernel_rfl) ?_
          refine S_then ?_
          exact S_round ((IntKind.wrap .i64 (s16 + 1)) : Int) (sb (by kernel_rfl)) h
      · rw [if_neg c19] at h
        have b20 : rd = false := eq_false_of_ne_true c19
        refine N_env [(0, .pointer (some hvA)), (1, .int .u64 wv), (4, .int .i64 ra), (5, .int .i64 ra_3), (6, .int .i64 rb_3), (7, .int .u64 rc), (10, .int .i64 x), (13, .pointer (some (Addr.mk b 0 none))), (15, .agg #[.int .i64 2, .int .i64 3]), (16, .int .i64 s16), (67, .bool false)] (by simp only [b20, Bool.not_true, Bool.not_false]) ?_
        clear b20
        refine N_run 14 [(0, .pointer (some hvA)), (1, .int .u64 wv), (4, .int .i64 ra), (5, .int .i64 ra_3), (6, .int .i64 rb_3), (7, .int .u64 rc), (15, .agg #[.int .i64 2, .int .i64 3]), (16, .int .i64 s16), (81, .bool false)] (fun w => by kernel_rfl) ?_
        refine N_end (by kernel_rfl) ?_
        refine S_then ?_
        refine S_condF (.tmp 81) obj_Heap_object.k36 obj_Heap_object.k37 (by kernel_rfl) (by kernel_rfl) ?_
        refine S_skip (by kernel_rfl) ?_
        refine S_blockEnd ?_
        refine S_then ?_
        refine S_region 11 (Code.ops obj_Heap_object.k16) (by kernel_rfl) ?_
        refine N_run 2 [(0, .pointer (some hvA)), (1, .int .u64 wv), (15, .agg #[.int .i64 2, .int .i64 3]), (16, .int .i64 (IntKind.wrap .i64 (s16 + 1)))] (fun w => by kernel_rfl) ?_
        refine N_end (by kernel_rfl) ?_
        refine S_then ?_
        exact S_round ((IntKind.wrap .i64 (s16 + 1)) : Int) (sb (by kernel_rfl)) h
    · rw [if_neg c7] at h
      have b8 : (!rb) = true := congrArg Bool.not (eq_false_of_ne_true c7)
      have b82 : rb = false := eq_false_of_ne_true c7
      refine S_env [(0, .pointer hv), (1, .int .u64 wv), (4, .int .i64 ra), (10, .int .i64 x), (15, .agg #[.int .i64 2, .int .i64 3]), (16, .int .i64 s16), (27, .bool true)] (by simp only [b8, b82, Bool.not_true, Bool.not_false]) ?_
      clear b8 b82
      refine S_condT (.tmp 27) obj_Heap_object.k26 obj_Heap_object.k27 (by kernel_rfl) (by kernel_rfl) ?_
      refine S_exit 1 (by kernel_rfl) ?_
      refine S_exitThen ?_
      refine S_exitHere ?_
      refine S_then ?_
      refine S_region 11 (Code.ops obj_Heap_object.k16) (by kernel_rfl) ?_
      refine N_run 2 [(0, .pointer hv), (1, .int .u64 wv), (15, .agg #[.int .i64 2, .int .i64 3]), (16, .int .i64 (IntKind.wrap .i64 (s16 + 1)))] (fun w => by kernel_rfl) ?_
      refine N_end (by kernel_rfl) ?_
      refine S_then ?_
      exact S_round ((IntKind.wrap .i64 (s16 + 1)) : Int) (sb (by kernel_rfl)) h
  · rw [if_neg c4] at h
    have b5 : (decide (s16 < 2)) = false := decide_eq_false c4
    refine S_env [(0, .pointer hv), (1, .int .u64 wv), (15, .agg #[.int .i64 2, .int .i64 3]), (16, .int .i64 s16), (17, .bool false)] (by simp only [b5, Bool.not_true, Bool.not_false]) ?_
    clear b5
    refine S_condF (.tmp 17) obj_Heap_object.k13 obj_Heap_object.k14 (by kernel_rfl) (by kernel_rfl) ?_
    refine S_exit 0 (by kernel_rfl) ?_
    refine S_exitThen ?_
    refine S_exitThen ?_
    refine S_exitHere ?_
    refine S_then ?_
    refine S_seq obj_Heap_object.k40 obj_Heap_object.k41 (by kernel_rfl) ?_
    refine S_region 12 (Code.ops obj_Heap_object.k40) (by kernel_rfl) ?_
    refine N_run 5 [(4, .int .i64 0), (5, .int .i64 0), (6, .int .i64 0), (7, .int .u64 0), (8, .bool false)] (fun w => by kernel_rfl) ?_
    refine N_end (by kernel_rfl) ?_
    refine S_then ?_
    refine S_ret (by kernel_rfl) ?_
    show At _ _ _ _ (Q .ret)
    exact S_done (fn := Try.f66) [.int .i64 0, .int .i64 0, .int .i64 0, .int .u64 0, .bool false] hQ (show ResOK _ _ _ [.tmp 4, .tmp 5, .tmp 6, .tmp 7, .tmp 8] _ from .tmp (by kernel_rfl) (.tmp (by kernel_rfl) (.tmp (by kernel_rfl) (.tmp (by kernel_rfl) (.tmp (by kernel_rfl) (.nil)))))) h

end Go.Proofs.Ytfohlkiikppefaa
