/-
  Written by a program of mine (gen.py): for functions of this translation a predicate transformer over heaps (.pt), and the proof that it is sound for the call (.link).
-/
import Derived.Test.YtfohlkiikppefaaFnsC
set_option linter.unusedSimpArgs false
set_option linter.unusedVariables false
set_option maxHeartbeats 1000000
namespace Go.Proofs.Ytfohlkiikppefaa
open Go
/-! moraine/obj.New -/
noncomputable def obj_New.k0 : Code := Func.code Try.f11
noncomputable def obj_New.k1 : Code := Code.fa obj_New.k0
noncomputable def obj_New.k2 : Code := Code.fb obj_New.k0
noncomputable def obj_New.k3 : Code := Code.fa obj_New.k2
noncomputable def obj_New.k4 : Code := Code.fb obj_New.k2
noncomputable def obj_New.k5 : Code := Code.fa obj_New.k4
noncomputable def obj_New.k6 : Code := Code.fb obj_New.k4
noncomputable def obj_New.k7 : Code := Code.fa obj_New.k5
noncomputable def obj_New.k8 : Code := Code.fb obj_New.k5
noncomputable def obj_New.k9 : Code := Code.fa obj_New.k8
noncomputable def obj_New.k10 : Code := Code.fb obj_New.k8
noncomputable def obj_New.k11 : Code := Code.fa obj_New.k6
noncomputable def obj_New.k12 : Code := Code.fb obj_New.k6
noncomputable def obj_New.k13 : Code := Code.fa obj_New.k9
noncomputable def obj_New.k14 : Code := Code.fb obj_New.k9
def obj_New.pt (limit : Int) (H : Array Obj) (R : Value → Array Obj → Prop) : Prop :=
 card_New.C limit H (fun v H1 => ∃ ra : Option Addr, ∃ rb : Int, v = .tuple #[.pointer ra, .int .i64 rb] ∧ 
  if rb = 0 then (
   ∀ (b : Nat) (H2 : Array Obj), b = H1.size → H2 = H1.push (.cells #[.pointer ra, .slice none 0 0, .slice none 0 0, .int .u64 0] 60) →
   R (.tuple #[.pointer (some (Addr.mk b 0 none)), .int .i64 0]) H2)
  else
  R (.tuple #[.pointer none, .int .i64 rb]) H1)
set_option maxRecDepth 100000 in
theorem obj_New.link {limit : Int} {H : Array Obj} {R : Value → Array Obj → Prop} (h : obj_New.pt limit H R) : obj_New.C limit H R := by
  refine S_enter (fn := Try.f11) (c := obj_New.k0) 17 Try.func11 (by kernel_rfl) (by kernel_rfl) (Nat.le_of_ble_eq_true (by kernel_rfl)) ?_
  intro w0 Q hQ
  unfold obj_New.pt at h
  refine S_sub [(0, .int .i64 limit)] (sb (by kernel_rfl)) ?_
  refine S_seq obj_New.k1 obj_New.k2 (by kernel_rfl) ?_
  refine S_region 0 (Code.ops obj_New.k1) (by kernel_rfl) ?_
  refine N_run 2 [(0, .int .i64 limit)] (fun w => by kernel_rfl) ?_
  refine N_end (by kernel_rfl) ?_
  refine S_then ?_
  refine S_seq obj_New.k3 obj_New.k4 (by kernel_rfl) ?_
  refine S_region 1 (Code.ops obj_New.k3) (by kernel_rfl) ?_
  refine N_run 1 [(7, .int .i64 limit)] (fun w => by kernel_rfl) ?_
  refine N_call (some 8) 54 #[.int .i64 limit] (fun w => by kernel_rfl) h ?_; clear h
  rintro v H1 ⟨ra, rb, rfl, h⟩
  refine ⟨[(8, .tuple #[.pointer ra, .int .i64 rb])], ps (by kernel_rfl), ?_⟩
  refine N_run 5 [(4, .pointer ra), (5, .int .i64 rb)] (fun w => by kernel_rfl) ?_
  refine N_end (by kernel_rfl) ?_
  refine S_then ?_
  refine S_seq obj_New.k5 obj_New.k6 (by kernel_rfl) ?_
  refine S_seq obj_New.k7 obj_New.k8 (by kernel_rfl) ?_
  refine S_region 2 (Code.ops obj_New.k7) (by kernel_rfl) ?_
  refine N_run 2 [(4, .pointer ra), (5, .int .i64 rb), (12, .bool (rb != 0))] (fun w => by kernel_rfl) ?_
  refine N_end (by kernel_rfl) ?_
  refine S_then ?_
  by_cases c1 : rb = 0
  · rw [if_pos c1] at h
    have b2 : (rb != 0) = false := bne_eq_false_iff_eq.mpr c1
    refine S_env [(4, .pointer ra), (5, .int .i64 rb), (12, .bool false)] (by simp only [b2, Bool.not_true, Bool.not_false]) ?_
    clear b2
    refine S_condF (.tmp 12) obj_New.k9 obj_New.k10 (by kernel_rfl) (by kernel_rfl) ?_
    refine S_skip (by kernel_rfl) ?_
    refine S_then ?_
    refine S_seq obj_New.k11 obj_New.k12 (by kernel_rfl) ?_
    refine S_region 4 (Code.ops obj_New.k11) (by kernel_rfl) ?_
    refine N_run 2 [(15, .agg #[.pointer ra, .slice none 0 0, .slice none 0 0, .int .u64 0])] (fun w => by kernel_rfl) ?_
    refine N_new (some 16) (fun b => .pointer (some (Addr.mk b 0 none))) (.cells #[.pointer ra, .slice none 0 0, .slice none 0 0, .int .u64 0] 60) (fun w => by kernel_rfl) ?_
    intro b H2 e3 e4
    replace h := h b H2 e3 e4
    refine ⟨[(16, .pointer (some (Addr.mk b 0 none)))], ps (by kernel_rfl), ?_⟩
    refine N_run 2 [(2, .pointer (some (Addr.mk b 0 none))), (3, .int .i64 0)] (fun w => by kernel_rfl) ?_
    refine N_end (by kernel_rfl) ?_
    refine S_then ?_
    refine S_ret (by kernel_rfl) ?_
    show At _ _ _ _ (Q .ret)
    exact S_done (fn := Try.f11) [.pointer (some (Addr.mk b 0 none)), .int .i64 0] hQ (show ResOK _ _ _ [.tmp 2, .tmp 3] _ from .tmp (by kernel_rfl) (.tmp (by kernel_rfl) (.nil))) h
  · rw [if_neg c1] at h
    have b2 : (rb != 0) = true := bne_iff_ne.mpr c1
    refine S_env [(4, .pointer ra), (5, .int .i64 rb), (12, .bool true)] (by simp only [b2, Bool.not_true, Bool.not_false]) ?_
    clear b2
    refine S_condT (.tmp 12) obj_New.k9 obj_New.k10 (by kernel_rfl) (by kernel_rfl) ?_
    refine S_seq obj_New.k13 obj_New.k14 (by kernel_rfl) ?_
    refine S_region 3 (Code.ops obj_New.k13) (by kernel_rfl) ?_
    refine N_run 3 [(2, .pointer none), (3, .int .i64 rb)] (fun w => by kernel_rfl) ?_
    refine N_end (by kernel_rfl) ?_
    refine S_then ?_
    refine S_ret (by kernel_rfl) ?_
    show At _ _ _ _ (Q .ret)
    exact S_done (fn := Try.f11) [.pointer none, .int .i64 rb] hQ (show ResOK _ _ _ [.tmp 2, .tmp 3] _ from .tmp (by kernel_rfl) (.tmp (by kernel_rfl) (.nil))) h

/-! (*moraine/obj.Heap).Cons -/
noncomputable def obj_Heap_Cons.k0 : Code := Func.code Try.f27
noncomputable def obj_Heap_Cons.k1 : Code := Code.fa obj_Heap_Cons.k0
noncomputable def obj_Heap_Cons.k2 : Code := Code.fb obj_Heap_Cons.k0
noncomputable def obj_Heap_Cons.k3 : Code := Code.fa obj_Heap_Cons.k2
noncomputable def obj_Heap_Cons.k4 : Code := Code.fb obj_Heap_Cons.k2
def obj_Heap_Cons.pt (hv : Option Addr) (car : Int) (cdr : Int) (H : Array Obj) (R : Value → Array Obj → Prop) : Prop :=
 ∀ (b : Nat) (H1 : Array Obj), b = H.size → H1 = H.push (.cells #[.int .u64 car, .int .u64 cdr] 29) →
 obj_Heap_put.C hv 0 1 (some (Addr.mk b 0 none)) 2 2 H1 (fun v H2 => ∃ ra : Int, ∃ rb : Int, v = .tuple #[.int .u64 ra, .int .i64 rb] ∧ 
  R (.tuple #[.int .u64 ra, .int .i64 rb]) H2)
set_option maxRecDepth 100000 in
theorem obj_Heap_Cons.link {hv : Option Addr} {car : Int} {cdr : Int} {H : Array Obj} {R : Value → Array Obj → Prop} (h : obj_Heap_Cons.pt hv car cdr H R) : obj_Heap_Cons.C hv car cdr H R := by
  refine S_enter (fn := Try.f27) (c := obj_Heap_Cons.k0) 15 Try.func27 (by kernel_rfl) (by kernel_rfl) (Nat.le_of_ble_eq_true (by kernel_rfl)) ?_
  intro w0 Q hQ
  unfold obj_Heap_Cons.pt at h
  refine S_sub [(0, .pointer hv), (1, .int .u64 car), (2, .int .u64 cdr)] (sb (by kernel_rfl)) ?_
  refine S_seq obj_Heap_Cons.k1 obj_Heap_Cons.k2 (by kernel_rfl) ?_
  refine S_region 0 (Code.ops obj_Heap_Cons.k1) (by kernel_rfl) ?_
  refine N_run 2 [(0, .pointer hv), (1, .int .u64 car), (2, .int .u64 cdr)] (fun w => by kernel_rfl) ?_
  refine N_end (by kernel_rfl) ?_
  refine S_then ?_
  refine S_seq obj_Heap_Cons.k3 obj_Heap_Cons.k4 (by kernel_rfl) ?_
  refine S_region 1 (Code.ops obj_Heap_Cons.k3) (by kernel_rfl) ?_
  refine N_run 3 [(8, .pointer hv), (9, .int .u64 car), (10, .int .u64 cdr)] (fun w => by kernel_rfl) ?_
  refine N_new (some 11) (fun b => .slice (some (Addr.mk b 0 none)) 2 2) (.cells #[.int .u64 car, .int .u64 cdr] 29) (fun w => by kernel_rfl) ?_
  intro b H1 e1 e2
  replace h := h b H1 e1 e2
  refine ⟨[(8, .pointer hv), (11, .slice (some (Addr.mk b 0 none)) 2 2)], ps (by kernel_rfl), ?_⟩
  refine N_call (some 12) 59 #[.pointer hv, .int .i64 0, .int .i64 1, .slice (some (Addr.mk b 0 none)) 2 2] (fun w => by kernel_rfl) h ?_; clear h
  rintro v H2 ⟨ra, rb, rfl, h⟩
  refine ⟨[(12, .tuple #[.int .u64 ra, .int .i64 rb])], ps (by kernel_rfl), ?_⟩
  refine N_run 4 [(6, .int .u64 ra), (7, .int .i64 rb)] (fun w => by kernel_rfl) ?_
  refine N_end (by kernel_rfl) ?_
  refine S_then ?_
  refine S_ret (by kernel_rfl) ?_
  show At _ _ _ _ (Q .ret)
  exact S_done (fn := Try.f27) [.int .u64 ra, .int .i64 rb] hQ (show ResOK _ _ _ [.tmp 6, .tmp 7] _ from .tmp (by kernel_rfl) (.tmp (by kernel_rfl) (.nil))) h

/-! (*moraine/obj.Heap).Weak -/
noncomputable def obj_Heap_Weak.k0 : Code := Func.code Try.f28
noncomputable def obj_Heap_Weak.k1 : Code := Code.fa obj_Heap_Weak.k0
noncomputable def obj_Heap_Weak.k2 : Code := Code.fb obj_Heap_Weak.k0
noncomputable def obj_Heap_Weak.k3 : Code := Code.fa obj_Heap_Weak.k2
noncomputable def obj_Heap_Weak.k4 : Code := Code.fb obj_Heap_Weak.k2
def obj_Heap_Weak.pt (hv : Option Addr) (car : Int) (cdr : Int) (H : Array Obj) (R : Value → Array Obj → Prop) : Prop :=
 ∀ (b : Nat) (H1 : Array Obj), b = H.size → H1 = H.push (.cells #[.int .u64 car, .int .u64 cdr] 29) →
 obj_Heap_put.C hv 1 2 (some (Addr.mk b 0 none)) 2 2 H1 (fun v H2 => ∃ ra : Int, ∃ rb : Int, v = .tuple #[.int .u64 ra, .int .i64 rb] ∧ 
  R (.tuple #[.int .u64 ra, .int .i64 rb]) H2)
set_option maxRecDepth 100000 in
theorem obj_Heap_Weak.link {hv : Option Addr} {car : Int} {cdr : Int} {H : Array Obj} {R : Value → Array Obj → Prop} (h : obj_Heap_Weak.pt hv car cdr H R) : obj_Heap_Weak.C hv car cdr H R := by
  refine S_enter (fn := Try.f28) (c := obj_Heap_Weak.k0) 15 Try.func28 (by kernel_rfl) (by kernel_rfl) (Nat.le_of_ble_eq_true (by kernel_rfl)) ?_
  intro w0 Q hQ
  unfold obj_Heap_Weak.pt at h
  refine S_sub [(0, .pointer hv), (1, .int .u64 car), (2, .int .u64 cdr)] (sb (by kernel_rfl)) ?_
  refine S_seq obj_Heap_Weak.k1 obj_Heap_Weak.k2 (by kernel_rfl) ?_
  refine S_region 0 (Code.ops obj_Heap_Weak.k1) (by kernel_rfl) ?_
  refine N_run 2 [(0, .pointer hv), (1, .int .u64 car), (2, .int .u64 cdr)] (fun w => by kernel_rfl) ?_
  refine N_end (by kernel_rfl) ?_
  refine S_then ?_
  refine S_seq obj_Heap_Weak.k3 obj_Heap_Weak.k4 (by kernel_rfl) ?_
  refine S_region 1 (Code.ops obj_Heap_Weak.k3) (by kernel_rfl) ?_
  refine N_run 3 [(8, .pointer hv), (9, .int .u64 car), (10, .int .u64 cdr)] (fun w => by kernel_rfl) ?_
  refine N_new (some 11) (fun b => .slice (some (Addr.mk b 0 none)) 2 2) (.cells #[.int .u64 car, .int .u64 cdr] 29) (fun w => by kernel_rfl) ?_
  intro b H1 e1 e2
  replace h := h b H1 e1 e2
  refine ⟨[(8, .pointer hv), (11, .slice (some (Addr.mk b 0 none)) 2 2)], ps (by kernel_rfl), ?_⟩
  refine N_call (some 12) 59 #[.pointer hv, .int .i64 1, .int .i64 2, .slice (some (Addr.mk b 0 none)) 2 2] (fun w => by kernel_rfl) h ?_; clear h
  rintro v H2 ⟨ra, rb, rfl, h⟩
  refine ⟨[(12, .tuple #[.int .u64 ra, .int .i64 rb])], ps (by kernel_rfl), ?_⟩
  refine N_run 4 [(6, .int .u64 ra), (7, .int .i64 rb)] (fun w => by kernel_rfl) ?_
  refine N_end (by kernel_rfl) ?_
  refine S_then ?_
  refine S_ret (by kernel_rfl) ?_
  show At _ _ _ _ (Q .ret)
  exact S_done (fn := Try.f28) [.int .u64 ra, .int .i64 rb] hQ (show ResOK _ _ _ [.tmp 6, .tmp 7] _ from .tmp (by kernel_rfl) (.tmp (by kernel_rfl) (.nil))) h

/-! (*moraine/obj.Heap).Make -/
noncomputable def obj_Heap_Make.k0 : Code := Func.code Try.f30
noncomputable def obj_Heap_Make.k1 : Code := Code.fa obj_Heap_Make.k0
noncomputable def obj_Heap_Make.k2 : Code := Code.fb obj_Heap_Make.k0
noncomputable def obj_Heap_Make.k3 : Code := Code.fa obj_Heap_Make.k2
noncomputable def obj_Heap_Make.k4 : Code := Code.fb obj_Heap_Make.k2
noncomputable def obj_Heap_Make.k5 : Code := Code.fa obj_Heap_Make.k3
noncomputable def obj_Heap_Make.k6 : Code := Code.fb obj_Heap_Make.k3
noncomputable def obj_Heap_Make.k7 : Code := Code.fa obj_Heap_Make.k6
noncomputable def obj_Heap_Make.k8 : Code := Code.fb obj_Heap_Make.k6
noncomputable def obj_Heap_Make.k9 : Code := Code.fa obj_Heap_Make.k8
noncomputable def obj_Heap_Make.k10 : Code := Code.fb obj_Heap_Make.k8
noncomputable def obj_Heap_Make.k11 : Code := Code.fa obj_Heap_Make.k4
noncomputable def obj_Heap_Make.k12 : Code := Code.fb obj_Heap_Make.k4
noncomputable def obj_Heap_Make.k13 : Code := Code.fa obj_Heap_Make.k11
noncomputable def obj_Heap_Make.k14 : Code := Code.fb obj_Heap_Make.k11
noncomputable def obj_Heap_Make.k15 : Code := Code.fa obj_Heap_Make.k14
noncomputable def obj_Heap_Make.k16 : Code := Code.fb obj_Heap_Make.k14
noncomputable def obj_Heap_Make.k17 : Code := Code.fa obj_Heap_Make.k15
noncomputable def obj_Heap_Make.k18 : Code := Code.fb obj_Heap_Make.k15
noncomputable def obj_Heap_Make.k19 : Code := Code.fa obj_Heap_Make.k12
noncomputable def obj_Heap_Make.k20 : Code := Code.fb obj_Heap_Make.k12
noncomputable def obj_Heap_Make.k21 : Code := Code.fa obj_Heap_Make.k20
noncomputable def obj_Heap_Make.k22 : Code := Code.fb obj_Heap_Make.k20
noncomputable def obj_Heap_Make.k23 : Code := Code.fa obj_Heap_Make.k9
noncomputable def obj_Heap_Make.k24 : Code := Code.fb obj_Heap_Make.k9
def obj_Heap_Make.pt (hv : Option Addr) (kind : Int) (more : Int) (lB : Option Addr) (lN : Nat) (lC : Nat) (H : Array Obj) (R : Value → Array Obj → Prop) : Prop :=
 word_Header.C kind 0 more H (fun v H1 => ∃ ra : Int, ∃ rb : Int, v = .tuple #[.int .u64 ra, .int .i64 rb] ∧ 
  if rb = 0 then (
   if (lN : Int) > 62 then (
    R (.tuple #[.int .u64 0, .int .i64 6]) H1)
   else
   word_Header.C kind (lN : Int) more H1 (fun v_2 H2 => ∃ ra_2 : Int, ∃ rb_2 : Int, v_2 = .tuple #[.int .u64 ra_2, .int .i64 rb_2] ∧ 
    obj_raw.C kind H2 (fun v_3 H3 => ∃ x : Int, v_3 = .int .i64 x ∧ 
     ∀ (b : Nat) (H4 : Array Obj), b = H3.size → H4 = H3.push (.cells #[.int .u64 ra_2] 29) →
     appendK 1 29 8 [.int .u64 0] (some (Addr.mk b 0 none)) 1 1 lB lN H4 (fun ap apC H5 =>
      obj_Heap_put.C hv x 3 ap (1 + lN) apC H5 (fun v_4 H6 => ∃ ra_3 : Int, ∃ rb_3 : Int, v_4 = .tuple #[.int .u64 ra_3, .int .i64 rb_3] ∧ 
       R (.tuple #[.int .u64 ra_3, .int .i64 rb_3]) H6)))))
  else
  R (.tuple #[.int .u64 0, .int .i64 rb]) H1)
set_option maxRecDepth 100000 in
theorem obj_Heap_Make.link {hv : Option Addr} {kind : Int} {more : Int} {lB : Option Addr} {lN : Nat} {lC : Nat} {H : Array Obj} {R : Value → Array Obj → Prop} (h : obj_Heap_Make.pt hv kind more lB lN lC H R) : obj_Heap_Make.C hv kind more lB lN lC H R := by
  refine S_enter (fn := Try.f30) (c := obj_Heap_Make.k0) 44 Try.func30 (by kernel_rfl) (by kernel_rfl) (Nat.le_of_ble_eq_true (by kernel_rfl)) ?_
  intro w0 Q hQ
  unfold obj_Heap_Make.pt at h
  refine S_sub [(0, .pointer hv), (1, .int .i64 kind), (2, .int .u64 more), (3, .slice lB lN lC)] (sb (by kernel_rfl)) ?_
  refine S_seq obj_Heap_Make.k1 obj_Heap_Make.k2 (by kernel_rfl) ?_
  refine S_region 0 (Code.ops obj_Heap_Make.k1) (by kernel_rfl) ?_
  refine N_run 2 [(0, .pointer hv), (1, .int .i64 kind), (2, .int .u64 more), (3, .slice lB lN lC)] (fun w => by kernel_rfl) ?_
  refine N_end (by kernel_rfl) ?_
  refine S_then ?_
  refine S_seq obj_Heap_Make.k3 obj_Heap_Make.k4 (by kernel_rfl) ?_
  refine S_seq obj_Heap_Make.k5 obj_Heap_Make.k6 (by kernel_rfl) ?_
  refine S_region 1 (Code.ops obj_Heap_Make.k5) (by kernel_rfl) ?_
  refine N_run 2 [(0, .pointer hv), (1, .int .i64 kind), (2, .int .u64 more), (3, .slice lB lN lC), (15, .int .i64 kind), (16, .int .u64 more)] (fun w => by kernel_rfl) ?_
  refine N_call (some 17) 60 #[.int .i64 kind, .int .i64 0, .int .u64 more] (fun w => by kernel_rfl) h ?_; clear h
  rintro v H1 ⟨ra, rb, rfl, h⟩
  refine ⟨[(0, .pointer hv), (1, .int .i64 kind), (2, .int .u64 more), (3, .slice lB lN lC), (17, .tuple #[.int .u64 ra, .int .i64 rb])], ps (by kernel_rfl), ?_⟩
  refine N_run 5 [(0, .pointer hv), (1, .int .i64 kind), (2, .int .u64 more), (3, .slice lB lN lC), (11, .int .i64 rb)] (fun w => by kernel_rfl) ?_
  refine N_end (by kernel_rfl) ?_
  refine S_then ?_
  refine S_seq obj_Heap_Make.k7 obj_Heap_Make.k8 (by kernel_rfl) ?_
  refine S_region 2 (Code.ops obj_Heap_Make.k7) (by kernel_rfl) ?_
  refine N_run 2 [(0, .pointer hv), (1, .int .i64 kind), (2, .int .u64 more), (3, .slice lB lN lC), (11, .int .i64 rb), (21, .bool (rb != 0))] (fun w => by kernel_rfl) ?_
  refine N_end (by kernel_rfl) ?_
  refine S_then ?_
  by_cases c1 : rb = 0
  · rw [if_pos c1] at h
    have b2 : (rb != 0) = false := bne_eq_false_iff_eq.mpr c1
    refine S_env [(0, .pointer hv), (1, .int .i64 kind), (2, .int .u64 more), (3, .slice lB lN lC), (11, .int .i64 rb), (21, .bool false)] (by simp only [b2, Bool.not_true, Bool.not_false]) ?_
    clear b2
    refine S_condF (.tmp 21) obj_Heap_Make.k9 obj_Heap_Make.k10 (by kernel_rfl) (by kernel_rfl) ?_
    refine S_skip (by kernel_rfl) ?_
    refine S_then ?_
    refine S_seq obj_Heap_Make.k11 obj_Heap_Make.k12 (by kernel_rfl) ?_
    refine S_seq obj_Heap_Make.k13 obj_Heap_Make.k14 (by kernel_rfl) ?_
    refine S_region 4 (Code.ops obj_Heap_Make.k13) (by kernel_rfl) ?_
    refine N_run 3 [(0, .pointer hv), (1, .int .i64 kind), (2, .int .u64 more), (3, .slice lB lN lC), (25, .bool (decide ((lN : Int) > 62)))] (fun w => by kernel_rfl) ?_
    refine N_end (by kernel_rfl) ?_
    refine S_then ?_
    by_cases c3 : (lN : Int) > 62
    · rw [if_pos c3] at h
      have b4 : (decide ((lN : Int) > 62)) = true := decide_eq_true c3
      refine S_env [(0, .pointer hv), (1, .int .i64 kind), (2, .int .u64 more), (3, .slice lB lN lC), (25, .bool true)] (by simp only [b4, Bool.not_true, Bool.not_false]) ?_
      clear b4
      refine S_condT (.tmp 25) obj_Heap_Make.k15 obj_Heap_Make.k16 (by kernel_rfl) (by kernel_rfl) ?_
      refine S_seq obj_Heap_Make.k17 obj_Heap_Make.k18 (by kernel_rfl) ?_
      refine S_region 5 (Code.ops obj_Heap_Make.k17) (by kernel_rfl) ?_
      refine N_run 2 [(8, .int .u64 0), (9, .int .i64 6)] (fun w => by kernel_rfl) ?_
      refine N_end (by kernel_rfl) ?_
      refine S_then ?_
      refine S_ret (by kernel_rfl) ?_
      show At _ _ _ _ (Q .ret)
      exact S_done (fn := Try.f30) [.int .u64 0, .int .i64 6] hQ (show ResOK _ _ _ [.tmp 8, .tmp 9] _ from .tmp (by kernel_rfl) (.tmp (by kernel_rfl) (.nil))) h
    · rw [if_neg c3] at h
      have b4 : (decide ((lN : Int) > 62)) = false := decide_eq_false c3
      refine S_env [(0, .pointer hv), (1, .int .i64 kind), (2, .int .u64 more), (3, .slice lB lN lC), (25, .bool false)] (by simp only [b4, Bool.not_true, Bool.not_false]) ?_
      clear b4
      refine S_condF (.tmp 25) obj_Heap_Make.k15 obj_Heap_Make.k16 (by kernel_rfl) (by kernel_rfl) ?_
      refine S_skip (by kernel_rfl) ?_
      refine S_then ?_
      refine S_seq obj_Heap_Make.k19 obj_Heap_Make.k20 (by kernel_rfl) ?_
      refine S_region 6 (Code.ops obj_Heap_Make.k19) (by kernel_rfl) ?_
      refine N_run 4 [(0, .pointer hv), (1, .int .i64 kind), (3, .slice lB lN lC), (27, .int .i64 kind), (29, .int .i64 (lN : Int)), (30, .int .u64 more)] (fun w => by kernel_rfl) ?_
      refine N_call (some 31) 60 #[.int .i64 kind, .int .i64 (lN : Int), .int .u64 more] (fun w => by kernel_rfl) h ?_; clear h
      rintro v_2 H2 ⟨ra_2, rb_2, rfl, h⟩
      refine ⟨[(0, .pointer hv), (1, .int .i64 kind), (3, .slice lB lN lC), (31, .tuple #[.int .u64 ra_2, .int .i64 rb_2])], ps (by kernel_rfl), ?_⟩
      refine N_run 5 [(0, .pointer hv), (1, .int .i64 kind), (3, .slice lB lN lC), (12, .int .u64 ra_2)] (fun w => by kernel_rfl) ?_
      refine N_end (by kernel_rfl) ?_
      refine S_then ?_
      refine S_seq obj_Heap_Make.k21 obj_Heap_Make.k22 (by kernel_rfl) ?_
      refine S_region 7 (Code.ops obj_Heap_Make.k21) (by kernel_rfl) ?_
      refine N_run 2 [(3, .slice lB lN lC), (12, .int .u64 ra_2), (34, .pointer hv), (35, .int .i64 kind)] (fun w => by kernel_rfl) ?_
      refine N_call (some 36) 61 #[.int .i64 kind] (fun w => by kernel_rfl) h ?_; clear h
      rintro v_3 H3 ⟨x, rfl, h⟩
      refine ⟨[(3, .slice lB lN lC), (12, .int .u64 ra_2), (34, .pointer hv), (36, .int .i64 x)], ps (by kernel_rfl), ?_⟩
      refine N_run 1 [(3, .slice lB lN lC), (34, .pointer hv), (36, .int .i64 x), (37, .int .u64 ra_2)] (fun w => by kernel_rfl) ?_
      refine N_new (some 38) (fun b => .slice (some (Addr.mk b 0 none)) 1 1) (.cells #[.int .u64 ra_2] 29) (fun w => by kernel_rfl) ?_
      intro b H4 e5 e6
      replace h := h b H4 e5 e6
      refine ⟨[(3, .slice lB lN lC), (34, .pointer hv), (36, .int .i64 x), (38, .slice (some (Addr.mk b 0 none)) 1 1)], ps (by kernel_rfl), ?_⟩
      refine N_run 1 [(34, .pointer hv), (36, .int .i64 x), (38, .slice (some (Addr.mk b 0 none)) 1 1), (39, .slice lB lN lC)] (fun w => by kernel_rfl) ?_
      refine N_op (some 40) (appendN #[39, 39] 39 #[.slice (some (Addr.mk b 0 none)) 1 1, .slice lB lN lC]) _ (fun w => by kernel_rfl) (ss_append (T := 29) (sz := 1) (bytes := 8) (zero := .int .u64 0) Try.underlying39 Try.underlying39 rfl (show Try.prog.info? 29 = some Try.t29 from by kernel_rfl) (by kernel_rfl) (by kernel_rfl) (by decide) (by kernel_rfl) h) ?_
      rintro _ H5 ⟨ap, apC, rfl, h⟩
      refine ⟨[(34, .pointer hv), (36, .int .i64 x), (40, .slice ap (1 + lN) apC)], ps (by kernel_rfl), ?_⟩
      refine N_call (some 41) 59 #[.pointer hv, .int .i64 x, .int .i64 3, .slice ap (1 + lN) apC] (fun w => by kernel_rfl) h ?_; clear h
      rintro v_4 H6 ⟨ra_3, rb_3, rfl, h⟩
      refine ⟨[(41, .tuple #[.int .u64 ra_3, .int .i64 rb_3])], ps (by kernel_rfl), ?_⟩
      refine N_run 4 [(8, .int .u64 ra_3), (9, .int .i64 rb_3)] (fun w => by kernel_rfl) ?_
      refine N_end (by kernel_rfl) ?_
      refine S_then ?_
      refine S_ret (by kernel_rfl) ?_
      show At _ _ _ _ (Q .ret)
      exact S_done (fn := Try.f30) [.int .u64 ra_3, .int .i64 rb_3] hQ (show ResOK _ _ _ [.tmp 8, .tmp 9] _ from .tmp (by kernel_rfl) (.tmp (by kernel_rfl) (.nil))) h
  · rw [if_neg c1] at h
    have b2 : (rb != 0) = true := bne_iff_ne.mpr c1
    refine S_env [(0, .pointer hv), (1, .int .i64 kind), (2, .int .u64 more), (3, .slice lB lN lC), (11, .int .i64 rb), (21, .bool true)] (by simp only [b2, Bool.not_true, Bool.not_false]) ?_
    clear b2
    refine S_condT (.tmp 21) obj_Heap_Make.k9 obj_Heap_Make.k10 (by kernel_rfl) (by kernel_rfl) ?_
    refine S_seq obj_Heap_Make.k23 obj_Heap_Make.k24 (by kernel_rfl) ?_
    refine S_region 3 (Code.ops obj_Heap_Make.k23) (by kernel_rfl) ?_
    refine N_run 3 [(8, .int .u64 0), (9, .int .i64 rb)] (fun w => by kernel_rfl) ?_
    refine N_end (by kernel_rfl) ?_
    refine S_then ?_
    refine S_ret (by kernel_rfl) ?_
    show At _ _ _ _ (Q .ret)
    exact S_done (fn := Try.f30) [.int .u64 0, .int .i64 rb] hQ (show ResOK _ _ _ [.tmp 8, .tmp 9] _ from .tmp (by kernel_rfl) (.tmp (by kernel_rfl) (.nil))) h

/-! (*moraine/obj.Heap).Set -/
noncomputable def obj_Heap_Set.k0 : Code := Func.code Try.f32
noncomputable def obj_Heap_Set.k1 : Code := Code.fa obj_Heap_Set.k0
noncomputable def obj_Heap_Set.k2 : Code := Code.fb obj_Heap_Set.k0
noncomputable def obj_Heap_Set.k3 : Code := Code.fa obj_Heap_Set.k2
noncomputable def obj_Heap_Set.k4 : Code := Code.fb obj_Heap_Set.k2
noncomputable def obj_Heap_Set.k5 : Code := Code.fa obj_Heap_Set.k4
noncomputable def obj_Heap_Set.k6 : Code := Code.fb obj_Heap_Set.k4
noncomputable def obj_Heap_Set.k7 : Code := Code.fa obj_Heap_Set.k5
noncomputable def obj_Heap_Set.k8 : Code := Code.fb obj_Heap_Set.k5
noncomputable def obj_Heap_Set.k9 : Code := Code.fa obj_Heap_Set.k8
noncomputable def obj_Heap_Set.k10 : Code := Code.fb obj_Heap_Set.k8
noncomputable def obj_Heap_Set.k11 : Code := Code.fa obj_Heap_Set.k6
noncomputable def obj_Heap_Set.k12 : Code := Code.fb obj_Heap_Set.k6
noncomputable def obj_Heap_Set.k13 : Code := Code.fa obj_Heap_Set.k9
noncomputable def obj_Heap_Set.k14 : Code := Code.fb obj_Heap_Set.k9
def obj_Heap_Set.pt (hv : Option Addr) (wv : Int) (kind : Int) (i : Int) (v : Int) (H : Array Obj) (R : Value → Array Obj → Prop) : Prop :=
 obj_Heap_field.C hv wv kind i H (fun v_2 H1 => ∃ ra : Int, ∃ rb : Int, v_2 = .tuple #[.int .i64 ra, .int .i64 rb] ∧ 
  if rb = 0 then (
   ∃ hvA : Addr, hv = some hvA ∧
   ∃ x : Option Addr, hat H1 hvA = some (.pointer x) ∧
   card_Cards_Store.C x ra v H1 (fun v_3 H2 => ∃ x_2 : Int, v_3 = .int .i64 x_2 ∧ 
    R (.int .i64 x_2) H2))
  else
  R (.int .i64 rb) H1)
set_option maxRecDepth 100000 in
theorem obj_Heap_Set.link {hv : Option Addr} {wv : Int} {kind : Int} {i : Int} {v : Int} {H : Array Obj} {R : Value → Array Obj → Prop} (h : obj_Heap_Set.pt hv wv kind i v H R) : obj_Heap_Set.C hv wv kind i v H R := by
  refine S_enter (fn := Try.f32) (c := obj_Heap_Set.k0) 31 Try.func32 (by kernel_rfl) (by kernel_rfl) (Nat.le_of_ble_eq_true (by kernel_rfl)) ?_
  intro w0 Q hQ
  unfold obj_Heap_Set.pt at h
  refine S_sub [(0, .pointer hv), (1, .int .u64 wv), (2, .int .i64 kind), (3, .int .i64 i), (4, .int .u64 v)] (sb (by kernel_rfl)) ?_
  refine S_seq obj_Heap_Set.k1 obj_Heap_Set.k2 (by kernel_rfl) ?_
  refine S_region 0 (Code.ops obj_Heap_Set.k1) (by kernel_rfl) ?_
  refine N_run 1 [(0, .pointer hv), (1, .int .u64 wv), (2, .int .i64 kind), (3, .int .i64 i), (4, .int .u64 v)] (fun w => by kernel_rfl) ?_
  refine N_end (by kernel_rfl) ?_
  refine S_then ?_
  refine S_seq obj_Heap_Set.k3 obj_Heap_Set.k4 (by kernel_rfl) ?_
  refine S_region 1 (Code.ops obj_Heap_Set.k3) (by kernel_rfl) ?_
  refine N_run 4 [(0, .pointer hv), (4, .int .u64 v), (14, .pointer hv), (15, .int .u64 wv), (16, .int .i64 kind), (17, .int .i64 i)] (fun w => by kernel_rfl) ?_
  refine N_call (some 18) 63 #[.pointer hv, .int .u64 wv, .int .i64 kind, .int .i64 i] (fun w => by kernel_rfl) h ?_; clear h
  rintro v_2 H1 ⟨ra, rb, rfl, h⟩
  refine ⟨[(0, .pointer hv), (4, .int .u64 v), (18, .tuple #[.int .i64 ra, .int .i64 rb])], ps (by kernel_rfl), ?_⟩
  refine N_run 5 [(0, .pointer hv), (4, .int .u64 v), (11, .int .i64 ra), (12, .int .i64 rb)] (fun w => by kernel_rfl) ?_
  refine N_end (by kernel_rfl) ?_
  refine S_then ?_
  refine S_seq obj_Heap_Set.k5 obj_Heap_Set.k6 (by kernel_rfl) ?_
  refine S_seq obj_Heap_Set.k7 obj_Heap_Set.k8 (by kernel_rfl) ?_
  refine S_region 2 (Code.ops obj_Heap_Set.k7) (by kernel_rfl) ?_
  refine N_run 2 [(0, .pointer hv), (4, .int .u64 v), (11, .int .i64 ra), (12, .int .i64 rb), (22, .bool (rb != 0))] (fun w => by kernel_rfl) ?_
  refine N_end (by kernel_rfl) ?_
  refine S_then ?_
  by_cases c1 : rb = 0
  · rw [if_pos c1] at h
    have b2 : (rb != 0) = false := bne_eq_false_iff_eq.mpr c1
    refine S_env [(0, .pointer hv), (4, .int .u64 v), (11, .int .i64 ra), (12, .int .i64 rb), (22, .bool false)] (by simp only [b2, Bool.not_true, Bool.not_false]) ?_
    clear b2
    refine S_condF (.tmp 22) obj_Heap_Set.k9 obj_Heap_Set.k10 (by kernel_rfl) (by kernel_rfl) ?_
    refine S_skip (by kernel_rfl) ?_
    refine S_then ?_
    refine S_seq obj_Heap_Set.k11 obj_Heap_Set.k12 (by kernel_rfl) ?_
    refine S_region 4 (Code.ops obj_Heap_Set.k11) (by kernel_rfl) ?_
    refine N_run 1 [(4, .int .u64 v), (11, .int .i64 ra), (24, .pointer hv)] (fun w => by kernel_rfl) ?_
    obtain ⟨hvA, rfl, h⟩ := h
    refine N_run 2 [(4, .int .u64 v), (11, .int .i64 ra), (26, .pointer (some hvA))] (fun w => by kernel_rfl) ?_
    obtain ⟨x, q3, h⟩ := h
    refine N_val (some 27) (loadN 57 (.pointer (some hvA))) (.pointer x) (fun w => by kernel_rfl) (loadN_run (loadOK_one (fun w => by kernel_rfl) q3)) [(4, .int .u64 v), (11, .int .i64 ra), (27, .pointer x)] (ps (by kernel_rfl)) ?_
    refine N_run 2 [(27, .pointer x), (28, .int .i64 ra), (29, .int .u64 v)] (fun w => by kernel_rfl) ?_
    refine N_call (some 30) 64 #[.pointer x, .int .i64 ra, .int .u64 v] (fun w => by kernel_rfl) h ?_; clear h
    rintro v_3 H2 ⟨x_2, rfl, h⟩
    refine ⟨[(30, .int .i64 x_2)], ps (by kernel_rfl), ?_⟩
    refine N_run 1 [(10, .int .i64 x_2)] (fun w => by kernel_rfl) ?_
    refine N_end (by kernel_rfl) ?_
    refine S_then ?_
    refine S_ret (by kernel_rfl) ?_
    show At _ _ _ _ (Q .ret)
    exact S_done (fn := Try.f32) [.int .i64 x_2] hQ (show ResOK _ _ _ [.tmp 10] _ from .tmp (by kernel_rfl) (.nil)) h
  · rw [if_neg c1] at h
    have b2 : (rb != 0) = true := bne_iff_ne.mpr c1
    refine S_env [(0, .pointer hv), (4, .int .u64 v), (11, .int .i64 ra), (12, .int .i64 rb), (22, .bool true)] (by simp only [b2, Bool.not_true, Bool.not_false]) ?_
    clear b2
    refine S_condT (.tmp 22) obj_Heap_Set.k9 obj_Heap_Set.k10 (by kernel_rfl) (by kernel_rfl) ?_
    refine S_seq obj_Heap_Set.k13 obj_Heap_Set.k14 (by kernel_rfl) ?_
    refine S_region 3 (Code.ops obj_Heap_Set.k13) (by kernel_rfl) ?_
    refine N_run 2 [(10, .int .i64 rb)] (fun w => by kernel_rfl) ?_
    refine N_end (by kernel_rfl) ?_
    refine S_then ?_
    refine S_ret (by kernel_rfl) ?_
    show At _ _ _ _ (Q .ret)
    exact S_done (fn := Try.f32) [.int .i64 rb] hQ (show ResOK _ _ _ [.tmp 10] _ from .tmp (by kernel_rfl) (.nil)) h

/-! (*moraine/obj.Heap).Car -/
noncomputable def obj_Heap_Car.k0 : Code := Func.code Try.f33
noncomputable def obj_Heap_Car.k1 : Code := Code.fa obj_Heap_Car.k0
noncomputable def obj_Heap_Car.k2 : Code := Code.fb obj_Heap_Car.k0
noncomputable def obj_Heap_Car.k3 : Code := Code.fa obj_Heap_Car.k2
noncomputable def obj_Heap_Car.k4 : Code := Code.fb obj_Heap_Car.k2
def obj_Heap_Car.pt (hv : Option Addr) (wv : Int) (H : Array Obj) (R : Value → Array Obj → Prop) : Prop :=
 obj_Heap_half.C hv wv 0 H (fun v H1 => ∃ ra : Int, ∃ rb : Int, v = .tuple #[.int .u64 ra, .int .i64 rb] ∧ 
  R (.tuple #[.int .u64 ra, .int .i64 rb]) H1)
set_option maxRecDepth 100000 in
theorem obj_Heap_Car.link {hv : Option Addr} {wv : Int} {H : Array Obj} {R : Value → Array Obj → Prop} (h : obj_Heap_Car.pt hv wv H R) : obj_Heap_Car.C hv wv H R := by
  refine S_enter (fn := Try.f33) (c := obj_Heap_Car.k0) 11 Try.func33 (by kernel_rfl) (by kernel_rfl) (Nat.le_of_ble_eq_true (by kernel_rfl)) ?_
  intro w0 Q hQ
  unfold obj_Heap_Car.pt at h
  refine S_sub [(0, .pointer hv), (1, .int .u64 wv)] (sb (by kernel_rfl)) ?_
  refine S_seq obj_Heap_Car.k1 obj_Heap_Car.k2 (by kernel_rfl) ?_
  refine S_region 0 (Code.ops obj_Heap_Car.k1) (by kernel_rfl) ?_
  refine N_run 2 [(0, .pointer hv), (1, .int .u64 wv)] (fun w => by kernel_rfl) ?_
  refine N_end (by kernel_rfl) ?_
  refine S_then ?_
  refine S_seq obj_Heap_Car.k3 obj_Heap_Car.k4 (by kernel_rfl) ?_
  refine S_region 1 (Code.ops obj_Heap_Car.k3) (by kernel_rfl) ?_
  refine N_run 2 [(6, .pointer hv), (7, .int .u64 wv)] (fun w => by kernel_rfl) ?_
  refine N_call (some 8) 65 #[.pointer hv, .int .u64 wv, .int .i64 0] (fun w => by kernel_rfl) h ?_; clear h
  rintro v H1 ⟨ra, rb, rfl, h⟩
  refine ⟨[(8, .tuple #[.int .u64 ra, .int .i64 rb])], ps (by kernel_rfl), ?_⟩
  refine N_run 4 [(4, .int .u64 ra), (5, .int .i64 rb)] (fun w => by kernel_rfl) ?_
  refine N_end (by kernel_rfl) ?_
  refine S_then ?_
  refine S_ret (by kernel_rfl) ?_
  show At _ _ _ _ (Q .ret)
  exact S_done (fn := Try.f33) [.int .u64 ra, .int .i64 rb] hQ (show ResOK _ _ _ [.tmp 4, .tmp 5] _ from .tmp (by kernel_rfl) (.tmp (by kernel_rfl) (.nil))) h

/-! (*moraine/obj.Heap).Cdr -/
noncomputable def obj_Heap_Cdr.k0 : Code := Func.code Try.f34
noncomputable def obj_Heap_Cdr.k1 : Code := Code.fa obj_Heap_Cdr.k0
noncomputable def obj_Heap_Cdr.k2 : Code := Code.fb obj_Heap_Cdr.k0
noncomputable def obj_Heap_Cdr.k3 : Code := Code.fa obj_Heap_Cdr.k2
noncomputable def obj_Heap_Cdr.k4 : Code := Code.fb obj_Heap_Cdr.k2
def obj_Heap_Cdr.pt (hv : Option Addr) (wv : Int) (H : Array Obj) (R : Value → Array Obj → Prop) : Prop :=
 obj_Heap_half.C hv wv 1 H (fun v H1 => ∃ ra : Int, ∃ rb : Int, v = .tuple #[.int .u64 ra, .int .i64 rb] ∧ 
  R (.tuple #[.int .u64 ra, .int .i64 rb]) H1)
set_option maxRecDepth 100000 in
theorem obj_Heap_Cdr.link {hv : Option Addr} {wv : Int} {H : Array Obj} {R : Value → Array Obj → Prop} (h : obj_Heap_Cdr.pt hv wv H R) : obj_Heap_Cdr.C hv wv H R := by
  refine S_enter (fn := Try.f34) (c := obj_Heap_Cdr.k0) 11 Try.func34 (by kernel_rfl) (by kernel_rfl) (Nat.le_of_ble_eq_true (by kernel_rfl)) ?_
  intro w0 Q hQ
  unfold obj_Heap_Cdr.pt at h
  refine S_sub [(0, .pointer hv), (1, .int .u64 wv)] (sb (by kernel_rfl)) ?_
  refine S_seq obj_Heap_Cdr.k1 obj_Heap_Cdr.k2 (by kernel_rfl) ?_
  refine S_region 0 (Code.ops obj_Heap_Cdr.k1) (by kernel_rfl) ?_
  refine N_run 2 [(0, .pointer hv), (1, .int .u64 wv)] (fun w => by kernel_rfl) ?_
  refine N_end (by kernel_rfl) ?_
  refine S_then ?_
  refine S_seq obj_Heap_Cdr.k3 obj_Heap_Cdr.k4 (by kernel_rfl) ?_
  refine S_region 1 (Code.ops obj_Heap_Cdr.k3) (by kernel_rfl) ?_
  refine N_run 2 [(6, .pointer hv), (7, .int .u64 wv)] (fun w => by kernel_rfl) ?_
  refine N_call (some 8) 65 #[.pointer hv, .int .u64 wv, .int .i64 1] (fun w => by kernel_rfl) h ?_; clear h
  rintro v H1 ⟨ra, rb, rfl, h⟩
  refine ⟨[(8, .tuple #[.int .u64 ra, .int .i64 rb])], ps (by kernel_rfl), ?_⟩
  refine N_run 4 [(4, .int .u64 ra), (5, .int .i64 rb)] (fun w => by kernel_rfl) ?_
  refine N_end (by kernel_rfl) ?_
  refine S_then ?_
  refine S_ret (by kernel_rfl) ?_
  show At _ _ _ _ (Q .ret)
  exact S_done (fn := Try.f34) [.int .u64 ra, .int .i64 rb] hQ (show ResOK _ _ _ [.tmp 4, .tmp 5] _ from .tmp (by kernel_rfl) (.tmp (by kernel_rfl) (.nil))) h

/-! (*moraine/obj.Heap).Size -/
noncomputable def obj_Heap_Size.k0 : Code := Func.code Try.f35
noncomputable def obj_Heap_Size.k1 : Code := Code.fa obj_Heap_Size.k0
noncomputable def obj_Heap_Size.k2 : Code := Code.fb obj_Heap_Size.k0
noncomputable def obj_Heap_Size.k3 : Code := Code.fa obj_Heap_Size.k2
noncomputable def obj_Heap_Size.k4 : Code := Code.fb obj_Heap_Size.k2
noncomputable def obj_Heap_Size.k5 : Code := Code.fa obj_Heap_Size.k3
noncomputable def obj_Heap_Size.k6 : Code := Code.fb obj_Heap_Size.k3
noncomputable def obj_Heap_Size.k7 : Code := Code.fa obj_Heap_Size.k6
noncomputable def obj_Heap_Size.k8 : Code := Code.fb obj_Heap_Size.k6
noncomputable def obj_Heap_Size.k9 : Code := Code.fa obj_Heap_Size.k7
noncomputable def obj_Heap_Size.k10 : Code := Code.fb obj_Heap_Size.k7
noncomputable def obj_Heap_Size.k11 : Code := Code.fa obj_Heap_Size.k4
noncomputable def obj_Heap_Size.k12 : Code := Code.fb obj_Heap_Size.k4
noncomputable def obj_Heap_Size.k13 : Code := Code.fa obj_Heap_Size.k11
noncomputable def obj_Heap_Size.k14 : Code := Code.fb obj_Heap_Size.k11
noncomputable def obj_Heap_Size.k15 : Code := Code.fa obj_Heap_Size.k14
noncomputable def obj_Heap_Size.k16 : Code := Code.fb obj_Heap_Size.k14
noncomputable def obj_Heap_Size.k17 : Code := Code.fa obj_Heap_Size.k16
noncomputable def obj_Heap_Size.k18 : Code := Code.fb obj_Heap_Size.k16
noncomputable def obj_Heap_Size.k19 : Code := Code.fa obj_Heap_Size.k17
noncomputable def obj_Heap_Size.k20 : Code := Code.fb obj_Heap_Size.k17
noncomputable def obj_Heap_Size.k21 : Code := Code.fa obj_Heap_Size.k12
noncomputable def obj_Heap_Size.k22 : Code := Code.fb obj_Heap_Size.k12
def obj_Heap_Size.pt (hv : Option Addr) (wv : Int) (H : Array Obj) (R : Value → Array Obj → Prop) : Prop :=
 obj_Heap_Pair.C hv wv H (fun v H1 => ∃ x : Bool, v = .bool x ∧ 
  if x = true then (
   R (.int .i64 2) H1)
  else
  obj_Heap_object.C hv wv H1 (fun v_2 H2 => ∃ ra : Int, ∃ rb : Int, ∃ rc : Int, ∃ rd : Int, ∃ re : Bool, v_2 = .tuple #[.int .i64 ra, .int .i64 rb, .int .i64 rc, .int .u64 rd, .bool re] ∧ 
   if re = true then (
    R (.int .i64 (IntKind.wrap .i64 (rc + 1))) H2)
   else
   R (.int .i64 0) H2))
set_option maxRecDepth 100000 in
theorem obj_Heap_Size.link {hv : Option Addr} {wv : Int} {H : Array Obj} {R : Value → Array Obj → Prop} (h : obj_Heap_Size.pt hv wv H R) : obj_Heap_Size.C hv wv H R := by
  refine S_enter (fn := Try.f35) (c := obj_Heap_Size.k0) 25 Try.func35 (by kernel_rfl) (by kernel_rfl) (Nat.le_of_ble_eq_true (by kernel_rfl)) ?_
  intro w0 Q hQ
  unfold obj_Heap_Size.pt at h
  refine S_sub [(0, .pointer hv), (1, .int .u64 wv)] (sb (by kernel_rfl)) ?_
  refine S_seq obj_Heap_Size.k1 obj_Heap_Size.k2 (by kernel_rfl) ?_
  refine S_region 0 (Code.ops obj_Heap_Size.k1) (by kernel_rfl) ?_
  refine N_run 1 [(0, .pointer hv), (1, .int .u64 wv)] (fun w => by kernel_rfl) ?_
  refine N_end (by kernel_rfl) ?_
  refine S_then ?_
  refine S_seq obj_Heap_Size.k3 obj_Heap_Size.k4 (by kernel_rfl) ?_
  refine S_seq obj_Heap_Size.k5 obj_Heap_Size.k6 (by kernel_rfl) ?_
  refine S_region 1 (Code.ops obj_Heap_Size.k5) (by kernel_rfl) ?_
  refine N_run 2 [(0, .pointer hv), (1, .int .u64 wv), (10, .pointer hv), (11, .int .u64 wv)] (fun w => by kernel_rfl) ?_
  refine N_call (some 12) 49 #[.pointer hv, .int .u64 wv] (fun w => by kernel_rfl) h ?_; clear h
  rintro v H1 ⟨x, rfl, h⟩
  refine ⟨[(0, .pointer hv), (1, .int .u64 wv), (12, .bool x)], ps (by kernel_rfl), ?_⟩
  refine N_end (by kernel_rfl) ?_
  refine S_then ?_
  by_cases c1 : x = true
  · rw [if_pos c1] at h
    have b2 : x = true := c1
    refine S_env [(0, .pointer hv), (1, .int .u64 wv), (12, .bool true)] (by simp only [b2, Bool.not_true, Bool.not_false]) ?_
    clear b2
    refine S_condT (.tmp 12) obj_Heap_Size.k7 obj_Heap_Size.k8 (by kernel_rfl) (by kernel_rfl) ?_
    refine S_seq obj_Heap_Size.k9 obj_Heap_Size.k10 (by kernel_rfl) ?_
    refine S_region 2 (Code.ops obj_Heap_Size.k9) (by kernel_rfl) ?_
    refine N_run 1 [(4, .int .i64 2)] (fun w => by kernel_rfl) ?_
    refine N_end (by kernel_rfl) ?_
    refine S_then ?_
    refine S_ret (by kernel_rfl) ?_
    show At _ _ _ _ (Q .ret)
    exact S_done (fn := Try.f35) [.int .i64 2] hQ (show ResOK _ _ _ [.tmp 4] _ from .tmp (by kernel_rfl) (.nil)) h
  · rw [if_neg c1] at h
    have b2 : x = false := eq_false_of_ne_true c1
    refine S_env [(0, .pointer hv), (1, .int .u64 wv), (12, .bool false)] (by simp only [b2, Bool.not_true, Bool.not_false]) ?_
    clear b2
    refine S_condF (.tmp 12) obj_Heap_Size.k7 obj_Heap_Size.k8 (by kernel_rfl) (by kernel_rfl) ?_
    refine S_skip (by kernel_rfl) ?_
    refine S_then ?_
    refine S_seq obj_Heap_Size.k11 obj_Heap_Size.k12 (by kernel_rfl) ?_
    refine S_seq obj_Heap_Size.k13 obj_Heap_Size.k14 (by kernel_rfl) ?_
    refine S_region 3 (Code.ops obj_Heap_Size.k13) (by kernel_rfl) ?_
    refine N_run 2 [(14, .pointer hv), (15, .int .u64 wv)] (fun w => by kernel_rfl) ?_
    refine N_call (some 16) 66 #[.pointer hv, .int .u64 wv] (fun w => by kernel_rfl) h ?_; clear h
    rintro v_2 H2 ⟨ra, rb, rc, rd, re, rfl, h⟩
    refine ⟨[(16, .tuple #[.int .i64 ra, .int .i64 rb, .int .i64 rc, .int .u64 rd, .bool re])], ps (by kernel_rfl), ?_⟩
    refine N_run 11 [(7, .int .i64 rc), (9, .bool re)] (fun w => by kernel_rfl) ?_
    refine N_end (by kernel_rfl) ?_
    refine S_then ?_
    refine S_seq obj_Heap_Size.k15 obj_Heap_Size.k16 (by kernel_rfl) ?_
    refine S_region 4 (Code.ops obj_Heap_Size.k15) (by kernel_rfl) ?_
    refine N_run 1 [(7, .int .i64 rc), (22, .bool re)] (fun w => by kernel_rfl) ?_
    refine N_end (by kernel_rfl) ?_
    refine S_then ?_
    by_cases c3 : re = true
    · rw [if_pos c3] at h
      have b4 : re = true := c3
      refine S_env [(7, .int .i64 rc), (22, .bool true)] (by simp only [b4, Bool.not_true, Bool.not_false]) ?_
      clear b4
      refine S_condT (.tmp 22) obj_Heap_Size.k17 obj_Heap_Size.k18 (by kernel_rfl) (by kernel_rfl) ?_
      refine S_seq obj_Heap_Size.k19 obj_Heap_Size.k20 (by kernel_rfl) ?_
      refine S_region 5 (Code.ops obj_Heap_Size.k19) (by kernel_rfl) ?_
      refine N_run 3 [(4, .int .i64 (IntKind.wrap .i64 (rc + 1)))] (fun w => by kernel_rfl) ?_
      refine N_end (by kernel_rfl) ?_
      refine S_then ?_
      refine S_ret (by kernel_rfl) ?_
      show At _ _ _ _ (Q .ret)
      exact S_done (fn := Try.f35) [.int .i64 (IntKind.wrap .i64 (rc + 1))] hQ (show ResOK _ _ _ [.tmp 4] _ from .tmp (by kernel_rfl) (.nil)) h
    · rw [if_neg c3] at h
      have b4 : re = false := eq_false_of_ne_true c3
      refine S_env [(7, .int .i64 rc), (22, .bool false)] (by simp only [b4, Bool.not_true, Bool.not_false]) ?_
      clear b4
      refine S_condF (.tmp 22) obj_Heap_Size.k17 obj_Heap_Size.k18 (by kernel_rfl) (by kernel_rfl) ?_
      refine S_skip (by kernel_rfl) ?_
      refine S_then ?_
      refine S_seq obj_Heap_Size.k21 obj_Heap_Size.k22 (by kernel_rfl) ?_
      refine S_region 6 (Code.ops obj_Heap_Size.k21) (by kernel_rfl) ?_
      refine N_run 1 [(4, .int .i64 0)] (fun w => by kernel_rfl) ?_
      refine N_end (by kernel_rfl) ?_
      refine S_then ?_
      refine S_ret (by kernel_rfl) ?_
      show At _ _ _ _ (Q .ret)
      exact S_done (fn := Try.f35) [.int .i64 0] hQ (show ResOK _ _ _ [.tmp 4] _ from .tmp (by kernel_rfl) (.nil)) h

/-! (*moraine/obj.Heap).Type -/
noncomputable def obj_Heap_Type.k0 : Code := Func.code Try.f36
noncomputable def obj_Heap_Type.k1 : Code := Code.fa obj_Heap_Type.k0
noncomputable def obj_Heap_Type.k2 : Code := Code.fb obj_Heap_Type.k0
noncomputable def obj_Heap_Type.k3 : Code := Code.fa obj_Heap_Type.k2
noncomputable def obj_Heap_Type.k4 : Code := Code.fb obj_Heap_Type.k2
noncomputable def obj_Heap_Type.k5 : Code := Code.fa obj_Heap_Type.k4
noncomputable def obj_Heap_Type.k6 : Code := Code.fb obj_Heap_Type.k4
def obj_Heap_Type.pt (hv : Option Addr) (wv : Int) (H : Array Obj) (R : Value → Array Obj → Prop) : Prop :=
 obj_Heap_object.C hv wv H (fun v H1 => ∃ ra : Int, ∃ rb : Int, ∃ rc : Int, ∃ rd : Int, ∃ re : Bool, v = .tuple #[.int .i64 ra, .int .i64 rb, .int .i64 rc, .int .u64 rd, .bool re] ∧ 
  R (.int .i64 rb) H1)
set_option maxRecDepth 100000 in
theorem obj_Heap_Type.link {hv : Option Addr} {wv : Int} {H : Array Obj} {R : Value → Array Obj → Prop} (h : obj_Heap_Type.pt hv wv H R) : obj_Heap_Type.C hv wv H R := by
  refine S_enter (fn := Try.f36) (c := obj_Heap_Type.k0) 20 Try.func36 (by kernel_rfl) (by kernel_rfl) (Nat.le_of_ble_eq_true (by kernel_rfl)) ?_
  intro w0 Q hQ
  unfold obj_Heap_Type.pt at h
  refine S_sub [(0, .pointer hv), (1, .int .u64 wv)] (sb (by kernel_rfl)) ?_
  refine S_seq obj_Heap_Type.k1 obj_Heap_Type.k2 (by kernel_rfl) ?_
  refine S_region 0 (Code.ops obj_Heap_Type.k1) (by kernel_rfl) ?_
  refine N_run 1 [(0, .pointer hv), (1, .int .u64 wv)] (fun w => by kernel_rfl) ?_
  refine N_end (by kernel_rfl) ?_
  refine S_then ?_
  refine S_seq obj_Heap_Type.k3 obj_Heap_Type.k4 (by kernel_rfl) ?_
  refine S_region 1 (Code.ops obj_Heap_Type.k3) (by kernel_rfl) ?_
  refine N_run 2 [(11, .pointer hv), (12, .int .u64 wv)] (fun w => by kernel_rfl) ?_
  refine N_call (some 13) 66 #[.pointer hv, .int .u64 wv] (fun w => by kernel_rfl) h ?_; clear h
  rintro v H1 ⟨ra, rb, rc, rd, re, rfl, h⟩
  refine ⟨[(13, .tuple #[.int .i64 ra, .int .i64 rb, .int .i64 rc, .int .u64 rd, .bool re])], ps (by kernel_rfl), ?_⟩
  refine N_run 11 [(6, .int .i64 rb)] (fun w => by kernel_rfl) ?_
  refine N_end (by kernel_rfl) ?_
  refine S_then ?_
  refine S_seq obj_Heap_Type.k5 obj_Heap_Type.k6 (by kernel_rfl) ?_
  refine S_region 2 (Code.ops obj_Heap_Type.k5) (by kernel_rfl) ?_
  refine N_run 2 [(4, .int .i64 rb)] (fun w => by kernel_rfl) ?_
  refine N_end (by kernel_rfl) ?_
  refine S_then ?_
  refine S_ret (by kernel_rfl) ?_
  show At _ _ _ _ (Q .ret)
  exact S_done (fn := Try.f36) [.int .i64 rb] hQ (show ResOK _ _ _ [.tmp 4] _ from .tmp (by kernel_rfl) (.nil)) h

/-! (*moraine/obj.Heap).Len -/
noncomputable def obj_Heap_Len.k0 : Code := Func.code Try.f37
noncomputable def obj_Heap_Len.k1 : Code := Code.fa obj_Heap_Len.k0
noncomputable def obj_Heap_Len.k2 : Code := Code.fb obj_Heap_Len.k0
noncomputable def obj_Heap_Len.k3 : Code := Code.fa obj_Heap_Len.k2
noncomputable def obj_Heap_Len.k4 : Code := Code.fb obj_Heap_Len.k2
noncomputable def obj_Heap_Len.k5 : Code := Code.fa obj_Heap_Len.k4
noncomputable def obj_Heap_Len.k6 : Code := Code.fb obj_Heap_Len.k4
def obj_Heap_Len.pt (hv : Option Addr) (wv : Int) (H : Array Obj) (R : Value → Array Obj → Prop) : Prop :=
 obj_Heap_object.C hv wv H (fun v H1 => ∃ ra : Int, ∃ rb : Int, ∃ rc : Int, ∃ rd : Int, ∃ re : Bool, v = .tuple #[.int .i64 ra, .int .i64 rb, .int .i64 rc, .int .u64 rd, .bool re] ∧ 
  R (.int .i64 rc) H1)
set_option maxRecDepth 100000 in
theorem obj_Heap_Len.link {hv : Option Addr} {wv : Int} {H : Array Obj} {R : Value → Array Obj → Prop} (h : obj_Heap_Len.pt hv wv H R) : obj_Heap_Len.C hv wv H R := by
  refine S_enter (fn := Try.f37) (c := obj_Heap_Len.k0) 20 Try.func37 (by kernel_rfl) (by kernel_rfl) (Nat.le_of_ble_eq_true (by kernel_rfl)) ?_
  intro w0 Q hQ
  unfold obj_Heap_Len.pt at h
  refine S_sub [(0, .pointer hv), (1, .int .u64 wv)] (sb (by kernel_rfl)) ?_
  refine S_seq obj_Heap_Len.k1 obj_Heap_Len.k2 (by kernel_rfl) ?_
  refine S_region 0 (Code.ops obj_Heap_Len.k1) (by kernel_rfl) ?_
  refine N_run 1 [(0, .pointer hv), (1, .int .u64 wv)] (fun w => by kernel_rfl) ?_
  refine N_end (by kernel_rfl) ?_
  refine S_then ?_
  refine S_seq obj_Heap_Len.k3 obj_Heap_Len.k4 (by kernel_rfl) ?_
  refine S_region 1 (Code.ops obj_Heap_Len.k3) (by kernel_rfl) ?_
  refine N_run 2 [(11, .pointer hv), (12, .int .u64 wv)] (fun w => by kernel_rfl) ?_
  refine N_call (some 13) 66 #[.pointer hv, .int .u64 wv] (fun w => by kernel_rfl) h ?_; clear h
  rintro v H1 ⟨ra, rb, rc, rd, re, rfl, h⟩
  refine ⟨[(13, .tuple #[.int .i64 ra, .int .i64 rb, .int .i64 rc, .int .u64 rd, .bool re])], ps (by kernel_rfl), ?_⟩
  refine N_run 11 [(7, .int .i64 rc)] (fun w => by kernel_rfl) ?_
  refine N_end (by kernel_rfl) ?_
  refine S_then ?_
  refine S_seq obj_Heap_Len.k5 obj_Heap_Len.k6 (by kernel_rfl) ?_
  refine S_region 2 (Code.ops obj_Heap_Len.k5) (by kernel_rfl) ?_
  refine N_run 2 [(4, .int .i64 rc)] (fun w => by kernel_rfl) ?_
  refine N_end (by kernel_rfl) ?_
  refine S_then ?_
  refine S_ret (by kernel_rfl) ?_
  show At _ _ _ _ (Q .ret)
  exact S_done (fn := Try.f37) [.int .i64 rc] hQ (show ResOK _ _ _ [.tmp 4] _ from .tmp (by kernel_rfl) (.nil)) h

/-! (*moraine/obj.Heap).Get -/
noncomputable def obj_Heap_Get.k0 : Code := Func.code Try.f38
noncomputable def obj_Heap_Get.k1 : Code := Code.fa obj_Heap_Get.k0
noncomputable def obj_Heap_Get.k2 : Code := Code.fb obj_Heap_Get.k0
noncomputable def obj_Heap_Get.k3 : Code := Code.fa obj_Heap_Get.k2
noncomputable def obj_Heap_Get.k4 : Code := Code.fb obj_Heap_Get.k2
noncomputable def obj_Heap_Get.k5 : Code := Code.fa obj_Heap_Get.k4
noncomputable def obj_Heap_Get.k6 : Code := Code.fb obj_Heap_Get.k4
noncomputable def obj_Heap_Get.k7 : Code := Code.fa obj_Heap_Get.k5
noncomputable def obj_Heap_Get.k8 : Code := Code.fb obj_Heap_Get.k5
noncomputable def obj_Heap_Get.k9 : Code := Code.fa obj_Heap_Get.k8
noncomputable def obj_Heap_Get.k10 : Code := Code.fb obj_Heap_Get.k8
noncomputable def obj_Heap_Get.k11 : Code := Code.fa obj_Heap_Get.k6
noncomputable def obj_Heap_Get.k12 : Code := Code.fb obj_Heap_Get.k6
noncomputable def obj_Heap_Get.k13 : Code := Code.fa obj_Heap_Get.k9
noncomputable def obj_Heap_Get.k14 : Code := Code.fb obj_Heap_Get.k9
def obj_Heap_Get.pt (hv : Option Addr) (wv : Int) (kind : Int) (i : Int) (H : Array Obj) (R : Value → Array Obj → Prop) : Prop :=
 obj_Heap_field.C hv wv kind i H (fun v H1 => ∃ ra : Int, ∃ rb : Int, v = .tuple #[.int .i64 ra, .int .i64 rb] ∧ 
  if rb = 0 then (
   ∃ hvA : Addr, hv = some hvA ∧
   ∃ x : Option Addr, hat H1 hvA = some (.pointer x) ∧
   ∃ xA : Addr, x = some xA ∧
   ∃ x_2 : Option Addr, hat H1 xA = some (.pointer x_2) ∧
   ∃ x2A : Addr, x_2 = some x2A ∧
   ∃ x_3 : Option Addr, hat H1 x2A = some (.pointer x_3) ∧
   seg_Mem_Read.C x_3 ra H1 (fun v_2 H2 => ∃ ra_2 : Int, ∃ rb_2 : Int, v_2 = .tuple #[.int .u64 ra_2, .int .i64 rb_2] ∧ 
    R (.tuple #[.int .u64 ra_2, .int .i64 rb_2]) H2))
  else
  R (.tuple #[.int .u64 0, .int .i64 rb]) H1)
set_option maxRecDepth 100000 in
theorem obj_Heap_Get.link {hv : Option Addr} {wv : Int} {kind : Int} {i : Int} {H : Array Obj} {R : Value → Array Obj → Prop} (h : obj_Heap_Get.pt hv wv kind i H R) : obj_Heap_Get.C hv wv kind i H R := by
  refine S_enter (fn := Try.f38) (c := obj_Heap_Get.k0) 37 Try.func38 (by kernel_rfl) (by kernel_rfl) (Nat.le_of_ble_eq_true (by kernel_rfl)) ?_
  intro w0 Q hQ
  unfold obj_Heap_Get.pt at h
  refine S_sub [(0, .pointer hv), (1, .int .u64 wv), (2, .int .i64 kind), (3, .int .i64 i)] (sb (by kernel_rfl)) ?_
  refine S_seq obj_Heap_Get.k1 obj_Heap_Get.k2 (by kernel_rfl) ?_
  refine S_region 0 (Code.ops obj_Heap_Get.k1) (by kernel_rfl) ?_
  refine N_run 2 [(0, .pointer hv), (1, .int .u64 wv), (2, .int .i64 kind), (3, .int .i64 i)] (fun w => by kernel_rfl) ?_
  refine N_end (by kernel_rfl) ?_
  refine S_then ?_
  refine S_seq obj_Heap_Get.k3 obj_Heap_Get.k4 (by kernel_rfl) ?_
  refine S_region 1 (Code.ops obj_Heap_Get.k3) (by kernel_rfl) ?_
  refine N_run 4 [(0, .pointer hv), (13, .pointer hv), (14, .int .u64 wv), (15, .int .i64 kind), (16, .int .i64 i)] (fun w => by kernel_rfl) ?_
  refine N_call (some 17) 63 #[.pointer hv, .int .u64 wv, .int .i64 kind, .int .i64 i] (fun w => by kernel_rfl) h ?_; clear h
  rintro v H1 ⟨ra, rb, rfl, h⟩
  refine ⟨[(0, .pointer hv), (17, .tuple #[.int .i64 ra, .int .i64 rb])], ps (by kernel_rfl), ?_⟩
  refine N_run 5 [(0, .pointer hv), (10, .int .i64 ra), (11, .int .i64 rb)] (fun w => by kernel_rfl) ?_
  refine N_end (by kernel_rfl) ?_
  refine S_then ?_
  refine S_seq obj_Heap_Get.k5 obj_Heap_Get.k6 (by kernel_rfl) ?_
  refine S_seq obj_Heap_Get.k7 obj_Heap_Get.k8 (by kernel_rfl) ?_
  refine S_region 2 (Code.ops obj_Heap_Get.k7) (by kernel_rfl) ?_
  refine N_run 2 [(0, .pointer hv), (10, .int .i64 ra), (11, .int .i64 rb), (21, .bool (rb != 0))] (fun w => by kernel_rfl) ?_
  refine N_end (by kernel_rfl) ?_
  refine S_then ?_
  by_cases c1 : rb = 0
  · rw [if_pos c1] at h
    have b2 : (rb != 0) = false := bne_eq_false_iff_eq.mpr c1
    refine S_env [(0, .pointer hv), (10, .int .i64 ra), (11, .int .i64 rb), (21, .bool false)] (by simp only [b2, Bool.not_true, Bool.not_false]) ?_
    clear b2
    refine S_condF (.tmp 21) obj_Heap_Get.k9 obj_Heap_Get.k10 (by kernel_rfl) (by kernel_rfl) ?_
    refine S_skip (by kernel_rfl) ?_
    refine S_then ?_
    refine S_seq obj_Heap_Get.k11 obj_Heap_Get.k12 (by kernel_rfl) ?_
    refine S_region 4 (Code.ops obj_Heap_Get.k11) (by kernel_rfl) ?_
    refine N_run 1 [(10, .int .i64 ra), (23, .pointer hv)] (fun w => by kernel_rfl) ?_
    obtain ⟨hvA, rfl, h⟩ := h
    refine N_run 2 [(10, .int .i64 ra), (25, .pointer (some hvA))] (fun w => by kernel_rfl) ?_
    obtain ⟨x, q3, h⟩ := h
    refine N_val (some 26) (loadN 57 (.pointer (some hvA))) (.pointer x) (fun w => by kernel_rfl) (loadN_run (loadOK_one (fun w => by kernel_rfl) q3)) [(10, .int .i64 ra), (26, .pointer x)] (ps (by kernel_rfl)) ?_
    obtain ⟨xA, rfl, h⟩ := h
    refine N_run 2 [(10, .int .i64 ra), (28, .pointer (some xA))] (fun w => by kernel_rfl) ?_
    obtain ⟨x_2, q4, h⟩ := h
    refine N_val (some 29) (loadN 107 (.pointer (some xA))) (.pointer x_2) (fun w => by kernel_rfl) (loadN_run (loadOK_one (fun w => by kernel_rfl) q4)) [(10, .int .i64 ra), (29, .pointer x_2)] (ps (by kernel_rfl)) ?_
    obtain ⟨x2A, rfl, h⟩ := h
    refine N_run 2 [(10, .int .i64 ra), (31, .pointer (some x2A))] (fun w => by kernel_rfl) ?_
    obtain ⟨x_3, q5, h⟩ := h
    refine N_val (some 32) (loadN 124 (.pointer (some x2A))) (.pointer x_3) (fun w => by kernel_rfl) (loadN_run (loadOK_one (fun w => by kernel_rfl) q5)) [(10, .int .i64 ra), (32, .pointer x_3)] (ps (by kernel_rfl)) ?_
    refine N_run 1 [(32, .pointer x_3), (33, .int .i64 ra)] (fun w => by kernel_rfl) ?_
    refine N_call (some 34) 67 #[.pointer x_3, .int .i64 ra] (fun w => by kernel_rfl) h ?_; clear h
    rintro v_2 H2 ⟨ra_2, rb_2, rfl, h⟩
    refine ⟨[(34, .tuple #[.int .u64 ra_2, .int .i64 rb_2])], ps (by kernel_rfl), ?_⟩
    refine N_run 4 [(8, .int .u64 ra_2), (9, .int .i64 rb_2)] (fun w => by kernel_rfl) ?_
    refine N_end (by kernel_rfl) ?_
    refine S_then ?_
    refine S_ret (by kernel_rfl) ?_
    show At _ _ _ _ (Q .ret)
    exact S_done (fn := Try.f38) [.int .u64 ra_2, .int .i64 rb_2] hQ (show ResOK _ _ _ [.tmp 8, .tmp 9] _ from .tmp (by kernel_rfl) (.tmp (by kernel_rfl) (.nil))) h
  · rw [if_neg c1] at h
    have b2 : (rb != 0) = true := bne_iff_ne.mpr c1
    refine S_env [(0, .pointer hv), (10, .int .i64 ra), (11, .int .i64 rb), (21, .bool true)] (by simp only [b2, Bool.not_true, Bool.not_false]) ?_
    clear b2
    refine S_condT (.tmp 21) obj_Heap_Get.k9 obj_Heap_Get.k10 (by kernel_rfl) (by kernel_rfl) ?_
    refine S_seq obj_Heap_Get.k13 obj_Heap_Get.k14 (by kernel_rfl) ?_
    refine S_region 3 (Code.ops obj_Heap_Get.k13) (by kernel_rfl) ?_
    refine N_run 3 [(8, .int .u64 0), (9, .int .i64 rb)] (fun w => by kernel_rfl) ?_
    refine N_end (by kernel_rfl) ?_
    refine S_then ?_
    refine S_ret (by kernel_rfl) ?_
    show At _ _ _ _ (Q .ret)
    exact S_done (fn := Try.f38) [.int .u64 0, .int .i64 rb] hQ (show ResOK _ _ _ [.tmp 8, .tmp 9] _ from .tmp (by kernel_rfl) (.tmp (by kernel_rfl) (.nil))) h

/-! (*moraine/obj.Heap).Int -/
noncomputable def obj_Heap_Int.k0 : Code := Func.code Try.f42
noncomputable def obj_Heap_Int.k1 : Code := Code.fa obj_Heap_Int.k0
noncomputable def obj_Heap_Int.k2 : Code := Code.fb obj_Heap_Int.k0
noncomputable def obj_Heap_Int.k3 : Code := Code.fa obj_Heap_Int.k2
noncomputable def obj_Heap_Int.k4 : Code := Code.fb obj_Heap_Int.k2
noncomputable def obj_Heap_Int.k5 : Code := Code.fa obj_Heap_Int.k4
noncomputable def obj_Heap_Int.k6 : Code := Code.fb obj_Heap_Int.k4
noncomputable def obj_Heap_Int.k7 : Code := Code.fa obj_Heap_Int.k5
noncomputable def obj_Heap_Int.k8 : Code := Code.fb obj_Heap_Int.k5
noncomputable def obj_Heap_Int.k9 : Code := Code.fa obj_Heap_Int.k8
noncomputable def obj_Heap_Int.k10 : Code := Code.fb obj_Heap_Int.k8
noncomputable def obj_Heap_Int.k11 : Code := Code.fa obj_Heap_Int.k6
noncomputable def obj_Heap_Int.k12 : Code := Code.fb obj_Heap_Int.k6
noncomputable def obj_Heap_Int.k13 : Code := Code.fa obj_Heap_Int.k11
noncomputable def obj_Heap_Int.k14 : Code := Code.fb obj_Heap_Int.k11
noncomputable def obj_Heap_Int.k15 : Code := Code.fa obj_Heap_Int.k14
noncomputable def obj_Heap_Int.k16 : Code := Code.fb obj_Heap_Int.k14
noncomputable def obj_Heap_Int.k17 : Code := Code.fa obj_Heap_Int.k16
noncomputable def obj_Heap_Int.k18 : Code := Code.fb obj_Heap_Int.k16
noncomputable def obj_Heap_Int.k19 : Code := Code.fa obj_Heap_Int.k17
noncomputable def obj_Heap_Int.k20 : Code := Code.fb obj_Heap_Int.k17
noncomputable def obj_Heap_Int.k21 : Code := Code.fa obj_Heap_Int.k12
noncomputable def obj_Heap_Int.k22 : Code := Code.fb obj_Heap_Int.k12
noncomputable def obj_Heap_Int.k23 : Code := Code.fa obj_Heap_Int.k22
noncomputable def obj_Heap_Int.k24 : Code := Code.fb obj_Heap_Int.k22
noncomputable def obj_Heap_Int.k25 : Code := Code.fa obj_Heap_Int.k23
noncomputable def obj_Heap_Int.k26 : Code := Code.fb obj_Heap_Int.k23
noncomputable def obj_Heap_Int.k27 : Code := Code.fa obj_Heap_Int.k26
noncomputable def obj_Heap_Int.k28 : Code := Code.fa obj_Heap_Int.k27
noncomputable def obj_Heap_Int.k29 : Code := Code.fa obj_Heap_Int.k28
noncomputable def obj_Heap_Int.k30 : Code := Code.fb obj_Heap_Int.k28
noncomputable def obj_Heap_Int.k31 : Code := Code.fa obj_Heap_Int.k30
noncomputable def obj_Heap_Int.k32 : Code := Code.fb obj_Heap_Int.k30
noncomputable def obj_Heap_Int.k33 : Code := Code.fa obj_Heap_Int.k31
noncomputable def obj_Heap_Int.k34 : Code := Code.fb obj_Heap_Int.k31
noncomputable def obj_Heap_Int.k35 : Code := Code.fa obj_Heap_Int.k32
noncomputable def obj_Heap_Int.k36 : Code := Code.fb obj_Heap_Int.k32
noncomputable def obj_Heap_Int.k37 : Code := Code.fa obj_Heap_Int.k35
noncomputable def obj_Heap_Int.k38 : Code := Code.fa obj_Heap_Int.k37
noncomputable def obj_Heap_Int.k39 : Code := Code.fb obj_Heap_Int.k37
noncomputable def obj_Heap_Int.k40 : Code := Code.fa obj_Heap_Int.k24
noncomputable def obj_Heap_Int.k41 : Code := Code.fb obj_Heap_Int.k24
noncomputable def obj_Heap_Int.k42 : Code := Code.fa obj_Heap_Int.k41
noncomputable def obj_Heap_Int.k43 : Code := Code.fb obj_Heap_Int.k41
noncomputable def obj_Heap_Int.k44 : Code := Code.fa obj_Heap_Int.k42
noncomputable def obj_Heap_Int.k45 : Code := Code.fb obj_Heap_Int.k42
noncomputable def obj_Heap_Int.k46 : Code := Code.fa obj_Heap_Int.k45
noncomputable def obj_Heap_Int.k47 : Code := Code.fb obj_Heap_Int.k45
noncomputable def obj_Heap_Int.k48 : Code := Code.fa obj_Heap_Int.k43
noncomputable def obj_Heap_Int.k49 : Code := Code.fb obj_Heap_Int.k43
noncomputable def obj_Heap_Int.k50 : Code := Code.fa obj_Heap_Int.k9
noncomputable def obj_Heap_Int.k51 : Code := Code.fb obj_Heap_Int.k9
def obj_Heap_Int.pt (hv : Option Addr) (nNeg : Bool) (nMagB : Option Addr) (nMagN : Nat) (nMagC : Nat) (H : Array Obj) (R : Value → Array Obj → Prop) : Prop :=
 ∀ (b : Nat) (H1 : Array Obj), b = H.size → H1 = H.push (.cells #[.bool nNeg, .slice nMagB nMagN nMagC] 70) →
 ∃ xNeg : Bool, ∃ xMagB : Option Addr, ∃ xMagN : Nat, ∃ xMagC : Nat, RowAt H1 (Addr.mk b 0 none) 0 [.bool xNeg, .slice xMagB xMagN xMagC] ∧
 num_Norm.C xNeg xMagB xMagN xMagC H1 (fun v H2 => ∃ raNeg : Bool, ∃ raMagB : Option Addr, ∃ raMagN : Nat, ∃ raMagC : Nat, ∃ rb : Int, v = .tuple #[.agg #[.bool raNeg, .slice raMagB raMagN raMagC], .int .i64 rb] ∧ 
  ∀ (b_2 : Nat) (H3 : Array Obj), b_2 = H2.size → H3 = H2.push (.cells #[.bool false, .slice none 0 0] 70) →
  (CanPuts H3 (Addr.mk b_2 0 none) 0 2) ∧ ∀ H4 : Array Obj, H4 = hputs H3 (Addr.mk b_2 0 none) [.bool raNeg, .slice raMagB raMagN raMagC] 0 →
  if rb = 0 then (
   ∃ xNeg_2 : Bool, ∃ xMagB_2 : Option Addr, ∃ xMagN_2 : Nat, ∃ xMagC_2 : Nat, RowAt H4 (Addr.mk b_2 0 none) 0 [.bool xNeg_2, .slice xMagB_2 xMagN_2 xMagC_2] ∧
   num_Fix.C xNeg_2 xMagB_2 xMagN_2 xMagC_2 H4 (fun v_2 H5 => ∃ ra : Int, ∃ rb_2 : Bool, v_2 = .tuple #[.int .i64 ra, .bool rb_2] ∧ 
    if rb_2 = true then (
     word_Fix.C ra H5 (fun v_3 H6 => ∃ ra_2 : Int, ∃ rb_3 : Int, v_3 = .tuple #[.int .u64 ra_2, .int .i64 rb_3] ∧ 
      R (.tuple #[.int .u64 ra_2, .int .i64 rb_3]) H6))
    else
    ∃ xB : Option Addr, ∃ xN : Nat, ∃ xC : Nat, hat H5 ((Addr.mk b_2 0 none).add 1) = some (.slice xB xN xC) ∧
    ∃ (I29 : (Option Addr) → Nat → Nat → Int → Array Obj → Prop) (m29 : (Option Addr) → Nat → Nat → Int → Array Obj → Nat), I29 none 0 0 0 H5 ∧ ∀ (lB : Option Addr) (lN : Nat) (lC : Nat) (s35 : Int) (H7 : Array Obj), I29 lB lN lC s35 H7 →
    if s35 < (xN : Int) then (
     ∃ xBA : Addr, xB = some xBA ∧
     ((0 : Int) ≤ s35 ∧ s35 < (xN : Int)) ∧
     ∃ x : Int, hat H7 (xBA.add (Int.toNat s35 * 1)) = some (.int .u32 x) ∧
     ∀ (b_3 : Nat) (H8 : Array Obj), b_3 = H7.size → H8 = H7.push (.cells #[.int .u64 (IntKind.wrap .u64 x)] 29) →
     appendK 1 29 8 [.int .u64 0] lB lN lC (some (Addr.mk b_3 0 none)) 1 H8 (fun ap apC H9 =>
      (I29 ap (lN + 1) apC (IntKind.wrap .i64 (s35 + 1)) H9 ∧ m29 ap (lN + 1) apC (IntKind.wrap .i64 (s35 + 1)) H9 < m29 lB lN lC s35 H7)))
    else
    ∃ x_2 : Bool, hat H7 (Addr.mk b_2 0 none) = some (.bool x_2) ∧
    if x_2 = true then (
     obj_Heap_Make.C hv 3 1 lB lN lC H7 (fun v_4 H10 => ∃ ra_3 : Int, ∃ rb_4 : Int, v_4 = .tuple #[.int .u64 ra_3, .int .i64 rb_4] ∧ 
      R (.tuple #[.int .u64 ra_3, .int .i64 rb_4]) H10))
    else
    obj_Heap_Make.C hv 3 0 lB lN lC H7 (fun v_5 H11 => ∃ ra_4 : Int, ∃ rb_5 : Int, v_5 = .tuple #[.int .u64 ra_4, .int .i64 rb_5] ∧ 
     R (.tuple #[.int .u64 ra_4, .int .i64 rb_5]) H11)))
  else
  R (.tuple #[.int .u64 0, .int .i64 rb]) H4)
set_option maxRecDepth 100000 in
theorem obj_Heap_Int.link {hv : Option Addr} {nNeg : Bool} {nMagB : Option Addr} {nMagN : Nat} {nMagC : Nat} {H : Array Obj} {R : Value → Array Obj → Prop} (h : obj_Heap_Int.pt hv nNeg nMagB nMagN nMagC H R) : obj_Heap_Int.C hv nNeg nMagB nMagN nMagC H R := by
  refine S_enter (fn := Try.f42) (c := obj_Heap_Int.k0) 53 Try.func42 (by kernel_rfl) (by kernel_rfl) (Nat.le_of_ble_eq_true (by kernel_rfl)) ?_
  intro w0 Q hQ
  unfold obj_Heap_Int.pt at h
  refine S_sub [(0, .pointer hv), (1, .agg #[.bool nNeg, .slice nMagB nMagN nMagC])] (sb (by kernel_rfl)) ?_
  refine S_seq obj_Heap_Int.k1 obj_Heap_Int.k2 (by kernel_rfl) ?_
  refine S_region 0 (Code.ops obj_Heap_Int.k1) (by kernel_rfl) ?_
  refine N_new (some 3) (fun b => .pointer (some (Addr.mk b 0 none))) (.cells #[.bool nNeg, .slice nMagB nMagN nMagC] 70) (fun w => by kernel_rfl) ?_
  intro b H1 e1 e2
  replace h := h b H1 e1 e2
  refine ⟨[(0, .pointer hv), (3, .pointer (some (Addr.mk b 0 none)))], ps (by kernel_rfl), ?_⟩
  refine N_run 2 [(0, .pointer hv), (3, .pointer (some (Addr.mk b 0 none)))] (fun w => by kernel_rfl) ?_
  refine N_end (by kernel_rfl) ?_
  refine S_then ?_
  refine S_seq obj_Heap_Int.k3 obj_Heap_Int.k4 (by kernel_rfl) ?_
  refine S_region 1 (Code.ops obj_Heap_Int.k3) (by kernel_rfl) ?_
  obtain ⟨xNeg, xMagB, xMagN, xMagC, q3, h⟩ := h
  refine N_val (some 15) (loadN 70 (.pointer (some (Addr.mk b 0 none)))) (.agg #[.bool xNeg, .slice xMagB xMagN xMagC]) (fun w => by kernel_rfl) (loadN_run (loadOK_row (fun w => by kernel_rfl) (fun w => by kernel_rfl) q3)) [(0, .pointer hv), (15, .agg #[.bool xNeg, .slice xMagB xMagN xMagC])] (ps (by kernel_rfl)) ?_
  refine N_call (some 16) 41 #[.agg #[.bool xNeg, .slice xMagB xMagN xMagC]] (fun w => by kernel_rfl) h ?_; clear h
  rintro v H2 ⟨raNeg, raMagB, raMagN, raMagC, rb, rfl, h⟩
  refine ⟨[(0, .pointer hv), (16, .tuple #[.agg #[.bool raNeg, .slice raMagB raMagN raMagC], .int .i64 rb])], ps (by kernel_rfl), ?_⟩
  refine N_run 3 [(0, .pointer hv), (17, .agg #[.bool raNeg, .slice raMagB raMagN raMagC]), (18, .int .i64 rb)] (fun w => by kernel_rfl) ?_
  refine N_new (some 6) (fun b => .pointer (some (Addr.mk b 0 none))) (.cells #[.bool false, .slice none 0 0] 70) (fun w => by kernel_rfl) ?_
  intro b_2 H3 e4 e5
  replace h := h b_2 H3 e4 e5
  refine ⟨[(0, .pointer hv), (6, .pointer (some (Addr.mk b_2 0 none))), (17, .agg #[.bool raNeg, .slice raMagB raMagN raMagC]), (18, .int .i64 rb)], ps (by kernel_rfl), ?_⟩
  obtain ⟨q7, h⟩ := h
  refine N_skipop none (storeN 70 (.pointer (some (Addr.mk b_2 0 none))) (.agg #[.bool raNeg, .slice raMagB raMagN raMagC])) (fun Hz => Hz = hputs H3 (Addr.mk b_2 0 none) [.bool raNeg, .slice raMagB raMagN raMagC] 0) (fun w => by kernel_rfl) (ss_store [.bool raNeg, .slice raMagB raMagN raMagC] 2 (by kernel_rfl) (by kernel_rfl) (fun w => by kernel_rfl) (by kernel_rfl) q7) ?_
  intro H4 e6
  replace h := h H4 e6
  refine ⟨[(0, .pointer hv), (6, .pointer (some (Addr.mk b_2 0 none))), (18, .int .i64 rb)], ps (by kernel_rfl), ?_⟩
  refine N_run 1 [(0, .pointer hv), (6, .pointer (some (Addr.mk b_2 0 none))), (7, .int .i64 rb)] (fun w => by kernel_rfl) ?_
  refine N_end (by kernel_rfl) ?_
  refine S_then ?_
  refine S_seq obj_Heap_Int.k5 obj_Heap_Int.k6 (by kernel_rfl) ?_
  refine S_seq obj_Heap_Int.k7 obj_Heap_Int.k8 (by kernel_rfl) ?_
  refine S_region 2 (Code.ops obj_Heap_Int.k7) (by kernel_rfl) ?_
  refine N_run 2 [(0, .pointer hv), (6, .pointer (some (Addr.mk b_2 0 none))), (7, .int .i64 rb), (20, .bool (rb != 0))] (fun w => by kernel_rfl) ?_
  refine N_end (by kernel_rfl) ?_
  refine S_then ?_
  by_cases c8 : rb = 0
  · rw [if_pos c8] at h
    have b9 : (rb != 0) = false := bne_eq_false_iff_eq.mpr c8
    refine S_env [(0, .pointer hv), (6, .pointer (some (Addr.mk b_2 0 none))), (7, .int .i64 rb), (20, .bool false)] (by simp only [b9, Bool.not_true, Bool.not_false]) ?_
    clear b9
    refine S_condF (.tmp 20) obj_Heap_Int.k9 obj_Heap_Int.k10 (by kernel_rfl) (by kernel_rfl) ?_
    refine S_skip (by kernel_rfl) ?_
    refine S_then ?_
    refine S_seq obj_Heap_Int.k11 obj_Heap_Int.k12 (by kernel_rfl) ?_
    refine S_seq obj_Heap_Int.k13 obj_Heap_Int.k14 (by kernel_rfl) ?_
    refine S_region 4 (Code.ops obj_Heap_Int.k13) (by kernel_rfl) ?_
    refine N_sub [(0, .pointer hv), (6, .pointer (some (Addr.mk b_2 0 none)))] (sb (by kernel_rfl)) ?_
    obtain ⟨xNeg_2, xMagB_2, xMagN_2, xMagC_2, q10, h⟩ := h
    refine N_val (some 23) (loadN 70 (.pointer (some (Addr.mk b_2 0 none)))) (.agg #[.bool xNeg_2, .slice xMagB_2 xMagN_2 xMagC_2]) (fun w => by kernel_rfl) (loadN_run (loadOK_row (fun w => by kernel_rfl) (fun w => by kernel_rfl) q10)) [(0, .pointer hv), (6, .pointer (some (Addr.mk b_2 0 none))), (23, .agg #[.bool xNeg_2, .slice xMagB_2 xMagN_2 xMagC_2])] (ps (by kernel_rfl)) ?_
    refine N_call (some 24) 44 #[.agg #[.bool xNeg_2, .slice xMagB_2 xMagN_2 xMagC_2]] (fun w => by kernel_rfl) h ?_; clear h
    rintro v_2 H5 ⟨ra, rb_2, rfl, h⟩
    refine ⟨[(0, .pointer hv), (6, .pointer (some (Addr.mk b_2 0 none))), (24, .tuple #[.int .i64 ra, .bool rb_2])], ps (by kernel_rfl), ?_⟩
    refine N_run 5 [(0, .pointer hv), (6, .pointer (some (Addr.mk b_2 0 none))), (8, .int .i64 ra), (9, .bool rb_2)] (fun w => by kernel_rfl) ?_
    refine N_end (by kernel_rfl) ?_
    refine S_then ?_
    refine S_seq obj_Heap_Int.k15 obj_Heap_Int.k16 (by kernel_rfl) ?_
    refine S_region 5 (Code.ops obj_Heap_Int.k15) (by kernel_rfl) ?_
    refine N_run 1 [(0, .pointer hv), (6, .pointer (some (Addr.mk b_2 0 none))), (8, .int .i64 ra), (27, .bool rb_2)] (fun w => by kernel_rfl) ?_
    refine N_end (by kernel_rfl) ?_
    refine S_then ?_
    by_cases c11 : rb_2 = true
    · rw [if_pos c11] at h
      have b12 : rb_2 = true := c11
      refine S_env [(0, .pointer hv), (6, .pointer (some (Addr.mk b_2 0 none))), (8, .int .i64 ra), (27, .bool true)] (by simp only [b12, Bool.not_true, Bool.not_false]) ?_
      clear b12
      refine S_condT (.tmp 27) obj_Heap_Int.k17 obj_Heap_Int.k18 (by kernel_rfl) (by kernel_rfl) ?_
      refine S_seq obj_Heap_Int.k19 obj_Heap_Int.k20 (by kernel_rfl) ?_
      refine S_region 6 (Code.ops obj_Heap_Int.k19) (by kernel_rfl) ?_
      refine N_run 1 [(28, .int .i64 ra)] (fun w => by kernel_rfl) ?_
      refine N_call (some 29) 57 #[.int .i64 ra] (fun w => by kernel_rfl) h ?_; clear h
      rintro v_3 H6 ⟨ra_2, rb_3, rfl, h⟩
      refine ⟨[(29, .tuple #[.int .u64 ra_2, .int .i64 rb_3])], ps (by kernel_rfl), ?_⟩
      refine N_run 4 [(4, .int .u64 ra_2), (5, .int .i64 rb_3)] (fun w => by kernel_rfl) ?_
      refine N_end (by kernel_rfl) ?_
      refine S_then ?_
      refine S_ret (by kernel_rfl) ?_
      show At _ _ _ _ (Q .ret)
      exact S_done (fn := Try.f42) [.int .u64 ra_2, .int .i64 rb_3] hQ (show ResOK _ _ _ [.tmp 4, .tmp 5] _ from .tmp (by kernel_rfl) (.tmp (by kernel_rfl) (.nil))) h
    · rw [if_neg c11] at h
      have b12 : rb_2 = false := eq_false_of_ne_true c11
      refine S_env [(0, .pointer hv), (6, .pointer (some (Addr.mk b_2 0 none))), (8, .int .i64 ra), (27, .bool false)] (by simp only [b12, Bool.not_true, Bool.not_false]) ?_
      clear b12
      refine S_condF (.tmp 27) obj_Heap_Int.k17 obj_Heap_Int.k18 (by kernel_rfl) (by kernel_rfl) ?_
      refine S_skip (by kernel_rfl) ?_
      refine S_then ?_
      refine S_seq obj_Heap_Int.k21 obj_Heap_Int.k22 (by kernel_rfl) ?_
      refine S_region 7 (Code.ops obj_Heap_Int.k21) (by kernel_rfl) ?_
      refine N_run 1 [(0, .pointer hv), (6, .pointer (some (Addr.mk b_2 0 none))), (10, .slice none 0 0)] (fun w => by kernel_rfl) ?_
      refine N_end (by kernel_rfl) ?_
      refine S_then ?_
      refine S_seq obj_Heap_Int.k23 obj_Heap_Int.k24 (by kernel_rfl) ?_
      refine S_seq obj_Heap_Int.k25 obj_Heap_Int.k26 (by kernel_rfl) ?_
      refine S_region 8 (Code.ops obj_Heap_Int.k25) (by kernel_rfl) ?_
      refine N_run 1 [(0, .pointer hv), (6, .pointer (some (Addr.mk b_2 0 none))), (10, .slice none 0 0), (32, .pointer (some ((Addr.mk b_2 0 none).add 1)))] (fun w => by kernel_rfl) ?_
      obtain ⟨xB, xN, xC, q13, h⟩ := h
      refine N_val (some 33) (loadN 40 (.pointer (some ((Addr.mk b_2 0 none).add 1)))) (.slice xB xN xC) (fun w => by kernel_rfl) (loadN_run (loadOK_one (fun w => by kernel_rfl) q13)) [(0, .pointer hv), (6, .pointer (some (Addr.mk b_2 0 none))), (10, .slice none 0 0), (33, .slice xB xN xC)] (ps (by kernel_rfl)) ?_
      refine N_run 2 [(0, .pointer hv), (6, .pointer (some (Addr.mk b_2 0 none))), (10, .slice none 0 0), (33, .slice xB xN xC), (34, .int .i64 (xN : Int)), (35, .int .i64 0)] (fun w => by kernel_rfl) ?_
      refine N_end (by kernel_rfl) ?_
      refine S_then ?_
      refine S_block 0 obj_Heap_Int.k27 (by kernel_rfl) ?_
      obtain ⟨I29, m29, i14, i15⟩ := h
      refine S_loop (x := obj_Heap_Int.k28) (σ := (Option Addr) × Nat × Nat × Int) (fun s_ => [(0, .pointer hv), (6, .pointer (some (Addr.mk b_2 0 none))), (10, .slice s_.1 s_.2.1 s_.2.2.1), (33, .slice xB xN xC), (34, .int .i64 (xN : Int)), (35, .int .i64 s_.2.2.2)]) (fun s_ H => I29 s_.1 s_.2.1 s_.2.2.1 s_.2.2.2 H) (fun s_ H => m29 s_.1 s_.2.1 s_.2.2.1 s_.2.2.2 H) ((none, 0, 0, 0) : (Option Addr) × Nat × Nat × Int) (by kernel_rfl) i14 (sb (by kernel_rfl)) ?_
      rintro ⟨lB, lN, lC, s35⟩ H7 i16
      have h := i15 lB lN lC s35 H7 i16
      refine S_sub [(0, .pointer hv), (6, .pointer (some (Addr.mk b_2 0 none))), (10, .slice lB lN lC), (33, .slice xB xN xC), (34, .int .i64 (xN : Int)), (35, .int .i64 s35)] (sb (by kernel_rfl)) ?_
      refine S_seq obj_Heap_Int.k29 obj_Heap_Int.k30 (by kernel_rfl) ?_
      refine S_region 9 (Code.ops obj_Heap_Int.k29) (by kernel_rfl) ?_
      refine N_run 1 [(0, .pointer hv), (6, .pointer (some (Addr.mk b_2 0 none))), (10, .slice lB lN lC), (33, .slice xB xN xC), (34, .int .i64 (xN : Int)), (35, .int .i64 s35), (36, .bool (decide (s35 < (xN : Int))))] (fun w => by kernel_rfl) ?_
      refine N_end (by kernel_rfl) ?_
      refine S_then ?_
      refine S_seq obj_Heap_Int.k31 obj_Heap_Int.k32 (by kernel_rfl) ?_
      by_cases c17 : s35 < (xN : Int)
      · rw [if_pos c17] at h
        have b18 : (decide (s35 < (xN : Int))) = true := decide_eq_true c17
        refine S_env [(0, .pointer hv), (6, .pointer (some (Addr.mk b_2 0 none))), (10, .slice lB lN lC), (33, .slice xB xN xC), (34, .int .i64 (xN : Int)), (35, .int .i64 s35), (36, .bool true)] (by simp only [b18, Bool.not_true, Bool.not_false]) ?_
        clear b18
        refine S_condT (.tmp 36) obj_Heap_Int.k33 obj_Heap_Int.k34 (by kernel_rfl) (by kernel_rfl) ?_
        refine S_skip (by kernel_rfl) ?_
        refine S_then ?_
        refine S_seq obj_Heap_Int.k35 obj_Heap_Int.k36 (by kernel_rfl) ?_
        refine S_block 1 obj_Heap_Int.k37 (by kernel_rfl) ?_
        refine S_seq obj_Heap_Int.k38 obj_Heap_Int.k39 (by kernel_rfl) ?_
        refine S_region 10 (Code.ops obj_Heap_Int.k38) (by kernel_rfl) ?_
        refine N_sub [(0, .pointer hv), (6, .pointer (some (Addr.mk b_2 0 none))), (10, .slice lB lN lC), (33, .slice xB xN xC), (34, .int .i64 (xN : Int)), (35, .int .i64 s35)] (sb (by kernel_rfl)) ?_
        obtain ⟨xBA, rfl, h⟩ := h
        obtain ⟨q19, h⟩ := h
        refine N_val (some 37) (indexAtN 40 (.slice (some xBA) xN xC) (.int .i64 s35)) (.pointer (some (xBA.add (Int.toNat s35 * 1)))) (fun w => by kernel_rfl) (fun w _ => indexAt_run (P := Try.prog) (t := 40) (elem := 41) (sz := 1) (a := xBA) (len := xN) (cap := xC) (k := .i64) (i := s35) Try.underlying40 (fun w => by kernel_rfl) q19.1 q19.2 w) [(0, .pointer hv), (6, .pointer (some (Addr.mk b_2 0 none))), (10, .slice lB lN lC), (33, .slice (some xBA) xN xC), (34, .int .i64 (xN : Int)), (35, .int .i64 s35), (37, .pointer (some (xBA.add (Int.toNat s35 * 1))))] (ps (by kernel_rfl)) ?_
        obtain ⟨x, q20, h⟩ := h
        refine N_val (some 38) (loadN 41 (.pointer (some (xBA.add (Int.toNat s35 * 1))))) (.int .u32 x) (fun w => by kernel_rfl) (loadN_run (loadOK_one (fun w => by kernel_rfl) q20)) [(0, .pointer hv), (6, .pointer (some (Addr.mk b_2 0 none))), (10, .slice lB lN lC), (33, .slice (some xBA) xN xC), (34, .int .i64 (xN : Int)), (35, .int .i64 s35), (38, .int .u32 x)] (ps (by kernel_rfl)) ?_
        refine N_run 1 [(0, .pointer hv), (6, .pointer (some (Addr.mk b_2 0 none))), (10, .slice lB lN lC), (12, .int .u32 x), (33, .slice (some xBA) xN xC), (34, .int .i64 (xN : Int)), (35, .int .i64 s35)] (fun w => by kernel_rfl) ?_
        refine N_end (by kernel_rfl) ?_
        refine S_then ?_
        refine S_region 11 (Code.ops obj_Heap_Int.k39) (by kernel_rfl) ?_
        refine N_run 3 [(0, .pointer hv), (6, .pointer (some (Addr.mk b_2 0 none))), (33, .slice (some xBA) xN xC), (34, .int .i64 (xN : Int)), (35, .int .i64 s35), (39, .slice lB lN lC), (41, .int .u64 (IntKind.wrap .u64 x))] (fun w => by kernel_rfl) ?_
        refine N_new (some 42) (fun b => .slice (some (Addr.mk b 0 none)) 1 1) (.cells #[.int .u64 (IntKind.wrap .u64 x)] 29) (fun w => by kernel_rfl) ?_
        intro b_3 H8 e21 e22
        replace h := h b_3 H8 e21 e22
        refine ⟨[(0, .pointer hv), (6, .pointer (some (Addr.mk b_2 0 none))), (33, .slice (some xBA) xN xC), (34, .int .i64 (xN : Int)), (35, .int .i64 s35), (39, .slice lB lN lC), (42, .slice (some (Addr.mk b_3 0 none)) 1 1)], ps (by kernel_rfl), ?_⟩
        refine N_op (some 43) (appendN #[39, 39] 39 #[.slice lB lN lC, .slice (some (Addr.mk b_3 0 none)) 1 1]) _ (fun w => by kernel_rfl) (ss_append (T := 29) (sz := 1) (bytes := 8) (zero := .int .u64 0) Try.underlying39 Try.underlying39 rfl (show Try.prog.info? 29 = some Try.t29 from by kernel_rfl) (by kernel_rfl) (by kernel_rfl) (by decide) (by kernel_rfl) h) ?_
        rintro _ H9 ⟨ap, apC, rfl, h⟩
        refine ⟨[(0, .pointer hv), (6, .pointer (some (Addr.mk b_2 0 none))), (33, .slice (some xBA) xN xC), (34, .int .i64 (xN : Int)), (35, .int .i64 s35), (43, .slice ap (lN + 1) apC)], ps (by kernel_rfl), ?_⟩
        refine N_run 1 [(0, .pointer hv), (6, .pointer (some (Addr.mk b_2 0 none))), (10, .slice ap (lN + 1) apC), (33, .slice (some xBA) xN xC), (34, .int .i64 (xN : Int)), (35, .int .i64 s35)] (fun w => by kernel_rfl) ?_
        refine N_end (by kernel_rfl) ?_
        refine S_blockEnd ?_
        refine S_then ?_
        refine S_region 12 (Code.ops obj_Heap_Int.k36) (by kernel_rfl) ?_
        refine N_run 2 [(0, .pointer hv), (6, .pointer (some (Addr.mk b_2 0 none))), (10, .slice ap (lN + 1) apC), (33, .slice (some xBA) xN xC), (34, .int .i64 (xN : Int)), (35, .int .i64 (IntKind.wrap .i64 (s35 + 1)))] (fun w => by kernel_rfl) ?_
        refine N_end (by kernel_rfl) ?_
        refine S_then ?_
        exact S_round ((ap, (lN + 1), apC, (IntKind.wrap .i64 (s35 + 1))) : (Option Addr) × Nat × Nat × Int) (sb (by kernel_rfl)) h
      · rw [if_neg c17] at h
        have b18 : (decide (s35 < (xN : Int))) = false := decide_eq_false c17
        refine S_env [(0, .pointer hv), (6, .pointer (some (Addr.mk b_2 0 none))), (10, .slice lB lN lC), (33, .slice xB xN xC), (34, .int .i64 (xN : Int)), (35, .int .i64 s35), (36, .bool false)] (by simp only [b18, Bool.not_true, Bool.not_false]) ?_
        clear b18
        refine S_condF (.tmp 36) obj_Heap_Int.k33 obj_Heap_Int.k34 (by kernel_rfl) (by kernel_rfl) ?_
        refine S_exit 0 (by kernel_rfl) ?_
        refine S_exitThen ?_
        refine S_exitThen ?_
        refine S_exitHere ?_
        refine S_then ?_
        refine S_seq obj_Heap_Int.k40 obj_Heap_Int.k41 (by kernel_rfl) ?_
        refine S_region 13 (Code.ops obj_Heap_Int.k40) (by kernel_rfl) ?_
        refine N_run 1 [(0, .pointer hv), (6, .pointer (some (Addr.mk b_2 0 none))), (10, .slice lB lN lC), (13, .int .u64 0)] (fun w => by kernel_rfl) ?_
        refine N_end (by kernel_rfl) ?_
        refine S_then ?_
        refine S_seq obj_Heap_Int.k42 obj_Heap_Int.k43 (by kernel_rfl) ?_
        refine S_seq obj_Heap_Int.k44 obj_Heap_Int.k45 (by kernel_rfl) ?_
        refine S_region 14 (Code.ops obj_Heap_Int.k44) (by kernel_rfl) ?_
        refine N_run 1 [(0, .pointer hv), (10, .slice lB lN lC), (13, .int .u64 0), (45, .pointer (some (Addr.mk b_2 0 none)))] (fun w => by kernel_rfl) ?_
        obtain ⟨x_2, q23, h⟩ := h
        refine N_val (some 46) (loadN 4 (.pointer (some (Addr.mk b_2 0 none)))) (.bool x_2) (fun w => by kernel_rfl) (loadN_run (loadOK_one (fun w => by kernel_rfl) q23)) [(0, .pointer hv), (10, .slice lB lN lC), (13, .int .u64 0), (46, .bool x_2)] (ps (by kernel_rfl)) ?_
        refine N_end (by kernel_rfl) ?_
        refine S_then ?_
        by_cases c24 : x_2 = true
        · rw [if_pos c24] at h
          have b25 : x_2 = true := c24
          refine S_env [(0, .pointer hv), (10, .slice lB lN lC), (13, .int .u64 0), (46, .bool true)] (by simp only [b25, Bool.not_true, Bool.not_false]) ?_
          clear b25
          refine S_condT (.tmp 46) obj_Heap_Int.k46 obj_Heap_Int.k47 (by kernel_rfl) (by kernel_rfl) ?_
          refine S_region 15 (Code.ops obj_Heap_Int.k46) (by kernel_rfl) ?_
          refine N_run 1 [(0, .pointer hv), (10, .slice lB lN lC), (13, .int .u64 1)] (fun w => by kernel_rfl) ?_
          refine N_end (by kernel_rfl) ?_
          refine S_then ?_
          refine S_seq obj_Heap_Int.k48 obj_Heap_Int.k49 (by kernel_rfl) ?_
          refine S_region 16 (Code.ops obj_Heap_Int.k48) (by kernel_rfl) ?_
          refine N_run 3 [(47, .pointer hv), (48, .int .u64 1), (49, .slice lB lN lC)] (fun w => by kernel_rfl) ?_
          refine N_call (some 50) 30 #[.pointer hv, .int .i64 3, .int .u64 1, .slice lB lN lC] (fun w => by kernel_rfl) h ?_; clear h
          rintro v_4 H10 ⟨ra_3, rb_4, rfl, h⟩
          refine ⟨[(50, .tuple #[.int .u64 ra_3, .int .i64 rb_4])], ps (by kernel_rfl), ?_⟩
          refine N_run 4 [(4, .int .u64 ra_3), (5, .int .i64 rb_4)] (fun w => by kernel_rfl) ?_
          refine N_end (by kernel_rfl) ?_
          refine S_then ?_
          refine S_ret (by kernel_rfl) ?_
          show At _ _ _ _ (Q .ret)
          exact S_done (fn := Try.f42) [.int .u64 ra_3, .int .i64 rb_4] hQ (show ResOK _ _ _ [.tmp 4, .tmp 5] _ from .tmp (by kernel_rfl) (.tmp (by kernel_rfl) (.nil))) h
        · rw [if_neg c24] at h
          have b25 : x_2 = false := eq_false_of_ne_true c24
          refine S_env [(0, .pointer hv), (10, .slice lB lN lC), (13, .int .u64 0), (46, .bool false)] (by simp only [b25, Bool.not_true, Bool.not_false]) ?_
          clear b25
          refine S_condF (.tmp 46) obj_Heap_Int.k46 obj_Heap_Int.k47 (by kernel_rfl) (by kernel_rfl) ?_
          refine S_skip (by kernel_rfl) ?_
          refine S_then ?_
          refine S_seq obj_Heap_Int.k48 obj_Heap_Int.k49 (by kernel_rfl) ?_
          refine S_region 16 (Code.ops obj_Heap_Int.k48) (by kernel_rfl) ?_
          refine N_run 3 [(47, .pointer hv), (48, .int .u64 0), (49, .slice lB lN lC)] (fun w => by kernel_rfl) ?_
          refine N_call (some 50) 30 #[.pointer hv, .int .i64 3, .int .u64 0, .slice lB lN lC] (fun w => by kernel_rfl) h ?_; clear h
          rintro v_5 H11 ⟨ra_4, rb_5, rfl, h⟩
          refine ⟨[(50, .tuple #[.int .u64 ra_4, .int .i64 rb_5])], ps (by kernel_rfl), ?_⟩
          refine N_run 4 [(4, .int .u64 ra_4), (5, .int .i64 rb_5)] (fun w => by kernel_rfl) ?_
          refine N_end (by kernel_rfl) ?_
          refine S_then ?_
          refine S_ret (by kernel_rfl) ?_
          show At _ _ _ _ (Q .ret)
          exact S_done (fn := Try.f42) [.int .u64 ra_4, .int .i64 rb_5] hQ (show ResOK _ _ _ [.tmp 4, .tmp 5] _ from .tmp (by kernel_rfl) (.tmp (by kernel_rfl) (.nil))) h
  · rw [if_neg c8] at h
    have b9 : (rb != 0) = true := bne_iff_ne.mpr c8
    refine S_env [(0, .pointer hv), (6, .pointer (some (Addr.mk b_2 0 none))), (7, .int .i64 rb), (20, .bool true)] (by simp only [b9, Bool.not_true, Bool.not_false]) ?_
    clear b9
    refine S_condT (.tmp 20) obj_Heap_Int.k9 obj_Heap_Int.k10 (by kernel_rfl) (by kernel_rfl) ?_
    refine S_seq obj_Heap_Int.k50 obj_Heap_Int.k51 (by kernel_rfl) ?_
    refine S_region 3 (Code.ops obj_Heap_Int.k50) (by kernel_rfl) ?_
    refine N_run 3 [(4, .int .u64 0), (5, .int .i64 rb)] (fun w => by kernel_rfl) ?_
    refine N_end (by kernel_rfl) ?_
    refine S_then ?_
    refine S_ret (by kernel_rfl) ?_
    show At _ _ _ _ (Q .ret)
    exact S_done (fn := Try.f42) [.int .u64 0, .int .i64 rb] hQ (show ResOK _ _ _ [.tmp 4, .tmp 5] _ from .tmp (by kernel_rfl) (.tmp (by kernel_rfl) (.nil))) h

/-! (*moraine/obj.Heap).Num -/
noncomputable def obj_Heap_Num.k0 : Code := Func.code Try.f43
noncomputable def obj_Heap_Num.k1 : Code := Code.fa obj_Heap_Num.k0
noncomputable def obj_Heap_Num.k2 : Code := Code.fb obj_Heap_Num.k0
noncomputable def obj_Heap_Num.k3 : Code := Code.fa obj_Heap_Num.k2
noncomputable def obj_Heap_Num.k4 : Code := Code.fb obj_Heap_Num.k2
noncomputable def obj_Heap_Num.k5 : Code := Code.fa obj_Heap_Num.k3
noncomputable def obj_Heap_Num.k6 : Code := Code.fb obj_Heap_Num.k3
noncomputable def obj_Heap_Num.k7 : Code := Code.fa obj_Heap_Num.k6
noncomputable def obj_Heap_Num.k8 : Code := Code.fb obj_Heap_Num.k6
noncomputable def obj_Heap_Num.k9 : Code := Code.fa obj_Heap_Num.k8
noncomputable def obj_Heap_Num.k10 : Code := Code.fb obj_Heap_Num.k8
noncomputable def obj_Heap_Num.k11 : Code := Code.fa obj_Heap_Num.k9
noncomputable def obj_Heap_Num.k12 : Code := Code.fb obj_Heap_Num.k9
noncomputable def obj_Heap_Num.k13 : Code := Code.fa obj_Heap_Num.k4
noncomputable def obj_Heap_Num.k14 : Code := Code.fb obj_Heap_Num.k4
noncomputable def obj_Heap_Num.k15 : Code := Code.fa obj_Heap_Num.k14
noncomputable def obj_Heap_Num.k16 : Code := Code.fb obj_Heap_Num.k14
noncomputable def obj_Heap_Num.k17 : Code := Code.fa obj_Heap_Num.k15
noncomputable def obj_Heap_Num.k18 : Code := Code.fb obj_Heap_Num.k15
noncomputable def obj_Heap_Num.k19 : Code := Code.fa obj_Heap_Num.k18
noncomputable def obj_Heap_Num.k20 : Code := Code.fb obj_Heap_Num.k18
noncomputable def obj_Heap_Num.k21 : Code := Code.fa obj_Heap_Num.k16
noncomputable def obj_Heap_Num.k22 : Code := Code.fb obj_Heap_Num.k16
noncomputable def obj_Heap_Num.k23 : Code := Code.fa obj_Heap_Num.k22
noncomputable def obj_Heap_Num.k24 : Code := Code.fb obj_Heap_Num.k22
noncomputable def obj_Heap_Num.k25 : Code := Code.fa obj_Heap_Num.k23
noncomputable def obj_Heap_Num.k26 : Code := Code.fb obj_Heap_Num.k23
noncomputable def obj_Heap_Num.k27 : Code := Code.fa obj_Heap_Num.k26
noncomputable def obj_Heap_Num.k28 : Code := Code.fa obj_Heap_Num.k27
noncomputable def obj_Heap_Num.k29 : Code := Code.fa obj_Heap_Num.k28
noncomputable def obj_Heap_Num.k30 : Code := Code.fb obj_Heap_Num.k28
noncomputable def obj_Heap_Num.k31 : Code := Code.fa obj_Heap_Num.k30
noncomputable def obj_Heap_Num.k32 : Code := Code.fb obj_Heap_Num.k30
noncomputable def obj_Heap_Num.k33 : Code := Code.fa obj_Heap_Num.k31
noncomputable def obj_Heap_Num.k34 : Code := Code.fb obj_Heap_Num.k31
noncomputable def obj_Heap_Num.k35 : Code := Code.fa obj_Heap_Num.k32
noncomputable def obj_Heap_Num.k36 : Code := Code.fb obj_Heap_Num.k32
noncomputable def obj_Heap_Num.k37 : Code := Code.fa obj_Heap_Num.k35
noncomputable def obj_Heap_Num.k38 : Code := Code.fa obj_Heap_Num.k37
noncomputable def obj_Heap_Num.k39 : Code := Code.fb obj_Heap_Num.k37
noncomputable def obj_Heap_Num.k40 : Code := Code.fa obj_Heap_Num.k24
noncomputable def obj_Heap_Num.k41 : Code := Code.fb obj_Heap_Num.k24
noncomputable def obj_Heap_Num.k42 : Code := Code.fa obj_Heap_Num.k40
noncomputable def obj_Heap_Num.k43 : Code := Code.fb obj_Heap_Num.k40
noncomputable def obj_Heap_Num.k44 : Code := Code.fa obj_Heap_Num.k43
noncomputable def obj_Heap_Num.k45 : Code := Code.fb obj_Heap_Num.k43
noncomputable def obj_Heap_Num.k46 : Code := Code.fa obj_Heap_Num.k44
noncomputable def obj_Heap_Num.k47 : Code := Code.fb obj_Heap_Num.k44
noncomputable def obj_Heap_Num.k48 : Code := Code.fa obj_Heap_Num.k41
noncomputable def obj_Heap_Num.k49 : Code := Code.fb obj_Heap_Num.k41
noncomputable def obj_Heap_Num.k50 : Code := Code.fa obj_Heap_Num.k19
noncomputable def obj_Heap_Num.k51 : Code := Code.fb obj_Heap_Num.k19
def obj_Heap_Num.pt (hv : Option Addr) (wv : Int) (H : Array Obj) (R : Value → Array Obj → Prop) : Prop :=
 ∀ (b : Nat) (H1 : Array Obj), b = H.size → H1 = H.push (.cells #[.bool false, .slice none 0 0] 70) →
 word_Int.C wv H1 (fun v H2 => ∃ ra : Int, ∃ rb : Bool, v = .tuple #[.int .i64 ra, .bool rb] ∧ 
  if rb = true then (
   num_Of.C ra H2 (fun v_2 H3 => ∃ xNeg : Bool, ∃ xMagB : Option Addr, ∃ xMagN : Nat, ∃ xMagC : Nat, v_2 = .agg #[.bool xNeg, .slice xMagB xMagN xMagC] ∧ 
    (CanPuts H3 (Addr.mk b 0 none) 0 2) ∧ ∀ H4 : Array Obj, H4 = hputs H3 (Addr.mk b 0 none) [.bool xNeg, .slice xMagB xMagN xMagC] 0 →
    ∃ rNeg : Bool, ∃ rMagB : Option Addr, ∃ rMagN : Nat, ∃ rMagC : Nat, RowAt H4 (Addr.mk b 0 none) 0 [.bool rNeg, .slice rMagB rMagN rMagC] ∧
    R (.tuple #[.agg #[.bool rNeg, .slice rMagB rMagN rMagC], .int .i64 0]) H4))
  else
  obj_Heap_words.C hv wv 3 H2 (fun v_3 H5 => ∃ raB : Option Addr, ∃ raN : Nat, ∃ raC : Nat, ∃ rb_2 : Bool, v_3 = .tuple #[.slice raB raN raC, .bool rb_2] ∧ 
   if rb_2 = true then (
    obj_Heap_More.C hv wv H5 (fun v_4 H6 => ∃ x : Int, v_4 = .int .u64 x ∧ 
     ∀ (b_2 : Nat) (H7 : Array Obj), b_2 = H6.size → H7 = H6.push (.cells #[.bool false, .slice none 0 0] 70) →
     (CanPuts H7 (Addr.mk b_2 0 none) 0 2) ∧ ∀ H8 : Array Obj, H8 = hputs H7 (Addr.mk b_2 0 none) [.bool (x == 1), .slice none 0 0] 0 →
     ∃ (I29 : Int → Array Obj → Prop) (m29 : Int → Array Obj → Nat), I29 0 H8 ∧ ∀ (s37 : Int) (H9 : Array Obj), I29 s37 H9 →
     if s37 < (raN : Int) then (
      ∃ raBA : Addr, raB = some raBA ∧
      ((0 : Int) ≤ s37 ∧ s37 < (raN : Int)) ∧
      ∃ x_2 : Int, hat H9 (raBA.add (Int.toNat s37 * 1)) = some (.int .u64 x_2) ∧
      ∃ xB : Option Addr, ∃ xN : Nat, ∃ xC : Nat, hat H9 ((Addr.mk b_2 0 none).add 1) = some (.slice xB xN xC) ∧
      ∀ (b_3 : Nat) (H10 : Array Obj), b_3 = H9.size → H10 = H9.push (.cells #[.int .u32 (IntKind.wrap .u32 x_2)] 41) →
      appendK 1 41 4 [.int .u32 0] xB xN xC (some (Addr.mk b_3 0 none)) 1 H10 (fun ap apC H11 =>
       (CanPuts H11 ((Addr.mk b_2 0 none).add 1) 0 1) ∧ ∀ H12 : Array Obj, H12 = hputs H11 ((Addr.mk b_2 0 none).add 1) [.slice ap (xN + 1) apC] 0 →
       (I29 (IntKind.wrap .i64 (s37 + 1)) H12 ∧ m29 (IntKind.wrap .i64 (s37 + 1)) H12 < m29 s37 H9)))
     else
     ∃ xNeg_2 : Bool, ∃ xMagB_2 : Option Addr, ∃ xMagN_2 : Nat, ∃ xMagC_2 : Nat, RowAt H9 (Addr.mk b_2 0 none) 0 [.bool xNeg_2, .slice xMagB_2 xMagN_2 xMagC_2] ∧
     num_May.C xNeg_2 xMagB_2 xMagN_2 xMagC_2 H9 (fun v_5 H13 => ∃ x_3 : Bool, v_5 = .bool x_3 ∧ 
      if x_3 = true then (
       obj_Heap_More.C hv wv H13 (fun v_6 H14 => ∃ x_4 : Int, v_6 = .int .u64 x_4 ∧ 
        if x_4 > 1 then (
         (CanPuts H14 (Addr.mk b 0 none) 0 2) ∧ ∀ H15 : Array Obj, H15 = hputs H14 (Addr.mk b 0 none) [.bool false, .slice none 0 0] 0 →
         ∃ rNeg_2 : Bool, ∃ rMagB_2 : Option Addr, ∃ rMagN_2 : Nat, ∃ rMagC_2 : Nat, RowAt H15 (Addr.mk b 0 none) 0 [.bool rNeg_2, .slice rMagB_2 rMagN_2 rMagC_2] ∧
         R (.tuple #[.agg #[.bool rNeg_2, .slice rMagB_2 rMagN_2 rMagC_2], .int .i64 3]) H15)
        else
        ∃ xNeg_3 : Bool, ∃ xMagB_3 : Option Addr, ∃ xMagN_3 : Nat, ∃ xMagC_3 : Nat, RowAt H14 (Addr.mk b_2 0 none) 0 [.bool xNeg_3, .slice xMagB_3 xMagN_3 xMagC_3] ∧
        (CanPuts H14 (Addr.mk b 0 none) 0 2) ∧ ∀ H16 : Array Obj, H16 = hputs H14 (Addr.mk b 0 none) [.bool xNeg_3, .slice xMagB_3 xMagN_3 xMagC_3] 0 →
        ∃ rNeg_3 : Bool, ∃ rMagB_3 : Option Addr, ∃ rMagN_3 : Nat, ∃ rMagC_3 : Nat, RowAt H16 (Addr.mk b 0 none) 0 [.bool rNeg_3, .slice rMagB_3 rMagN_3 rMagC_3] ∧
        R (.tuple #[.agg #[.bool rNeg_3, .slice rMagB_3 rMagN_3 rMagC_3], .int .i64 0]) H16))
      else
      (CanPuts H13 (Addr.mk b 0 none) 0 2) ∧ ∀ H17 : Array Obj, H17 = hputs H13 (Addr.mk b 0 none) [.bool false, .slice none 0 0] 0 →
      ∃ rNeg_4 : Bool, ∃ rMagB_4 : Option Addr, ∃ rMagN_4 : Nat, ∃ rMagC_4 : Nat, RowAt H17 (Addr.mk b 0 none) 0 [.bool rNeg_4, .slice rMagB_4 rMagN_4 rMagC_4] ∧
      R (.tuple #[.agg #[.bool rNeg_4, .slice rMagB_4 rMagN_4 rMagC_4], .int .i64 3]) H17)))
   else
   (CanPuts H5 (Addr.mk b 0 none) 0 2) ∧ ∀ H18 : Array Obj, H18 = hputs H5 (Addr.mk b 0 none) [.bool false, .slice none 0 0] 0 →
   ∃ rNeg_5 : Bool, ∃ rMagB_5 : Option Addr, ∃ rMagN_5 : Nat, ∃ rMagC_5 : Nat, RowAt H18 (Addr.mk b 0 none) 0 [.bool rNeg_5, .slice rMagB_5 rMagN_5 rMagC_5] ∧
   R (.tuple #[.agg #[.bool rNeg_5, .slice rMagB_5 rMagN_5 rMagC_5], .int .i64 3]) H18))
set_option maxRecDepth 100000 in
theorem obj_Heap_Num.link {hv : Option Addr} {wv : Int} {H : Array Obj} {R : Value → Array Obj → Prop} (h : obj_Heap_Num.pt hv wv H R) : obj_Heap_Num.C hv wv H R := by
  refine S_enter (fn := Try.f43) (c := obj_Heap_Num.k0) 60 Try.func43 (by kernel_rfl) (by kernel_rfl) (Nat.le_of_ble_eq_true (by kernel_rfl)) ?_
  intro w0 Q hQ
  unfold obj_Heap_Num.pt at h
  refine S_sub [(0, .pointer hv), (1, .int .u64 wv)] (sb (by kernel_rfl)) ?_
  refine S_seq obj_Heap_Num.k1 obj_Heap_Num.k2 (by kernel_rfl) ?_
  refine S_region 0 (Code.ops obj_Heap_Num.k1) (by kernel_rfl) ?_
  refine N_new (some 4) (fun b => .pointer (some (Addr.mk b 0 none))) (.cells #[.bool false, .slice none 0 0] 70) (fun w => by kernel_rfl) ?_
  intro b H1 e1 e2
  replace h := h b H1 e1 e2
  refine ⟨[(0, .pointer hv), (1, .int .u64 wv), (4, .pointer (some (Addr.mk b 0 none)))], ps (by kernel_rfl), ?_⟩
  refine N_run 1 [(0, .pointer hv), (1, .int .u64 wv), (4, .pointer (some (Addr.mk b 0 none)))] (fun w => by kernel_rfl) ?_
  refine N_end (by kernel_rfl) ?_
  refine S_then ?_
  refine S_seq obj_Heap_Num.k3 obj_Heap_Num.k4 (by kernel_rfl) ?_
  refine S_seq obj_Heap_Num.k5 obj_Heap_Num.k6 (by kernel_rfl) ?_
  refine S_region 1 (Code.ops obj_Heap_Num.k5) (by kernel_rfl) ?_
  refine N_run 1 [(0, .pointer hv), (1, .int .u64 wv), (4, .pointer (some (Addr.mk b 0 none))), (14, .int .u64 wv)] (fun w => by kernel_rfl) ?_
  refine N_call (some 15) 55 #[.int .u64 wv] (fun w => by kernel_rfl) h ?_; clear h
  rintro v H2 ⟨ra, rb, rfl, h⟩
  refine ⟨[(0, .pointer hv), (1, .int .u64 wv), (4, .pointer (some (Addr.mk b 0 none))), (15, .tuple #[.int .i64 ra, .bool rb])], ps (by kernel_rfl), ?_⟩
  refine N_run 5 [(0, .pointer hv), (1, .int .u64 wv), (4, .pointer (some (Addr.mk b 0 none))), (6, .int .i64 ra), (7, .bool rb)] (fun w => by kernel_rfl) ?_
  refine N_end (by kernel_rfl) ?_
  refine S_then ?_
  refine S_seq obj_Heap_Num.k7 obj_Heap_Num.k8 (by kernel_rfl) ?_
  refine S_region 2 (Code.ops obj_Heap_Num.k7) (by kernel_rfl) ?_
  refine N_run 1 [(0, .pointer hv), (1, .int .u64 wv), (4, .pointer (some (Addr.mk b 0 none))), (6, .int .i64 ra), (18, .bool rb)] (fun w => by kernel_rfl) ?_
  refine N_end (by kernel_rfl) ?_
  refine S_then ?_
  by_cases c3 : rb = true
  · rw [if_pos c3] at h
    have b4 : rb = true := c3
    refine S_env [(0, .pointer hv), (1, .int .u64 wv), (4, .pointer (some (Addr.mk b 0 none))), (6, .int .i64 ra), (18, .bool true)] (by simp only [b4, Bool.not_true, Bool.not_false]) ?_
    clear b4
    refine S_condT (.tmp 18) obj_Heap_Num.k9 obj_Heap_Num.k10 (by kernel_rfl) (by kernel_rfl) ?_
    refine S_seq obj_Heap_Num.k11 obj_Heap_Num.k12 (by kernel_rfl) ?_
    refine S_region 3 (Code.ops obj_Heap_Num.k11) (by kernel_rfl) ?_
    refine N_run 1 [(4, .pointer (some (Addr.mk b 0 none))), (19, .int .i64 ra)] (fun w => by kernel_rfl) ?_
    refine N_call (some 20) 70 #[.int .i64 ra] (fun w => by kernel_rfl) h ?_; clear h
    rintro v_2 H3 ⟨xNeg, xMagB, xMagN, xMagC, rfl, h⟩
    refine ⟨[(4, .pointer (some (Addr.mk b 0 none))), (20, .agg #[.bool xNeg, .slice xMagB xMagN xMagC])], ps (by kernel_rfl), ?_⟩
    obtain ⟨q6, h⟩ := h
    refine N_skipop none (storeN 70 (.pointer (some (Addr.mk b 0 none))) (.agg #[.bool xNeg, .slice xMagB xMagN xMagC])) (fun Hz => Hz = hputs H3 (Addr.mk b 0 none) [.bool xNeg, .slice xMagB xMagN xMagC] 0) (fun w => by kernel_rfl) (ss_store [.bool xNeg, .slice xMagB xMagN xMagC] 2 (by kernel_rfl) (by kernel_rfl) (fun w => by kernel_rfl) (by kernel_rfl) q6) ?_
    intro H4 e5
    replace h := h H4 e5
    refine ⟨[(4, .pointer (some (Addr.mk b 0 none)))], ps (by kernel_rfl), ?_⟩
    refine N_run 1 [(4, .pointer (some (Addr.mk b 0 none))), (5, .int .i64 0)] (fun w => by kernel_rfl) ?_
    refine N_end (by kernel_rfl) ?_
    refine S_then ?_
    refine S_ret (by kernel_rfl) ?_
    show At _ _ _ _ (Q .ret)
    obtain ⟨rNeg, rMagB, rMagN, rMagC, q7, h⟩ := h
    exact S_done (fn := Try.f43) [.agg #[.bool rNeg, .slice rMagB rMagN rMagC], .int .i64 0] hQ (show ResOK _ _ _ [.cell 4 70, .tmp 5] _ from .cell (by kernel_rfl) (loadOK_row (fun w => by kernel_rfl) (fun w => by kernel_rfl) q7) (.tmp (by kernel_rfl) (.nil))) h
  · rw [if_neg c3] at h
    have b4 : rb = false := eq_false_of_ne_true c3
    refine S_env [(0, .pointer hv), (1, .int .u64 wv), (4, .pointer (some (Addr.mk b 0 none))), (6, .int .i64 ra), (18, .bool false)] (by simp only [b4, Bool.not_true, Bool.not_false]) ?_
    clear b4
    refine S_condF (.tmp 18) obj_Heap_Num.k9 obj_Heap_Num.k10 (by kernel_rfl) (by kernel_rfl) ?_
    refine S_skip (by kernel_rfl) ?_
    refine S_then ?_
    refine S_seq obj_Heap_Num.k13 obj_Heap_Num.k14 (by kernel_rfl) ?_
    refine S_region 4 (Code.ops obj_Heap_Num.k13) (by kernel_rfl) ?_
    refine N_run 2 [(0, .pointer hv), (1, .int .u64 wv), (4, .pointer (some (Addr.mk b 0 none))), (22, .pointer hv), (23, .int .u64 wv)] (fun w => by kernel_rfl) ?_
    refine N_call (some 24) 68 #[.pointer hv, .int .u64 wv, .int .i64 3] (fun w => by kernel_rfl) h ?_; clear h
    rintro v_3 H5 ⟨raB, raN, raC, rb_2, rfl, h⟩
    refine ⟨[(0, .pointer hv), (1, .int .u64 wv), (4, .pointer (some (Addr.mk b 0 none))), (24, .tuple #[.slice raB raN raC, .bool rb_2])], ps (by kernel_rfl), ?_⟩
    refine N_run 5 [(0, .pointer hv), (1, .int .u64 wv), (4, .pointer (some (Addr.mk b 0 none))), (8, .slice raB raN raC), (9, .bool rb_2)] (fun w => by kernel_rfl) ?_
    refine N_end (by kernel_rfl) ?_
    refine S_then ?_
    refine S_seq obj_Heap_Num.k15 obj_Heap_Num.k16 (by kernel_rfl) ?_
    refine S_seq obj_Heap_Num.k17 obj_Heap_Num.k18 (by kernel_rfl) ?_
    refine S_region 5 (Code.ops obj_Heap_Num.k17) (by kernel_rfl) ?_
    refine N_run 2 [(0, .pointer hv), (1, .int .u64 wv), (4, .pointer (some (Addr.mk b 0 none))), (8, .slice raB raN raC), (28, .bool (!rb_2))] (fun w => by kernel_rfl) ?_
    refine N_end (by kernel_rfl) ?_
    refine S_then ?_
    by_cases c8 : rb_2 = true
    · rw [if_pos c8] at h
      have b9 : (!rb_2) = false := congrArg Bool.not (c8)
      have b92 : rb_2 = true := c8
      refine S_env [(0, .pointer hv), (1, .int .u64 wv), (4, .pointer (some (Addr.mk b 0 none))), (8, .slice raB raN raC), (28, .bool false)] (by simp only [b9, b92, Bool.not_true, Bool.not_false]) ?_
      clear b9 b92
      refine S_condF (.tmp 28) obj_Heap_Num.k19 obj_Heap_Num.k20 (by kernel_rfl) (by kernel_rfl) ?_
      refine S_skip (by kernel_rfl) ?_
      refine S_then ?_
      refine S_seq obj_Heap_Num.k21 obj_Heap_Num.k22 (by kernel_rfl) ?_
      refine S_region 7 (Code.ops obj_Heap_Num.k21) (by kernel_rfl) ?_
      refine N_run 2 [(0, .pointer hv), (1, .int .u64 wv), (4, .pointer (some (Addr.mk b 0 none))), (8, .slice raB raN raC), (30, .pointer hv), (31, .int .u64 wv)] (fun w => by kernel_rfl) ?_
      refine N_call (some 32) 71 #[.pointer hv, .int .u64 wv] (fun w => by kernel_rfl) h ?_; clear h
      rintro v_4 H6 ⟨x, rfl, h⟩
      refine ⟨[(0, .pointer hv), (1, .int .u64 wv), (4, .pointer (some (Addr.mk b 0 none))), (8, .slice raB raN raC), (32, .int .u64 x)], ps (by kernel_rfl), ?_⟩
      refine N_run 2 [(0, .pointer hv), (1, .int .u64 wv), (4, .pointer (some (Addr.mk b 0 none))), (8, .slice raB raN raC), (34, .agg #[.bool (x == 1), .slice none 0 0])] (fun w => by kernel_rfl) ?_
      refine N_new (some 10) (fun b => .pointer (some (Addr.mk b 0 none))) (.cells #[.bool false, .slice none 0 0] 70) (fun w => by kernel_rfl) ?_
      intro b_2 H7 e10 e11
      replace h := h b_2 H7 e10 e11
      refine ⟨[(0, .pointer hv), (1, .int .u64 wv), (4, .pointer (some (Addr.mk b 0 none))), (8, .slice raB raN raC), (10, .pointer (some (Addr.mk b_2 0 none))), (34, .agg #[.bool (x == 1), .slice none 0 0])], ps (by kernel_rfl), ?_⟩
      obtain ⟨q13, h⟩ := h
      refine N_skipop none (storeN 70 (.pointer (some (Addr.mk b_2 0 none))) (.agg #[.bool (x == 1), .slice none 0 0])) (fun Hz => Hz = hputs H7 (Addr.mk b_2 0 none) [.bool (x == 1), .slice none 0 0] 0) (fun w => by kernel_rfl) (ss_store [.bool (x == 1), .slice none 0 0] 2 (by kernel_rfl) (by kernel_rfl) (fun w => by kernel_rfl) (by kernel_rfl) q13) ?_
      intro H8 e12
      replace h := h H8 e12
      refine ⟨[(0, .pointer hv), (1, .int .u64 wv), (4, .pointer (some (Addr.mk b 0 none))), (8, .slice raB raN raC), (10, .pointer (some (Addr.mk b_2 0 none)))], ps (by kernel_rfl), ?_⟩
      refine N_end (by kernel_rfl) ?_
      refine S_then ?_
      refine S_seq obj_Heap_Num.k23 obj_Heap_Num.k24 (by kernel_rfl) ?_
      refine S_seq obj_Heap_Num.k25 obj_Heap_Num.k26 (by kernel_rfl) ?_
      refine S_region 8 (Code.ops obj_Heap_Num.k25) (by kernel_rfl) ?_
      refine N_run 3 [(0, .pointer hv), (1, .int .u64 wv), (4, .pointer (some (Addr.mk b 0 none))), (10, .pointer (some (Addr.mk b_2 0 none))), (35, .slice raB raN raC), (36, .int .i64 (raN : Int)), (37, .int .i64 0)] (fun w => by kernel_rfl) ?_
      refine N_end (by kernel_rfl) ?_
      refine S_then ?_
      refine S_block 0 obj_Heap_Num.k27 (by kernel_rfl) ?_
      obtain ⟨I29, m29, i14, i15⟩ := h
      refine S_loop (x := obj_Heap_Num.k28) (σ := Int) (fun s_ => [(0, .pointer hv), (1, .int .u64 wv), (4, .pointer (some (Addr.mk b 0 none))), (10, .pointer (some (Addr.mk b_2 0 none))), (35, .slice raB raN raC), (36, .int .i64 (raN : Int)), (37, .int .i64 s_)]) (fun s_ H => I29 s_ H) (fun s_ H => m29 s_ H) (0 : Int) (by kernel_rfl) i14 (sb (by kernel_rfl)) ?_
      rintro s37 H9 i16
      have h := i15 s37 H9 i16
      refine S_sub [(0, .pointer hv), (1, .int .u64 wv), (4, .pointer (some (Addr.mk b 0 none))), (10, .pointer (some (Addr.mk b_2 0 none))), (35, .slice raB raN raC), (36, .int .i64 (raN : Int)), (37, .int .i64 s37)] (sb (by kernel_rfl)) ?_
      refine S_seq obj_Heap_Num.k29 obj_Heap_Num.k30 (by kernel_rfl) ?_
      refine S_region 9 (Code.ops obj_Heap_Num.k29) (by kernel_rfl) ?_
      refine N_run 1 [(0, .pointer hv), (1, .int .u64 wv), (4, .pointer (some (Addr.mk b 0 none))), (10, .pointer (some (Addr.mk b_2 0 none))), (35, .slice raB raN raC), (36, .int .i64 (raN : Int)), (37, .int .i64 s37), (38, .bool (decide (s37 < (raN : Int))))] (fun w => by kernel_rfl) ?_
      refine N_end (by kernel_rfl) ?_
      refine S_then ?_
      refine S_seq obj_Heap_Num.k31 obj_Heap_Num.k32 (by kernel_rfl) ?_
      by_cases c17 : s37 < (raN : Int)
      · rw [if_pos c17] at h
        have b18 : (decide (s37 < (raN : Int))) = true := decide_eq_true c17
        refine S_env [(0, .pointer hv), (1, .int .u64 wv), (4, .pointer (some (Addr.mk b 0 none))), (10, .pointer (some (Addr.mk b_2 0 none))), (35, .slice raB raN raC), (36, .int .i64 (raN : Int)), (37, .int .i64 s37), (38, .bool true)] (by simp only [b18, Bool.not_true, Bool.not_false]) ?_
        clear b18
        refine S_condT (.tmp 38) obj_Heap_Num.k33 obj_Heap_Num.k34 (by kernel_rfl) (by kernel_rfl) ?_
        refine S_skip (by kernel_rfl) ?_
        refine S_then ?_
        refine S_seq obj_Heap_Num.k35 obj_Heap_Num.k36 (by kernel_rfl) ?_
        refine S_block 1 obj_Heap_Num.k37 (by kernel_rfl) ?_
        refine S_seq obj_Heap_Num.k38 obj_Heap_Num.k39 (by kernel_rfl) ?_
        refine S_region 10 (Code.ops obj_Heap_Num.k38) (by kernel_rfl) ?_
        refine N_sub [(0, .pointer hv), (1, .int .u64 wv), (4, .pointer (some (Addr.mk b 0 none))), (10, .pointer (some (Addr.mk b_2 0 none))), (35, .slice raB raN raC), (36, .int .i64 (raN : Int)), (37, .int .i64 s37)] (sb (by kernel_rfl)) ?_
        obtain ⟨raBA, rfl, h⟩ := h
        obtain ⟨q19, h⟩ := h
        refine N_val (some 39) (indexAtN 39 (.slice (some raBA) raN raC) (.int .i64 s37)) (.pointer (some (raBA.add (Int.toNat s37 * 1)))) (fun w => by kernel_rfl) (fun w _ => indexAt_run (P := Try.prog) (t := 39) (elem := 29) (sz := 1) (a := raBA) (len := raN) (cap := raC) (k := .i64) (i := s37) Try.underlying39 (fun w => by kernel_rfl) q19.1 q19.2 w) [(0, .pointer hv), (1, .int .u64 wv), (4, .pointer (some (Addr.mk b 0 none))), (10, .pointer (some (Addr.mk b_2 0 none))), (35, .slice (some raBA) raN raC), (36, .int .i64 (raN : Int)), (37, .int .i64 s37), (39, .pointer (some (raBA.add (Int.toNat s37 * 1))))] (ps (by kernel_rfl)) ?_
        obtain ⟨x_2, q20, h⟩ := h
        refine N_val (some 40) (loadN 29 (.pointer (some (raBA.add (Int.toNat s37 * 1))))) (.int .u64 x_2) (fun w => by kernel_rfl) (loadN_run (loadOK_one (fun w => by kernel_rfl) q20)) [(0, .pointer hv), (1, .int .u64 wv), (4, .pointer (some (Addr.mk b 0 none))), (10, .pointer (some (Addr.mk b_2 0 none))), (35, .slice (some raBA) raN raC), (36, .int .i64 (raN : Int)), (37, .int .i64 s37), (40, .int .u64 x_2)] (ps (by kernel_rfl)) ?_
        refine N_run 1 [(0, .pointer hv), (1, .int .u64 wv), (4, .pointer (some (Addr.mk b 0 none))), (10, .pointer (some (Addr.mk b_2 0 none))), (12, .int .u64 x_2), (35, .slice (some raBA) raN raC), (36, .int .i64 (raN : Int)), (37, .int .i64 s37)] (fun w => by kernel_rfl) ?_
        refine N_end (by kernel_rfl) ?_
        refine S_then ?_
        refine S_region 11 (Code.ops obj_Heap_Num.k39) (by kernel_rfl) ?_
        refine N_run 1 [(0, .pointer hv), (1, .int .u64 wv), (4, .pointer (some (Addr.mk b 0 none))), (10, .pointer (some (Addr.mk b_2 0 none))), (12, .int .u64 x_2), (35, .slice (some raBA) raN raC), (36, .int .i64 (raN : Int)), (37, .int .i64 s37), (41, .pointer (some ((Addr.mk b_2 0 none).add 1)))] (fun w => by kernel_rfl) ?_
        obtain ⟨xB, xN, xC, q21, h⟩ := h
        refine N_val (some 42) (loadN 40 (.pointer (some ((Addr.mk b_2 0 none).add 1)))) (.slice xB xN xC) (fun w => by kernel_rfl) (loadN_run (loadOK_one (fun w => by kernel_rfl) q21)) [(0, .pointer hv), (1, .int .u64 wv), (4, .pointer (some (Addr.mk b 0 none))), (10, .pointer (some (Addr.mk b_2 0 none))), (12, .int .u64 x_2), (35, .slice (some raBA) raN raC), (36, .int .i64 (raN : Int)), (37, .int .i64 s37), (42, .slice xB xN xC)] (ps (by kernel_rfl)) ?_
        refine N_run 2 [(0, .pointer hv), (1, .int .u64 wv), (4, .pointer (some (Addr.mk b 0 none))), (10, .pointer (some (Addr.mk b_2 0 none))), (35, .slice (some raBA) raN raC), (36, .int .i64 (raN : Int)), (37, .int .i64 s37), (42, .slice xB xN xC), (44, .int .u32 (IntKind.wrap .u32 x_2))] (fun w => by kernel_rfl) ?_
        refine N_new (some 45) (fun b => .slice (some (Addr.mk b 0 none)) 1 1) (.cells #[.int .u32 (IntKind.wrap .u32 x_2)] 41) (fun w => by kernel_rfl) ?_
        intro b_3 H10 e22 e23
        replace h := h b_3 H10 e22 e23
        refine ⟨[(0, .pointer hv), (1, .int .u64 wv), (4, .pointer (some (Addr.mk b 0 none))), (10, .pointer (some (Addr.mk b_2 0 none))), (35, .slice (some raBA) raN raC), (36, .int .i64 (raN : Int)), (37, .int .i64 s37), (42, .slice xB xN xC), (45, .slice (some (Addr.mk b_3 0 none)) 1 1)], ps (by kernel_rfl), ?_⟩
        refine N_op (some 46) (appendN #[40, 40] 40 #[.slice xB xN xC, .slice (some (Addr.mk b_3 0 none)) 1 1]) _ (fun w => by kernel_rfl) (ss_append (T := 41) (sz := 1) (bytes := 4) (zero := .int .u32 0) Try.underlying40 Try.underlying40 rfl (show Try.prog.info? 41 = some Try.t41 from by kernel_rfl) (by kernel_rfl) (by kernel_rfl) (by decide) (by kernel_rfl) h) ?_
        rintro _ H11 ⟨ap, apC, rfl, h⟩
        refine ⟨[(0, .pointer hv), (1, .int .u64 wv), (4, .pointer (some (Addr.mk b 0 none))), (10, .pointer (some (Addr.mk b_2 0 none))), (35, .slice (some raBA) raN raC), (36, .int .i64 (raN : Int)), (37, .int .i64 s37), (46, .slice ap (xN + 1) apC)], ps (by kernel_rfl), ?_⟩
        refine N_run 1 [(0, .pointer hv), (1, .int .u64 wv), (4, .pointer (some (Addr.mk b 0 none))), (10, .pointer (some (Addr.mk b_2 0 none))), (35, .slice (some raBA) raN raC), (36, .int .i64 (raN : Int)), (37, .int .i64 s37), (46, .slice ap (xN + 1) apC), (47, .pointer (some ((Addr.mk b_2 0 none).add 1)))] (fun w => by kernel_rfl) ?_
        obtain ⟨q25, h⟩ := h
        refine N_skipop none (storeN 40 (.pointer (some ((Addr.mk b_2 0 none).add 1))) (.slice ap (xN + 1) apC)) (fun Hz => Hz = hputs H11 ((Addr.mk b_2 0 none).add 1) [.slice ap (xN + 1) apC] 0) (fun w => by kernel_rfl) (ss_store [.slice ap (xN + 1) apC] 1 (by kernel_rfl) (by kernel_rfl) (fun w => by kernel_rfl) (by kernel_rfl) q25) ?_
        intro H12 e24
        replace h := h H12 e24
        refine ⟨[(0, .pointer hv), (1, .int .u64 wv), (4, .pointer (some (Addr.mk b 0 none))), (10, .pointer (some (Addr.mk b_2 0 none))), (35, .slice (some raBA) raN raC), (36, .int .i64 (raN : Int)), (37, .int .i64 s37)], ps (by kernel_rfl), ?_⟩
        refine N_end (by kernel_rfl) ?_
        refine S_blockEnd ?_
        refine S_then ?_
        refine S_region 12 (Code.ops obj_Heap_Num.k36) (by kernel_rfl) ?_
        refine N_run 2 [(0, .pointer hv), (1, .int .u64 wv), (4, .pointer (some (Addr.mk b 0 none))), (10, .pointer (some (Addr.mk b_2 0 none))), (35, .slice (some raBA) raN raC), (36, .int .i64 (raN : Int)), (37, .int .i64 (IntKind.wrap .i64 (s37 + 1)))] (fun w => by kernel_rfl) ?_
        refine N_end (by kernel_rfl) ?_
        refine S_then ?_
        exact S_round ((IntKind.wrap .i64 (s37 + 1)) : Int) (sb (by kernel_rfl)) h
      · rw [if_neg c17] at h
        have b18 : (decide (s37 < (raN : Int))) = false := decide_eq_false c17
        refine S_env [(0, .pointer hv), (1, .int .u64 wv), (4, .pointer (some (Addr.mk b 0 none))), (10, .pointer (some (Addr.mk b_2 0 none))), (35, .slice raB raN raC), (36, .int .i64 (raN : Int)), (37, .int .i64 s37), (38, .bool false)] (by simp only [b18, Bool.not_true, Bool.not_false]) ?_
        clear b18
        refine S_condF (.tmp 38) obj_Heap_Num.k33 obj_Heap_Num.k34 (by kernel_rfl) (by kernel_rfl) ?_
        refine S_exit 0 (by kernel_rfl) ?_
        refine S_exitThen ?_
        refine S_exitThen ?_
        refine S_exitHere ?_
        refine S_then ?_
        refine S_seq obj_Heap_Num.k40 obj_Heap_Num.k41 (by kernel_rfl) ?_
        refine S_seq obj_Heap_Num.k42 obj_Heap_Num.k43 (by kernel_rfl) ?_
        refine S_region 13 (Code.ops obj_Heap_Num.k42) (by kernel_rfl) ?_
        refine N_sub [(0, .pointer hv), (1, .int .u64 wv), (4, .pointer (some (Addr.mk b 0 none))), (10, .pointer (some (Addr.mk b_2 0 none)))] (sb (by kernel_rfl)) ?_
        obtain ⟨xNeg_2, xMagB_2, xMagN_2, xMagC_2, q26, h⟩ := h
        refine N_val (some 49) (loadN 70 (.pointer (some (Addr.mk b_2 0 none)))) (.agg #[.bool xNeg_2, .slice xMagB_2 xMagN_2 xMagC_2]) (fun w => by kernel_rfl) (loadN_run (loadOK_row (fun w => by kernel_rfl) (fun w => by kernel_rfl) q26)) [(0, .pointer hv), (1, .int .u64 wv), (4, .pointer (some (Addr.mk b 0 none))), (10, .pointer (some (Addr.mk b_2 0 none))), (49, .agg #[.bool xNeg_2, .slice xMagB_2 xMagN_2 xMagC_2])] (ps (by kernel_rfl)) ?_
        refine N_call (some 50) 72 #[.agg #[.bool xNeg_2, .slice xMagB_2 xMagN_2 xMagC_2]] (fun w => by kernel_rfl) h ?_; clear h
        rintro v_5 H13 ⟨x_3, rfl, h⟩
        refine ⟨[(0, .pointer hv), (1, .int .u64 wv), (4, .pointer (some (Addr.mk b 0 none))), (10, .pointer (some (Addr.mk b_2 0 none))), (50, .bool x_3)], ps (by kernel_rfl), ?_⟩
        refine N_run 2 [(0, .pointer hv), (1, .int .u64 wv), (4, .pointer (some (Addr.mk b 0 none))), (10, .pointer (some (Addr.mk b_2 0 none))), (52, .bool (!x_3))] (fun w => by kernel_rfl) ?_
        by_cases c27 : x_3 = true
        · rw [if_pos c27] at h
          have b28 : (!x_3) = false := congrArg Bool.not (c27)
          have b282 : x_3 = true := c27
          refine N_env [(0, .pointer hv), (1, .int .u64 wv), (4, .pointer (some (Addr.mk b 0 none))), (10, .pointer (some (Addr.mk b_2 0 none))), (52, .bool false)] (by simp only [b28, b282, Bool.not_true, Bool.not_false]) ?_
          clear b28 b282
          refine N_run 2 [(4, .pointer (some (Addr.mk b 0 none))), (10, .pointer (some (Addr.mk b_2 0 none))), (52, .bool false), (53, .pointer hv), (54, .int .u64 wv)] (fun w => by kernel_rfl) ?_
          refine N_call (some 55) 71 #[.pointer hv, .int .u64 wv] (fun w => by kernel_rfl) h ?_; clear h
          rintro v_6 H14 ⟨x_4, rfl, h⟩
          refine ⟨[(4, .pointer (some (Addr.mk b 0 none))), (10, .pointer (some (Addr.mk b_2 0 none))), (52, .bool false), (55, .int .u64 x_4)], ps (by kernel_rfl), ?_⟩
          refine N_run 2 [(4, .pointer (some (Addr.mk b 0 none))), (10, .pointer (some (Addr.mk b_2 0 none))), (57, .bool (decide (x_4 > 1)))] (fun w => by kernel_rfl) ?_
          refine N_end (by kernel_rfl) ?_
          refine S_then ?_
          by_cases c29 : x_4 > 1
          · rw [if_pos c29] at h
            have b30 : (decide (x_4 > 1)) = true := decide_eq_true c29
            refine S_env [(4, .pointer (some (Addr.mk b 0 none))), (10, .pointer (some (Addr.mk b_2 0 none))), (57, .bool true)] (by simp only [b30, Bool.not_true, Bool.not_false]) ?_
            clear b30
            refine S_condT (.tmp 57) obj_Heap_Num.k44 obj_Heap_Num.k45 (by kernel_rfl) (by kernel_rfl) ?_
            refine S_seq obj_Heap_Num.k46 obj_Heap_Num.k47 (by kernel_rfl) ?_
            refine S_region 14 (Code.ops obj_Heap_Num.k46) (by kernel_rfl) ?_
            refine N_run 1 [(4, .pointer (some (Addr.mk b 0 none))), (58, .agg #[.bool false, .slice none 0 0])] (fun w => by kernel_rfl) ?_
            obtain ⟨q32, h⟩ := h
            refine N_skipop none (storeN 70 (.pointer (some (Addr.mk b 0 none))) (.agg #[.bool false, .slice none 0 0])) (fun Hz => Hz = hputs H14 (Addr.mk b 0 none) [.bool false, .slice none 0 0] 0) (fun w => by kernel_rfl) (ss_store [.bool false, .slice none 0 0] 2 (by kernel_rfl) (by kernel_rfl) (fun w => by kernel_rfl) (by kernel_rfl) q32) ?_
            intro H15 e31
            replace h := h H15 e31
            refine ⟨[(4, .pointer (some (Addr.mk b 0 none)))], ps (by kernel_rfl), ?_⟩
            refine N_run 1 [(4, .pointer (some (Addr.mk b 0 none))), (5, .int .i64 3)] (fun w => by kernel_rfl) ?_
            refine N_end (by kernel_rfl) ?_
            refine S_then ?_
            refine S_ret (by kernel_rfl) ?_
            show At _ _ _ _ (Q .ret)
            obtain ⟨rNeg_2, rMagB_2, rMagN_2, rMagC_2, q33, h⟩ := h
            exact S_done (fn := Try.f43) [.agg #[.bool rNeg_2, .slice rMagB_2 rMagN_2 rMagC_2], .int .i64 3] hQ (show ResOK _ _ _ [.cell 4 70, .tmp 5] _ from .cell (by kernel_rfl) (loadOK_row (fun w => by kernel_rfl) (fun w => by kernel_rfl) q33) (.tmp (by kernel_rfl) (.nil))) h
          · rw [if_neg c29] at h
            have b30 : (decide (x_4 > 1)) = false := decide_eq_false c29
            refine S_env [(4, .pointer (some (Addr.mk b 0 none))), (10, .pointer (some (Addr.mk b_2 0 none))), (57, .bool false)] (by simp only [b30, Bool.not_true, Bool.not_false]) ?_
            clear b30
            refine S_condF (.tmp 57) obj_Heap_Num.k44 obj_Heap_Num.k45 (by kernel_rfl) (by kernel_rfl) ?_
            refine S_skip (by kernel_rfl) ?_
            refine S_then ?_
            refine S_seq obj_Heap_Num.k48 obj_Heap_Num.k49 (by kernel_rfl) ?_
            refine S_region 15 (Code.ops obj_Heap_Num.k48) (by kernel_rfl) ?_
            refine N_sub [(4, .pointer (some (Addr.mk b 0 none))), (10, .pointer (some (Addr.mk b_2 0 none)))] (sb (by kernel_rfl)) ?_
            obtain ⟨xNeg_3, xMagB_3, xMagN_3, xMagC_3, q34, h⟩ := h
            refine N_val (some 59) (loadN 70 (.pointer (some (Addr.mk b_2 0 none)))) (.agg #[.bool xNeg_3, .slice xMagB_3 xMagN_3 xMagC_3]) (fun w => by kernel_rfl) (loadN_run (loadOK_row (fun w => by kernel_rfl) (fun w => by kernel_rfl) q34)) [(4, .pointer (some (Addr.mk b 0 none))), (59, .agg #[.bool xNeg_3, .slice xMagB_3 xMagN_3 xMagC_3])] (ps (by kernel_rfl)) ?_
            obtain ⟨q36, h⟩ := h
            refine N_skipop none (storeN 70 (.pointer (some (Addr.mk b 0 none))) (.agg #[.bool xNeg_3, .slice xMagB_3 xMagN_3 xMagC_3])) (fun Hz => Hz = hputs H14 (Addr.mk b 0 none) [.bool xNeg_3, .slice xMagB_3 xMagN_3 xMagC_3] 0) (fun w => by kernel_rfl) (ss_store [.bool xNeg_3, .slice xMagB_3 xMagN_3 xMagC_3] 2 (by kernel_rfl) (by kernel_rfl) (fun w => by kernel_rfl) (by kernel_rfl) q36) ?_
            intro H16 e35
            replace h := h H16 e35
            refine ⟨[(4, .pointer (some (Addr.mk b 0 none)))], ps (by kernel_rfl), ?_⟩
            refine N_run 1 [(4, .pointer (some (Addr.mk b 0 none))), (5, .int .i64 0)] (fun w => by kernel_rfl) ?_
            refine N_end (by kernel_rfl) ?_
            refine S_then ?_
            refine S_ret (by kernel_rfl) ?_
            show At _ _ _ _ (Q .ret)
            obtain ⟨rNeg_3, rMagB_3, rMagN_3, rMagC_3, q37, h⟩ := h
            exact S_done (fn := Try.f43) [.agg #[.bool rNeg_3, .slice rMagB_3 rMagN_3 rMagC_3], .int .i64 0] hQ (show ResOK _ _ _ [.cell 4 70, .tmp 5] _ from .cell (by kernel_rfl) (loadOK_row (fun w => by kernel_rfl) (fun w => by kernel_rfl) q37) (.tmp (by kernel_rfl) (.nil))) h
        · rw [if_neg c27] at h
          have b28 : (!x_3) = true := congrArg Bool.not (eq_false_of_ne_true c27)
          have b282 : x_3 = false := eq_false_of_ne_true c27
          refine N_env [(0, .pointer hv), (1, .int .u64 wv), (4, .pointer (some (Addr.mk b 0 none))), (10, .pointer (some (Addr.mk b_2 0 none))), (52, .bool true)] (by simp only [b28, b282, Bool.not_true, Bool.not_false]) ?_
          clear b28 b282
          refine N_run 5 [(4, .pointer (some (Addr.mk b 0 none))), (10, .pointer (some (Addr.mk b_2 0 none))), (57, .bool true)] (fun w => by kernel_rfl) ?_
          refine N_end (by kernel_rfl) ?_
          refine S_then ?_
          refine S_condT (.tmp 57) obj_Heap_Num.k44 obj_Heap_Num.k45 (by kernel_rfl) (by kernel_rfl) ?_
          refine S_seq obj_Heap_Num.k46 obj_Heap_Num.k47 (by kernel_rfl) ?_
          refine S_region 14 (Code.ops obj_Heap_Num.k46) (by kernel_rfl) ?_
          refine N_run 1 [(4, .pointer (some (Addr.mk b 0 none))), (58, .agg #[.bool false, .slice none 0 0])] (fun w => by kernel_rfl) ?_
          obtain ⟨q39, h⟩ := h
          refine N_skipop none (storeN 70 (.pointer (some (Addr.mk b 0 none))) (.agg #[.bool false, .slice none 0 0])) (fun Hz => Hz = hputs H13 (Addr.mk b 0 none) [.bool false, .slice none 0 0] 0) (fun w => by kernel_rfl) (ss_store [.bool false, .slice none 0 0] 2 (by kernel_rfl) (by kernel_rfl) (fun w => by kernel_rfl) (by kernel_rfl) q39) ?_
          intro H17 e38
          replace h := h H17 e38
          refine ⟨[(4, .pointer (some (Addr.mk b 0 none)))], ps (by kernel_rfl), ?_⟩
          refine N_run 1 [(4, .pointer (some (Addr.mk b 0 none))), (5, .int .i64 3)] (fun w => by kernel_rfl) ?_
          refine N_end (by kernel_rfl) ?_
          refine S_then ?_
          refine S_ret (by kernel_rfl) ?_
          show At _ _ _ _ (Q .ret)
          obtain ⟨rNeg_4, rMagB_4, rMagN_4, rMagC_4, q40, h⟩ := h
          exact S_done (fn := Try.f43) [.agg #[.bool rNeg_4, .slice rMagB_4 rMagN_4 rMagC_4], .int .i64 3] hQ (show ResOK _ _ _ [.cell 4 70, .tmp 5] _ from .cell (by kernel_rfl) (loadOK_row (fun w => by kernel_rfl) (fun w => by kernel_rfl) q40) (.tmp (by kernel_rfl) (.nil))) h
    · rw [if_neg c8] at h
      have b9 : (!rb_2) = true := congrArg Bool.not (eq_false_of_ne_true c8)
      have b92 : rb_2 = false := eq_false_of_ne_true c8
      refine S_env [(0, .pointer hv), (1, .int .u64 wv), (4, .pointer (some (Addr.mk b 0 none))), (8, .slice raB raN raC), (28, .bool true)] (by simp only [b9, b92, Bool.not_true, Bool.not_false]) ?_
      clear b9 b92
      refine S_condT (.tmp 28) obj_Heap_Num.k19 obj_Heap_Num.k20 (by kernel_rfl) (by kernel_rfl) ?_
      refine S_seq obj_Heap_Num.k50 obj_Heap_Num.k51 (by kernel_rfl) ?_
      refine S_region 6 (Code.ops obj_Heap_Num.k50) (by kernel_rfl) ?_
      refine N_run 1 [(4, .pointer (some (Addr.mk b 0 none))), (29, .agg #[.bool false, .slice none 0 0])] (fun w => by kernel_rfl) ?_
      obtain ⟨q42, h⟩ := h
      refine N_skipop none (storeN 70 (.pointer (some (Addr.mk b 0 none))) (.agg #[.bool false, .slice none 0 0])) (fun Hz => Hz = hputs H5 (Addr.mk b 0 none) [.bool false, .slice none 0 0] 0) (fun w => by kernel_rfl) (ss_store [.bool false, .slice none 0 0] 2 (by kernel_rfl) (by kernel_rfl) (fun w => by kernel_rfl) (by kernel_rfl) q42) ?_
      intro H18 e41
      replace h := h H18 e41
      refine ⟨[(4, .pointer (some (Addr.mk b 0 none)))], ps (by kernel_rfl), ?_⟩
      refine N_run 1 [(4, .pointer (some (Addr.mk b 0 none))), (5, .int .i64 3)] (fun w => by kernel_rfl) ?_
      refine N_end (by kernel_rfl) ?_
      refine S_then ?_
      refine S_ret (by kernel_rfl) ?_
      show At _ _ _ _ (Q .ret)
      obtain ⟨rNeg_5, rMagB_5, rMagN_5, rMagC_5, q43, h⟩ := h
      exact S_done (fn := Try.f43) [.agg #[.bool rNeg_5, .slice rMagB_5 rMagN_5 rMagC_5], .int .i64 3] hQ (show ResOK _ _ _ [.cell 4 70, .tmp 5] _ from .cell (by kernel_rfl) (loadOK_row (fun w => by kernel_rfl) (fun w => by kernel_rfl) q43) (.tmp (by kernel_rfl) (.nil))) h

end Go.Proofs.Ytfohlkiikppefaa
