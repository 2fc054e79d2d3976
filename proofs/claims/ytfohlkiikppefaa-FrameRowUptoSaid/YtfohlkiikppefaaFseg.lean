/-
  Written by a program of mine (gen.py): for functions of this translation a predicate transformer over heaps (.pt), and the proof that it is sound for the call (.link).
-/
import Derived.Test.YtfohlkiikppefaaFnsC
set_option linter.unusedSimpArgs false
set_option linter.unusedVariables false
set_option maxHeartbeats 1000000
namespace Go.Proofs.Ytfohlkiikppefaa
open Go
/-! (*moraine/seg.Mem).Read -/
noncomputable def seg_Mem_Read.k0 : Code := Func.code Try.f67
noncomputable def seg_Mem_Read.k1 : Code := Code.fa seg_Mem_Read.k0
noncomputable def seg_Mem_Read.k2 : Code := Code.fb seg_Mem_Read.k0
noncomputable def seg_Mem_Read.k3 : Code := Code.fa seg_Mem_Read.k2
noncomputable def seg_Mem_Read.k4 : Code := Code.fb seg_Mem_Read.k2
noncomputable def seg_Mem_Read.k5 : Code := Code.fa seg_Mem_Read.k3
noncomputable def seg_Mem_Read.k6 : Code := Code.fb seg_Mem_Read.k3
noncomputable def seg_Mem_Read.k7 : Code := Code.fa seg_Mem_Read.k6
noncomputable def seg_Mem_Read.k8 : Code := Code.fb seg_Mem_Read.k6
noncomputable def seg_Mem_Read.k9 : Code := Code.fa seg_Mem_Read.k8
noncomputable def seg_Mem_Read.k10 : Code := Code.fb seg_Mem_Read.k8
noncomputable def seg_Mem_Read.k11 : Code := Code.fa seg_Mem_Read.k4
noncomputable def seg_Mem_Read.k12 : Code := Code.fb seg_Mem_Read.k4
noncomputable def seg_Mem_Read.k13 : Code := Code.fa seg_Mem_Read.k9
noncomputable def seg_Mem_Read.k14 : Code := Code.fb seg_Mem_Read.k9
def seg_Mem_Read.pt (m : Option Addr) (addr : Int) (H : Array Obj) (R : Value → Array Obj → Prop) : Prop :=
 seg_Mem_word.C m addr H (fun v H1 => ∃ x : Option Addr, v = .pointer x ∧ 
  onPtr x (
   R (.tuple #[.int .u64 0, .int .i64 18]) H1) (fun xA =>
   ∃ x_2 : Int, hat H1 xA = some (.int .u64 x_2) ∧
   R (.tuple #[.int .u64 x_2, .int .i64 0]) H1))
set_option maxRecDepth 100000 in
theorem seg_Mem_Read.link {m : Option Addr} {addr : Int} {H : Array Obj} {R : Value → Array Obj → Prop} (h : seg_Mem_Read.pt m addr H R) : seg_Mem_Read.C m addr H R := by
  refine S_enter (fn := Try.f67) (c := seg_Mem_Read.k0) 15 Try.func67 (by kernel_rfl) (by kernel_rfl) (Nat.le_of_ble_eq_true (by kernel_rfl)) ?_
  intro w0 Q hQ
  unfold seg_Mem_Read.pt at h
  refine S_sub [(0, .pointer m), (1, .int .i64 addr)] (sb (by kernel_rfl)) ?_
  refine S_seq seg_Mem_Read.k1 seg_Mem_Read.k2 (by kernel_rfl) ?_
  refine S_region 0 (Code.ops seg_Mem_Read.k1) (by kernel_rfl) ?_
  refine N_run 2 [(0, .pointer m), (1, .int .i64 addr)] (fun w => by kernel_rfl) ?_
  refine N_end (by kernel_rfl) ?_
  refine S_then ?_
  refine S_seq seg_Mem_Read.k3 seg_Mem_Read.k4 (by kernel_rfl) ?_
  refine S_seq seg_Mem_Read.k5 seg_Mem_Read.k6 (by kernel_rfl) ?_
  refine S_region 1 (Code.ops seg_Mem_Read.k5) (by kernel_rfl) ?_
  refine N_run 2 [(7, .pointer m), (8, .int .i64 addr)] (fun w => by kernel_rfl) ?_
  refine N_call (some 9) 95 #[.pointer m, .int .i64 addr] (fun w => by kernel_rfl) h ?_; clear h
  rintro v H1 ⟨x, rfl, h⟩
  refine ⟨[(9, .pointer x)], ps (by kernel_rfl), ?_⟩
  refine N_run 1 [(6, .pointer x)] (fun w => by kernel_rfl) ?_
  refine N_end (by kernel_rfl) ?_
  refine S_then ?_
  refine S_seq seg_Mem_Read.k7 seg_Mem_Read.k8 (by kernel_rfl) ?_
  refine S_region 2 (Code.ops seg_Mem_Read.k7) (by kernel_rfl) ?_
  refine N_run 1 [(6, .pointer x), (10, .pointer x)] (fun w => by kernel_rfl) ?_
  rcases x with _ | xA
  · rw [onPtr_none] at h
    refine N_run 1 [(6, .pointer none), (11, .bool false)] (fun w => by kernel_rfl) ?_
    refine N_end (by kernel_rfl) ?_
    refine S_then ?_
    refine S_condF (.tmp 11) seg_Mem_Read.k9 seg_Mem_Read.k10 (by kernel_rfl) (by kernel_rfl) ?_
    refine S_skip (by kernel_rfl) ?_
    refine S_then ?_
    refine S_seq seg_Mem_Read.k11 seg_Mem_Read.k12 (by kernel_rfl) ?_
    refine S_region 4 (Code.ops seg_Mem_Read.k11) (by kernel_rfl) ?_
    refine N_run 2 [(4, .int .u64 0), (5, .int .i64 18)] (fun w => by kernel_rfl) ?_
    refine N_end (by kernel_rfl) ?_
    refine S_then ?_
    refine S_ret (by kernel_rfl) ?_
    show At _ _ _ _ (Q .ret)
    exact S_done (fn := Try.f67) [.int .u64 0, .int .i64 18] hQ (show ResOK _ _ _ [.tmp 4, .tmp 5] _ from .tmp (by kernel_rfl) (.tmp (by kernel_rfl) (.nil))) h
  · rw [onPtr_some] at h
    refine N_run 1 [(6, .pointer (some xA)), (11, .bool true)] (fun w => by kernel_rfl) ?_
    refine N_end (by kernel_rfl) ?_
    refine S_then ?_
    refine S_condT (.tmp 11) seg_Mem_Read.k9 seg_Mem_Read.k10 (by kernel_rfl) (by kernel_rfl) ?_
    refine S_seq seg_Mem_Read.k13 seg_Mem_Read.k14 (by kernel_rfl) ?_
    refine S_region 3 (Code.ops seg_Mem_Read.k13) (by kernel_rfl) ?_
    refine N_run 2 [(13, .pointer (some xA))] (fun w => by kernel_rfl) ?_
    obtain ⟨x_2, q1, h⟩ := h
    refine N_val (some 14) (loadN 29 (.pointer (some xA))) (.int .u64 x_2) (fun w => by kernel_rfl) (loadN_run (loadOK_one (fun w => by kernel_rfl) q1)) [(14, .int .u64 x_2)] (ps (by kernel_rfl)) ?_
    refine N_run 2 [(4, .int .u64 x_2), (5, .int .i64 0)] (fun w => by kernel_rfl) ?_
    refine N_end (by kernel_rfl) ?_
    refine S_then ?_
    refine S_ret (by kernel_rfl) ?_
    show At _ _ _ _ (Q .ret)
    exact S_done (fn := Try.f67) [.int .u64 x_2, .int .i64 0] hQ (show ResOK _ _ _ [.tmp 4, .tmp 5] _ from .tmp (by kernel_rfl) (.tmp (by kernel_rfl) (.nil))) h

/-! (*moraine/seg.Mem).Seg -/
noncomputable def seg_Mem_Seg.k0 : Code := Func.code Try.f84
noncomputable def seg_Mem_Seg.k1 : Code := Code.fa seg_Mem_Seg.k0
noncomputable def seg_Mem_Seg.k2 : Code := Code.fb seg_Mem_Seg.k0
noncomputable def seg_Mem_Seg.k3 : Code := Code.fa seg_Mem_Seg.k2
noncomputable def seg_Mem_Seg.k4 : Code := Code.fb seg_Mem_Seg.k2
noncomputable def seg_Mem_Seg.k5 : Code := Code.fa seg_Mem_Seg.k4
noncomputable def seg_Mem_Seg.k6 : Code := Code.fb seg_Mem_Seg.k4
noncomputable def seg_Mem_Seg.k7 : Code := Code.fa seg_Mem_Seg.k5
noncomputable def seg_Mem_Seg.k8 : Code := Code.fb seg_Mem_Seg.k5
noncomputable def seg_Mem_Seg.k9 : Code := Code.fa seg_Mem_Seg.k8
noncomputable def seg_Mem_Seg.k10 : Code := Code.fb seg_Mem_Seg.k8
noncomputable def seg_Mem_Seg.k11 : Code := Code.fa seg_Mem_Seg.k9
noncomputable def seg_Mem_Seg.k12 : Code := Code.fb seg_Mem_Seg.k9
noncomputable def seg_Mem_Seg.k13 : Code := Code.fa seg_Mem_Seg.k6
noncomputable def seg_Mem_Seg.k14 : Code := Code.fb seg_Mem_Seg.k6
def seg_Mem_Seg.pt (m : Option Addr) (seg : Int) (H : Array Obj) (R : Value → Array Obj → Prop) : Prop :=
 ∀ (b : Nat) (H1 : Array Obj), b = H.size → H1 = H.push (.cells #[.int .i64 0, .int .i64 0, .int .i64 0, .int .i64 0, .int .i64 0, .int .i64 0, .int .i64 0] 144) →
 seg_Mem_at.C m seg H1 (fun v H2 => ∃ x : Option Addr, v = .pointer x ∧ 
  onPtr x (
   (CanPuts H2 (Addr.mk b 0 none) 0 7) ∧ ∀ H3 : Array Obj, H3 = hputs H2 (Addr.mk b 0 none) [.int .i64 0, .int .i64 0, .int .i64 0, .int .i64 0, .int .i64 0, .int .i64 0, .int .i64 0] 0 →
   ∃ rGen : Int, ∃ rKind : Int, ∃ rN : Int, ∃ rCardsi0 : Int, ∃ rCardsi1 : Int, ∃ rCardsi2 : Int, ∃ rCardsi3 : Int, RowAt H3 (Addr.mk b 0 none) 0 [.int .i64 rGen, .int .i64 rKind, .int .i64 rN, .int .i64 rCardsi0, .int .i64 rCardsi1, .int .i64 rCardsi2, .int .i64 rCardsi3] ∧
   R (.tuple #[.agg #[.int .i64 rGen, .int .i64 rKind, .int .i64 rN, .int .i64 rCardsi0, .int .i64 rCardsi1, .int .i64 rCardsi2, .int .i64 rCardsi3], .bool false]) H3) (fun xA =>
   ∃ xGen : Int, ∃ xKind : Int, ∃ xN : Int, ∃ xCardsi0 : Int, ∃ xCardsi1 : Int, ∃ xCardsi2 : Int, ∃ xCardsi3 : Int, RowAt H2 xA 0 [.int .i64 xGen, .int .i64 xKind, .int .i64 xN, .int .i64 xCardsi0, .int .i64 xCardsi1, .int .i64 xCardsi2, .int .i64 xCardsi3] ∧
   (CanPuts H2 (Addr.mk b 0 none) 0 7) ∧ ∀ H4 : Array Obj, H4 = hputs H2 (Addr.mk b 0 none) [.int .i64 xGen, .int .i64 xKind, .int .i64 xN, .int .i64 xCardsi0, .int .i64 xCardsi1, .int .i64 xCardsi2, .int .i64 xCardsi3] 0 →
   ∃ rGen_2 : Int, ∃ rKind_2 : Int, ∃ rN_2 : Int, ∃ rCardsi0x2 : Int, ∃ rCardsi1x2 : Int, ∃ rCardsi2x2 : Int, ∃ rCardsi3x2 : Int, RowAt H4 (Addr.mk b 0 none) 0 [.int .i64 rGen_2, .int .i64 rKind_2, .int .i64 rN_2, .int .i64 rCardsi0x2, .int .i64 rCardsi1x2, .int .i64 rCardsi2x2, .int .i64 rCardsi3x2] ∧
   R (.tuple #[.agg #[.int .i64 rGen_2, .int .i64 rKind_2, .int .i64 rN_2, .int .i64 rCardsi0x2, .int .i64 rCardsi1x2, .int .i64 rCardsi2x2, .int .i64 rCardsi3x2], .bool true]) H4))
set_option maxRecDepth 100000 in
theorem seg_Mem_Seg.link {m : Option Addr} {seg : Int} {H : Array Obj} {R : Value → Array Obj → Prop} (h : seg_Mem_Seg.pt m seg H R) : seg_Mem_Seg.C m seg H R := by
  refine S_enter (fn := Try.f84) (c := seg_Mem_Seg.k0) 17 Try.func84 (by kernel_rfl) (by kernel_rfl) (Nat.le_of_ble_eq_true (by kernel_rfl)) ?_
  intro w0 Q hQ
  unfold seg_Mem_Seg.pt at h
  refine S_sub [(0, .pointer m), (1, .int .i64 seg)] (sb (by kernel_rfl)) ?_
  refine S_seq seg_Mem_Seg.k1 seg_Mem_Seg.k2 (by kernel_rfl) ?_
  refine S_region 0 (Code.ops seg_Mem_Seg.k1) (by kernel_rfl) ?_
  refine N_new (some 4) (fun b => .pointer (some (Addr.mk b 0 none))) (.cells #[.int .i64 0, .int .i64 0, .int .i64 0, .int .i64 0, .int .i64 0, .int .i64 0, .int .i64 0] 144) (fun w => by kernel_rfl) ?_
  intro b H1 e1 e2
  replace h := h b H1 e1 e2
  refine ⟨[(0, .pointer m), (1, .int .i64 seg), (4, .pointer (some (Addr.mk b 0 none)))], ps (by kernel_rfl), ?_⟩
  refine N_run 1 [(0, .pointer m), (1, .int .i64 seg), (4, .pointer (some (Addr.mk b 0 none)))] (fun w => by kernel_rfl) ?_
  refine N_end (by kernel_rfl) ?_
  refine S_then ?_
  refine S_seq seg_Mem_Seg.k3 seg_Mem_Seg.k4 (by kernel_rfl) ?_
  refine S_region 1 (Code.ops seg_Mem_Seg.k3) (by kernel_rfl) ?_
  refine N_run 2 [(4, .pointer (some (Addr.mk b 0 none))), (7, .pointer m), (8, .int .i64 seg)] (fun w => by kernel_rfl) ?_
  refine N_call (some 9) 101 #[.pointer m, .int .i64 seg] (fun w => by kernel_rfl) h ?_; clear h
  rintro v H2 ⟨x, rfl, h⟩
  refine ⟨[(4, .pointer (some (Addr.mk b 0 none))), (9, .pointer x)], ps (by kernel_rfl), ?_⟩
  refine N_run 1 [(4, .pointer (some (Addr.mk b 0 none))), (6, .pointer x)] (fun w => by kernel_rfl) ?_
  refine N_end (by kernel_rfl) ?_
  refine S_then ?_
  refine S_seq seg_Mem_Seg.k5 seg_Mem_Seg.k6 (by kernel_rfl) ?_
  refine S_seq seg_Mem_Seg.k7 seg_Mem_Seg.k8 (by kernel_rfl) ?_
  refine S_region 2 (Code.ops seg_Mem_Seg.k7) (by kernel_rfl) ?_
  refine N_run 1 [(4, .pointer (some (Addr.mk b 0 none))), (6, .pointer x), (10, .pointer x)] (fun w => by kernel_rfl) ?_
  rcases x with _ | xA
  · rw [onPtr_none] at h
    refine N_run 1 [(4, .pointer (some (Addr.mk b 0 none))), (6, .pointer none), (11, .bool true)] (fun w => by kernel_rfl) ?_
    refine N_end (by kernel_rfl) ?_
    refine S_then ?_
    refine S_condT (.tmp 11) seg_Mem_Seg.k9 seg_Mem_Seg.k10 (by kernel_rfl) (by kernel_rfl) ?_
    refine S_seq seg_Mem_Seg.k11 seg_Mem_Seg.k12 (by kernel_rfl) ?_
    refine S_region 3 (Code.ops seg_Mem_Seg.k11) (by kernel_rfl) ?_
    refine N_run 1 [(4, .pointer (some (Addr.mk b 0 none))), (12, .agg #[.int .i64 0, .int .i64 0, .int .i64 0, .int .i64 0, .int .i64 0, .int .i64 0, .int .i64 0])] (fun w => by kernel_rfl) ?_
    obtain ⟨q4, h⟩ := h
    refine N_skipop none (storeN 144 (.pointer (some (Addr.mk b 0 none))) (.agg #[.int .i64 0, .int .i64 0, .int .i64 0, .int .i64 0, .int .i64 0, .int .i64 0, .int .i64 0])) (fun Hz => Hz = hputs H2 (Addr.mk b 0 none) [.int .i64 0, .int .i64 0, .int .i64 0, .int .i64 0, .int .i64 0, .int .i64 0, .int .i64 0] 0) (fun w => by kernel_rfl) (ss_store [.int .i64 0, .int .i64 0, .int .i64 0, .int .i64 0, .int .i64 0, .int .i64 0, .int .i64 0] 7 (by kernel_rfl) (by kernel_rfl) (fun w => by kernel_rfl) (by kernel_rfl) q4) ?_
    intro H3 e3
    replace h := h H3 e3
    refine ⟨[(4, .pointer (some (Addr.mk b 0 none)))], ps (by kernel_rfl), ?_⟩
    refine N_run 1 [(4, .pointer (some (Addr.mk b 0 none))), (5, .bool false)] (fun w => by kernel_rfl) ?_
    refine N_end (by kernel_rfl) ?_
    refine S_then ?_
    refine S_ret (by kernel_rfl) ?_
    show At _ _ _ _ (Q .ret)
    obtain ⟨rGen, rKind, rN, rCardsi0, rCardsi1, rCardsi2, rCardsi3, q5, h⟩ := h
    exact S_done (fn := Try.f84) [.agg #[.int .i64 rGen, .int .i64 rKind, .int .i64 rN, .int .i64 rCardsi0, .int .i64 rCardsi1, .int .i64 rCardsi2, .int .i64 rCardsi3], .bool false] hQ (show ResOK _ _ _ [.cell 4 144, .tmp 5] _ from .cell (by kernel_rfl) (loadOK_row (fun w => by kernel_rfl) (fun w => by kernel_rfl) q5) (.tmp (by kernel_rfl) (.nil))) h
  · rw [onPtr_some] at h
    refine N_run 1 [(4, .pointer (some (Addr.mk b 0 none))), (6, .pointer (some xA)), (11, .bool false)] (fun w => by kernel_rfl) ?_
    refine N_end (by kernel_rfl) ?_
    refine S_then ?_
    refine S_condF (.tmp 11) seg_Mem_Seg.k9 seg_Mem_Seg.k10 (by kernel_rfl) (by kernel_rfl) ?_
    refine S_skip (by kernel_rfl) ?_
    refine S_then ?_
    refine S_seq seg_Mem_Seg.k13 seg_Mem_Seg.k14 (by kernel_rfl) ?_
    refine S_region 4 (Code.ops seg_Mem_Seg.k13) (by kernel_rfl) ?_
    refine N_run 3 [(4, .pointer (some (Addr.mk b 0 none))), (15, .pointer (some xA))] (fun w => by kernel_rfl) ?_
    obtain ⟨xGen, xKind, xN, xCardsi0, xCardsi1, xCardsi2, xCardsi3, q6, h⟩ := h
    refine N_val (some 16) (loadN 144 (.pointer (some xA))) (.agg #[.int .i64 xGen, .int .i64 xKind, .int .i64 xN, .int .i64 xCardsi0, .int .i64 xCardsi1, .int .i64 xCardsi2, .int .i64 xCardsi3]) (fun w => by kernel_rfl) (loadN_run (loadOK_row (fun w => by kernel_rfl) (fun w => by kernel_rfl) q6)) [(4, .pointer (some (Addr.mk b 0 none))), (16, .agg #[.int .i64 xGen, .int .i64 xKind, .int .i64 xN, .int .i64 xCardsi0, .int .i64 xCardsi1, .int .i64 xCardsi2, .int .i64 xCardsi3])] (ps (by kernel_rfl)) ?_
    obtain ⟨q8, h⟩ := h
    refine N_skipop none (storeN 144 (.pointer (some (Addr.mk b 0 none))) (.agg #[.int .i64 xGen, .int .i64 xKind, .int .i64 xN, .int .i64 xCardsi0, .int .i64 xCardsi1, .int .i64 xCardsi2, .int .i64 xCardsi3])) (fun Hz => Hz = hputs H2 (Addr.mk b 0 none) [.int .i64 xGen, .int .i64 xKind, .int .i64 xN, .int .i64 xCardsi0, .int .i64 xCardsi1, .int .i64 xCardsi2, .int .i64 xCardsi3] 0) (fun w => by kernel_rfl) (ss_store [.int .i64 xGen, .int .i64 xKind, .int .i64 xN, .int .i64 xCardsi0, .int .i64 xCardsi1, .int .i64 xCardsi2, .int .i64 xCardsi3] 7 (by kernel_rfl) (by kernel_rfl) (fun w => by kernel_rfl) (by kernel_rfl) q8) ?_
    intro H4 e7
    replace h := h H4 e7
    refine ⟨[(4, .pointer (some (Addr.mk b 0 none)))], ps (by kernel_rfl), ?_⟩
    refine N_run 1 [(4, .pointer (some (Addr.mk b 0 none))), (5, .bool true)] (fun w => by kernel_rfl) ?_
    refine N_end (by kernel_rfl) ?_
    refine S_then ?_
    refine S_ret (by kernel_rfl) ?_
    show At _ _ _ _ (Q .ret)
    obtain ⟨rGen_2, rKind_2, rN_2, rCardsi0x2, rCardsi1x2, rCardsi2x2, rCardsi3x2, q9, h⟩ := h
    exact S_done (fn := Try.f84) [.agg #[.int .i64 rGen_2, .int .i64 rKind_2, .int .i64 rN_2, .int .i64 rCardsi0x2, .int .i64 rCardsi1x2, .int .i64 rCardsi2x2, .int .i64 rCardsi3x2], .bool true] hQ (show ResOK _ _ _ [.cell 4 144, .tmp 5] _ from .cell (by kernel_rfl) (loadOK_row (fun w => by kernel_rfl) (fun w => by kernel_rfl) q9) (.tmp (by kernel_rfl) (.nil))) h

/-! (*moraine/seg.Mem).Taken -/
noncomputable def seg_Mem_Taken.k0 : Code := Func.code Try.f86
noncomputable def seg_Mem_Taken.k1 : Code := Code.fa seg_Mem_Taken.k0
noncomputable def seg_Mem_Taken.k2 : Code := Code.fb seg_Mem_Taken.k0
noncomputable def seg_Mem_Taken.k3 : Code := Code.fa seg_Mem_Taken.k2
noncomputable def seg_Mem_Taken.k4 : Code := Code.fb seg_Mem_Taken.k2
noncomputable def seg_Mem_Taken.k5 : Code := Code.fa seg_Mem_Taken.k3
noncomputable def seg_Mem_Taken.k6 : Code := Code.fb seg_Mem_Taken.k3
noncomputable def seg_Mem_Taken.k7 : Code := Code.fa seg_Mem_Taken.k6
noncomputable def seg_Mem_Taken.k8 : Code := Code.fb seg_Mem_Taken.k6
noncomputable def seg_Mem_Taken.k9 : Code := Code.fa seg_Mem_Taken.k7
noncomputable def seg_Mem_Taken.k10 : Code := Code.fb seg_Mem_Taken.k7
noncomputable def seg_Mem_Taken.k11 : Code := Code.fa seg_Mem_Taken.k4
noncomputable def seg_Mem_Taken.k12 : Code := Code.fb seg_Mem_Taken.k4
noncomputable def seg_Mem_Taken.k13 : Code := Code.fa seg_Mem_Taken.k12
noncomputable def seg_Mem_Taken.k14 : Code := Code.fb seg_Mem_Taken.k12
noncomputable def seg_Mem_Taken.k15 : Code := Code.fa seg_Mem_Taken.k13
noncomputable def seg_Mem_Taken.k16 : Code := Code.fb seg_Mem_Taken.k13
noncomputable def seg_Mem_Taken.k17 : Code := Code.fa seg_Mem_Taken.k16
noncomputable def seg_Mem_Taken.k18 : Code := Code.fa seg_Mem_Taken.k17
noncomputable def seg_Mem_Taken.k19 : Code := Code.fa seg_Mem_Taken.k18
noncomputable def seg_Mem_Taken.k20 : Code := Code.fb seg_Mem_Taken.k18
noncomputable def seg_Mem_Taken.k21 : Code := Code.fa seg_Mem_Taken.k20
noncomputable def seg_Mem_Taken.k22 : Code := Code.fb seg_Mem_Taken.k20
noncomputable def seg_Mem_Taken.k23 : Code := Code.fa seg_Mem_Taken.k21
noncomputable def seg_Mem_Taken.k24 : Code := Code.fb seg_Mem_Taken.k21
noncomputable def seg_Mem_Taken.k25 : Code := Code.fa seg_Mem_Taken.k22
noncomputable def seg_Mem_Taken.k26 : Code := Code.fb seg_Mem_Taken.k22
noncomputable def seg_Mem_Taken.k27 : Code := Code.fa seg_Mem_Taken.k25
noncomputable def seg_Mem_Taken.k28 : Code := Code.fa seg_Mem_Taken.k27
noncomputable def seg_Mem_Taken.k29 : Code := Code.fb seg_Mem_Taken.k27
noncomputable def seg_Mem_Taken.k30 : Code := Code.fa seg_Mem_Taken.k29
noncomputable def seg_Mem_Taken.k31 : Code := Code.fb seg_Mem_Taken.k29
noncomputable def seg_Mem_Taken.k32 : Code := Code.fa seg_Mem_Taken.k31
noncomputable def seg_Mem_Taken.k33 : Code := Code.fb seg_Mem_Taken.k31
noncomputable def seg_Mem_Taken.k34 : Code := Code.fa seg_Mem_Taken.k33
noncomputable def seg_Mem_Taken.k35 : Code := Code.fb seg_Mem_Taken.k33
noncomputable def seg_Mem_Taken.k36 : Code := Code.fa seg_Mem_Taken.k14
noncomputable def seg_Mem_Taken.k37 : Code := Code.fb seg_Mem_Taken.k14
noncomputable def seg_Mem_Taken.k38 : Code := Code.fa seg_Mem_Taken.k37
noncomputable def seg_Mem_Taken.k39 : Code := Code.fb seg_Mem_Taken.k37
def seg_Mem_Taken.pt (m : Option Addr) (gensB : Option Addr) (gensN : Nat) (gensC : Nat) (H : Array Obj) (R : Value → Array Obj → Prop) : Prop :=
 ∀ (b : Nat) (H1 : Array Obj), b = H.size → H1 = H.push (.cells #[.pointer m] 124) →
 ∃ x : Option Addr, hat H1 (Addr.mk b 0 none) = some (.pointer x) ∧
 onPtr x (
  R (.slice none 0 0) H1) (fun xA =>
  ∃ x_2 : Option Addr, hat H1 (Addr.mk b 0 none) = some (.pointer x_2) ∧
  ∃ x2A : Addr, x_2 = some x2A ∧
  ∃ xB : Option Addr, ∃ xN : Nat, ∃ xC : Nat, hat H1 x2A = some (.slice xB xN xC) ∧
  ∃ (I19 : (Option Addr) → Nat → Nat → Int → Array Obj → Prop) (m19 : (Option Addr) → Nat → Nat → Int → Array Obj → Nat), I19 none 0 0 0 H1 ∧ ∀ (lB : Option Addr) (lN : Nat) (lC : Nat) (s15 : Int) (H2 : Array Obj), I19 lB lN lC s15 H2 →
  if s15 < (xN : Int) then (
   ∃ x_3 : Option Addr, hat H2 (Addr.mk b 0 none) = some (.pointer x_3) ∧
   ∃ x3A : Addr, x_3 = some x3A ∧
   ∃ xB_2 : Option Addr, ∃ xN_2 : Nat, ∃ xC_2 : Nat, hat H2 x3A = some (.slice xB_2 xN_2 xC_2) ∧
   ∃ xB2A : Addr, xB_2 = some xB2A ∧
   ((0 : Int) ≤ s15 ∧ s15 < (xN_2 : Int)) ∧
   ∃ x_4 : Int, hat H2 ((xB2A.add (Int.toNat s15 * 72)).add 7) = some (.int .i64 x_4) ∧
   if x_4 > 0 then (
    if (gensN : Int) = 0 then (
     ∀ (b_2 : Nat) (H3 : Array Obj), b_2 = H2.size → H3 = H2.push (.cells #[.int .i64 s15] 3) →
     appendK 1 3 8 [.int .i64 0] lB lN lC (some (Addr.mk b_2 0 none)) 1 H3 (fun ap apC H4 =>
      (I19 ap (lN + 1) apC (IntKind.wrap .i64 (s15 + 1)) H4 ∧ m19 ap (lN + 1) apC (IntKind.wrap .i64 (s15 + 1)) H4 < m19 lB lN lC s15 H2)))
    else
    ∃ x_5 : Int, hat H2 (xB2A.add (Int.toNat s15 * 72)) = some (.int .i64 x_5) ∧
    slices_Contains_int_int.C gensB gensN gensC x_5 H2 (fun v H5 => ∃ x_6 : Bool, v = .bool x_6 ∧ 
     if x_6 = true then (
      ∀ (b_3 : Nat) (H6 : Array Obj), b_3 = H5.size → H6 = H5.push (.cells #[.int .i64 s15] 3) →
      appendK 1 3 8 [.int .i64 0] lB lN lC (some (Addr.mk b_3 0 none)) 1 H6 (fun ap_2 apC_2 H7 =>
       (I19 ap_2 (lN + 1) apC_2 (IntKind.wrap .i64 (s15 + 1)) H7 ∧ m19 ap_2 (lN + 1) apC_2 (IntKind.wrap .i64 (s15 + 1)) H7 < m19 lB lN lC s15 H2)))
     else
     (I19 lB lN lC (IntKind.wrap .i64 (s15 + 1)) H5 ∧ m19 lB lN lC (IntKind.wrap .i64 (s15 + 1)) H5 < m19 lB lN lC s15 H2)))
   else
   (I19 lB lN lC (IntKind.wrap .i64 (s15 + 1)) H2 ∧ m19 lB lN lC (IntKind.wrap .i64 (s15 + 1)) H2 < m19 lB lN lC s15 H2))
  else
  slices_SortFunc_int_int.C lB lN lC (.func (.func 104) #[] #[.pointer (some (Addr.mk b 0 none))]) H2 (fun _ H8 =>
   R (.slice lB lN lC) H8))
set_option maxRecDepth 100000 in
theorem seg_Mem_Taken.link {m : Option Addr} {gensB : Option Addr} {gensN : Nat} {gensC : Nat} {H : Array Obj} {R : Value → Array Obj → Prop} (h : seg_Mem_Taken.pt m gensB gensN gensC H R) : seg_Mem_Taken.C m gensB gensN gensC H R := by
  refine S_enter (fn := Try.f86) (c := seg_Mem_Taken.k0) 52 Try.func86 (by kernel_rfl) (by kernel_rfl) (Nat.le_of_ble_eq_true (by kernel_rfl)) ?_
  intro w0 Q hQ
  unfold seg_Mem_Taken.pt at h
  refine S_sub [(0, .pointer m), (1, .slice gensB gensN gensC)] (sb (by kernel_rfl)) ?_
  refine S_seq seg_Mem_Taken.k1 seg_Mem_Taken.k2 (by kernel_rfl) ?_
  refine S_region 0 (Code.ops seg_Mem_Taken.k1) (by kernel_rfl) ?_
  refine N_new (some 2) (fun b => .pointer (some (Addr.mk b 0 none))) (.cells #[.pointer m] 124) (fun w => by kernel_rfl) ?_
  intro b H1 e1 e2
  replace h := h b H1 e1 e2
  refine ⟨[(1, .slice gensB gensN gensC), (2, .pointer (some (Addr.mk b 0 none)))], ps (by kernel_rfl), ?_⟩
  refine N_run 1 [(1, .slice gensB gensN gensC), (2, .pointer (some (Addr.mk b 0 none)))] (fun w => by kernel_rfl) ?_
  refine N_end (by kernel_rfl) ?_
  refine S_then ?_
  refine S_seq seg_Mem_Taken.k3 seg_Mem_Taken.k4 (by kernel_rfl) ?_
  refine S_seq seg_Mem_Taken.k5 seg_Mem_Taken.k6 (by kernel_rfl) ?_
  refine S_region 1 (Code.ops seg_Mem_Taken.k5) (by kernel_rfl) ?_
  obtain ⟨x, q3, h⟩ := h
  refine N_val (some 8) (loadN 124 (.pointer (some (Addr.mk b 0 none)))) (.pointer x) (fun w => by kernel_rfl) (loadN_run (loadOK_one (fun w => by kernel_rfl) q3)) [(1, .slice gensB gensN gensC), (2, .pointer (some (Addr.mk b 0 none))), (8, .pointer x)] (ps (by kernel_rfl)) ?_
  rcases x with _ | xA
  · rw [onPtr_none] at h
    refine N_run 1 [(1, .slice gensB gensN gensC), (2, .pointer (some (Addr.mk b 0 none))), (9, .bool true)] (fun w => by kernel_rfl) ?_
    refine N_end (by kernel_rfl) ?_
    refine S_then ?_
    refine S_condT (.tmp 9) seg_Mem_Taken.k7 seg_Mem_Taken.k8 (by kernel_rfl) (by kernel_rfl) ?_
    refine S_seq seg_Mem_Taken.k9 seg_Mem_Taken.k10 (by kernel_rfl) ?_
    refine S_region 2 (Code.ops seg_Mem_Taken.k9) (by kernel_rfl) ?_
    refine N_run 1 [(4, .slice none 0 0)] (fun w => by kernel_rfl) ?_
    refine N_end (by kernel_rfl) ?_
    refine S_then ?_
    refine S_ret (by kernel_rfl) ?_
    show At _ _ _ _ (Q .ret)
    exact S_done (fn := Try.f86) [.slice none 0 0] hQ (show ResOK _ _ _ [.tmp 4] _ from .tmp (by kernel_rfl) (.nil)) h
  · rw [onPtr_some] at h
    refine N_run 1 [(1, .slice gensB gensN gensC), (2, .pointer (some (Addr.mk b 0 none))), (9, .bool false)] (fun w => by kernel_rfl) ?_
    refine N_end (by kernel_rfl) ?_
    refine S_then ?_
    refine S_condF (.tmp 9) seg_Mem_Taken.k7 seg_Mem_Taken.k8 (by kernel_rfl) (by kernel_rfl) ?_
    refine S_skip (by kernel_rfl) ?_
    refine S_then ?_
    refine S_seq seg_Mem_Taken.k11 seg_Mem_Taken.k12 (by kernel_rfl) ?_
    refine S_region 3 (Code.ops seg_Mem_Taken.k11) (by kernel_rfl) ?_
    refine N_run 1 [(1, .slice gensB gensN gensC), (2, .pointer (some (Addr.mk b 0 none))), (5, .slice none 0 0)] (fun w => by kernel_rfl) ?_
    refine N_end (by kernel_rfl) ?_
    refine S_then ?_
    refine S_seq seg_Mem_Taken.k13 seg_Mem_Taken.k14 (by kernel_rfl) ?_
    refine S_seq seg_Mem_Taken.k15 seg_Mem_Taken.k16 (by kernel_rfl) ?_
    refine S_region 4 (Code.ops seg_Mem_Taken.k15) (by kernel_rfl) ?_
    obtain ⟨x_2, q4, h⟩ := h
    refine N_val (some 10) (loadN 124 (.pointer (some (Addr.mk b 0 none)))) (.pointer x_2) (fun w => by kernel_rfl) (loadN_run (loadOK_one (fun w => by kernel_rfl) q4)) [(1, .slice gensB gensN gensC), (2, .pointer (some (Addr.mk b 0 none))), (5, .slice none 0 0), (10, .pointer x_2)] (ps (by kernel_rfl)) ?_
    obtain ⟨x2A, rfl, h⟩ := h
    refine N_run 2 [(1, .slice gensB gensN gensC), (2, .pointer (some (Addr.mk b 0 none))), (5, .slice none 0 0), (12, .pointer (some x2A))] (fun w => by kernel_rfl) ?_
    obtain ⟨xB, xN, xC, q5, h⟩ := h
    refine N_val (some 13) (loadN 169 (.pointer (some x2A))) (.slice xB xN xC) (fun w => by kernel_rfl) (loadN_run (loadOK_one (fun w => by kernel_rfl) q5)) [(1, .slice gensB gensN gensC), (2, .pointer (some (Addr.mk b 0 none))), (5, .slice none 0 0), (13, .slice xB xN xC)] (ps (by kernel_rfl)) ?_
    refine N_run 2 [(1, .slice gensB gensN gensC), (2, .pointer (some (Addr.mk b 0 none))), (5, .slice none 0 0), (14, .int .i64 (xN : Int)), (15, .int .i64 0)] (fun w => by kernel_rfl) ?_
    refine N_end (by kernel_rfl) ?_
    refine S_then ?_
    refine S_block 0 seg_Mem_Taken.k17 (by kernel_rfl) ?_
    obtain ⟨I19, m19, i6, i7⟩ := h
    refine S_loop (x := seg_Mem_Taken.k18) (σ := (Option Addr) × Nat × Nat × Int) (fun s_ => [(1, .slice gensB gensN gensC), (2, .pointer (some (Addr.mk b 0 none))), (5, .slice s_.1 s_.2.1 s_.2.2.1), (14, .int .i64 (xN : Int)), (15, .int .i64 s_.2.2.2)]) (fun s_ H => I19 s_.1 s_.2.1 s_.2.2.1 s_.2.2.2 H) (fun s_ H => m19 s_.1 s_.2.1 s_.2.2.1 s_.2.2.2 H) ((none, 0, 0, 0) : (Option Addr) × Nat × Nat × Int) (by kernel_rfl) i6 (sb (by kernel_rfl)) ?_
    rintro ⟨lB, lN, lC, s15⟩ H2 i8
    have h := i7 lB lN lC s15 H2 i8
    refine S_sub [(1, .slice gensB gensN gensC), (2, .pointer (some (Addr.mk b 0 none))), (5, .slice lB lN lC), (14, .int .i64 (xN : Int)), (15, .int .i64 s15)] (sb (by kernel_rfl)) ?_
    refine S_seq seg_Mem_Taken.k19 seg_Mem_Taken.k20 (by kernel_rfl) ?_
    refine S_region 5 (Code.ops seg_Mem_Taken.k19) (by kernel_rfl) ?_
    refine N_run 1 [(1, .slice gensB gensN gensC), (2, .pointer (some (Addr.mk b 0 none))), (5, .slice lB lN lC), (14, .int .i64 (xN : Int)), (15, .int .i64 s15), (16, .bool (decide (s15 < (xN : Int))))] (fun w => by kernel_rfl) ?_
    refine N_end (by kernel_rfl) ?_
    refine S_then ?_
    refine S_seq seg_Mem_Taken.k21 seg_Mem_Taken.k22 (by kernel_rfl) ?_
    by_cases c9 : s15 < (xN : Int)
    · rw [if_pos c9] at h
      have b10 : (decide (s15 < (xN : Int))) = true := decide_eq_true c9
      refine S_env [(1, .slice gensB gensN gensC), (2, .pointer (some (Addr.mk b 0 none))), (5, .slice lB lN lC), (14, .int .i64 (xN : Int)), (15, .int .i64 s15), (16, .bool true)] (by simp only [b10, Bool.not_true, Bool.not_false]) ?_
      clear b10
      refine S_condT (.tmp 16) seg_Mem_Taken.k23 seg_Mem_Taken.k24 (by kernel_rfl) (by kernel_rfl) ?_
      refine S_skip (by kernel_rfl) ?_
      refine S_then ?_
      refine S_seq seg_Mem_Taken.k25 seg_Mem_Taken.k26 (by kernel_rfl) ?_
      refine S_block 1 seg_Mem_Taken.k27 (by kernel_rfl) ?_
      refine S_seq seg_Mem_Taken.k28 seg_Mem_Taken.k29 (by kernel_rfl) ?_
      refine S_region 6 (Code.ops seg_Mem_Taken.k28) (by kernel_rfl) ?_
      refine N_run 2 [(1, .slice gensB gensN gensC), (2, .pointer (some (Addr.mk b 0 none))), (5, .slice lB lN lC), (6, .int .i64 s15), (14, .int .i64 (xN : Int)), (15, .int .i64 s15)] (fun w => by kernel_rfl) ?_
      refine N_end (by kernel_rfl) ?_
      refine S_then ?_
      refine S_seq seg_Mem_Taken.k30 seg_Mem_Taken.k31 (by kernel_rfl) ?_
      refine S_region 7 (Code.ops seg_Mem_Taken.k30) (by kernel_rfl) ?_
      obtain ⟨x_3, q11, h⟩ := h
      refine N_val (some 18) (loadN 124 (.pointer (some (Addr.mk b 0 none)))) (.pointer x_3) (fun w => by kernel_rfl) (loadN_run (loadOK_one (fun w => by kernel_rfl) q11)) [(1, .slice gensB gensN gensC), (2, .pointer (some (Addr.mk b 0 none))), (5, .slice lB lN lC), (6, .int .i64 s15), (14, .int .i64 (xN : Int)), (15, .int .i64 s15), (18, .pointer x_3)] (ps (by kernel_rfl)) ?_
      obtain ⟨x3A, rfl, h⟩ := h
      refine N_run 2 [(1, .slice gensB gensN gensC), (2, .pointer (some (Addr.mk b 0 none))), (5, .slice lB lN lC), (6, .int .i64 s15), (14, .int .i64 (xN : Int)), (15, .int .i64 s15), (20, .pointer (some x3A))] (fun w => by kernel_rfl) ?_
      obtain ⟨xB_2, xN_2, xC_2, q12, h⟩ := h
      refine N_val (some 21) (loadN 169 (.pointer (some x3A))) (.slice xB_2 xN_2 xC_2) (fun w => by kernel_rfl) (loadN_run (loadOK_one (fun w => by kernel_rfl) q12)) [(1, .slice gensB gensN gensC), (2, .pointer (some (Addr.mk b 0 none))), (5, .slice lB lN lC), (6, .int .i64 s15), (14, .int .i64 (xN : Int)), (15, .int .i64 s15), (21, .slice xB_2 xN_2 xC_2)] (ps (by kernel_rfl)) ?_
      refine N_run 1 [(1, .slice gensB gensN gensC), (2, .pointer (some (Addr.mk b 0 none))), (5, .slice lB lN lC), (6, .int .i64 s15), (14, .int .i64 (xN : Int)), (15, .int .i64 s15), (21, .slice xB_2 xN_2 xC_2), (22, .int .i64 s15)] (fun w => by kernel_rfl) ?_
      obtain ⟨xB2A, rfl, h⟩ := h
      obtain ⟨q13, h⟩ := h
      refine N_val (some 23) (indexAtN 169 (.slice (some xB2A) xN_2 xC_2) (.int .i64 s15)) (.pointer (some (xB2A.add (Int.toNat s15 * 72)))) (fun w => by kernel_rfl) (fun w _ => indexAt_run (P := Try.prog) (t := 169) (elem := 168) (sz := 72) (a := xB2A) (len := xN_2) (cap := xC_2) (k := .i64) (i := s15) Try.underlying169 (fun w => by kernel_rfl) q13.1 q13.2 w) [(1, .slice gensB gensN gensC), (2, .pointer (some (Addr.mk b 0 none))), (5, .slice lB lN lC), (6, .int .i64 s15), (14, .int .i64 (xN : Int)), (15, .int .i64 s15), (23, .pointer (some (xB2A.add (Int.toNat s15 * 72))))] (ps (by kernel_rfl)) ?_
      refine N_run 1 [(1, .slice gensB gensN gensC), (2, .pointer (some (Addr.mk b 0 none))), (5, .slice lB lN lC), (6, .int .i64 s15), (7, .pointer (some (xB2A.add (Int.toNat s15 * 72)))), (14, .int .i64 (xN : Int)), (15, .int .i64 s15)] (fun w => by kernel_rfl) ?_
      refine N_end (by kernel_rfl) ?_
      refine S_then ?_
      refine S_seq seg_Mem_Taken.k32 seg_Mem_Taken.k33 (by kernel_rfl) ?_
      refine S_region 8 (Code.ops seg_Mem_Taken.k32) (by kernel_rfl) ?_
      refine N_run 3 [(1, .slice gensB gensN gensC), (2, .pointer (some (Addr.mk b 0 none))), (5, .slice lB lN lC), (6, .int .i64 s15), (7, .pointer (some (xB2A.add (Int.toNat s15 * 72)))), (14, .int .i64 (xN : Int)), (15, .int .i64 s15), (26, .pointer (some ((xB2A.add (Int.toNat s15 * 72)).add 7)))] (fun w => by kernel_rfl) ?_
      obtain ⟨x_4, q14, h⟩ := h
      refine N_val (some 27) (loadN 3 (.pointer (some ((xB2A.add (Int.toNat s15 * 72)).add 7)))) (.int .i64 x_4) (fun w => by kernel_rfl) (loadN_run (loadOK_one (fun w => by kernel_rfl) q14)) [(1, .slice gensB gensN gensC), (2, .pointer (some (Addr.mk b 0 none))), (5, .slice lB lN lC), (6, .int .i64 s15), (7, .pointer (some (xB2A.add (Int.toNat s15 * 72)))), (14, .int .i64 (xN : Int)), (15, .int .i64 s15), (27, .int .i64 x_4)] (ps (by kernel_rfl)) ?_
      refine N_run 2 [(1, .slice gensB gensN gensC), (2, .pointer (some (Addr.mk b 0 none))), (5, .slice lB lN lC), (6, .int .i64 s15), (7, .pointer (some (xB2A.add (Int.toNat s15 * 72)))), (14, .int .i64 (xN : Int)), (15, .int .i64 s15), (29, .bool (decide (x_4 > 0)))] (fun w => by kernel_rfl) ?_
      by_cases c15 : x_4 > 0
      · rw [if_pos c15] at h
        have b16 : (decide (x_4 > 0)) = true := decide_eq_true c15
        refine N_env [(1, .slice gensB gensN gensC), (2, .pointer (some (Addr.mk b 0 none))), (5, .slice lB lN lC), (6, .int .i64 s15), (7, .pointer (some (xB2A.add (Int.toNat s15 * 72)))), (14, .int .i64 (xN : Int)), (15, .int .i64 s15), (29, .bool true)] (by simp only [b16, Bool.not_true, Bool.not_false]) ?_
        clear b16
        refine N_run 4 [(1, .slice gensB gensN gensC), (2, .pointer (some (Addr.mk b 0 none))), (5, .slice lB lN lC), (6, .int .i64 s15), (7, .pointer (some (xB2A.add (Int.toNat s15 * 72)))), (14, .int .i64 (xN : Int)), (15, .int .i64 s15), (29, .bool true), (33, .bool ((gensN : Int) == 0))] (fun w => by kernel_rfl) ?_
        by_cases c17 : (gensN : Int) = 0
        · rw [if_pos c17] at h
          have b18 : ((gensN : Int) == 0) = true := beq_iff_eq.mpr c17
          refine N_env [(1, .slice gensB gensN gensC), (2, .pointer (some (Addr.mk b 0 none))), (5, .slice lB lN lC), (6, .int .i64 s15), (7, .pointer (some (xB2A.add (Int.toNat s15 * 72)))), (14, .int .i64 (xN : Int)), (15, .int .i64 s15), (29, .bool true), (33, .bool true)] (by simp only [b18, Bool.not_true, Bool.not_false]) ?_
          clear b18
          refine N_run 9 [(1, .slice gensB gensN gensC), (2, .pointer (some (Addr.mk b 0 none))), (5, .slice lB lN lC), (6, .int .i64 s15), (14, .int .i64 (xN : Int)), (15, .int .i64 s15), (42, .bool true)] (fun w => by kernel_rfl) ?_
          refine N_end (by kernel_rfl) ?_
          refine S_then ?_
          refine S_condT (.tmp 42) seg_Mem_Taken.k34 seg_Mem_Taken.k35 (by kernel_rfl) (by kernel_rfl) ?_
          refine S_region 9 (Code.ops seg_Mem_Taken.k34) (by kernel_rfl) ?_
          refine N_run 2 [(1, .slice gensB gensN gensC), (2, .pointer (some (Addr.mk b 0 none))), (14, .int .i64 (xN : Int)), (15, .int .i64 s15), (43, .slice lB lN lC), (44, .int .i64 s15)] (fun w => by kernel_rfl) ?_
          refine N_new (some 45) (fun b => .slice (some (Addr.mk b 0 none)) 1 1) (.cells #[.int .i64 s15] 3) (fun w => by kernel_rfl) ?_
          intro b_2 H3 e19 e20
          replace h := h b_2 H3 e19 e20
          refine ⟨[(1, .slice gensB gensN gensC), (2, .pointer (some (Addr.mk b 0 none))), (14, .int .i64 (xN : Int)), (15, .int .i64 s15), (43, .slice lB lN lC), (45, .slice (some (Addr.mk b_2 0 none)) 1 1)], ps (by kernel_rfl), ?_⟩
          refine N_op (some 46) (appendN #[37, 37] 37 #[.slice lB lN lC, .slice (some (Addr.mk b_2 0 none)) 1 1]) _ (fun w => by kernel_rfl) (ss_append (T := 3) (sz := 1) (bytes := 8) (zero := .int .i64 0) Try.underlying37 Try.underlying37 rfl (show Try.prog.info? 3 = some Try.t3 from by kernel_rfl) (by kernel_rfl) (by kernel_rfl) (by decide) (by kernel_rfl) h) ?_
          rintro _ H4 ⟨ap, apC, rfl, h⟩
          refine ⟨[(1, .slice gensB gensN gensC), (2, .pointer (some (Addr.mk b 0 none))), (14, .int .i64 (xN : Int)), (15, .int .i64 s15), (46, .slice ap (lN + 1) apC)], ps (by kernel_rfl), ?_⟩
          refine N_run 1 [(1, .slice gensB gensN gensC), (2, .pointer (some (Addr.mk b 0 none))), (5, .slice ap (lN + 1) apC), (14, .int .i64 (xN : Int)), (15, .int .i64 s15)] (fun w => by kernel_rfl) ?_
          refine N_end (by kernel_rfl) ?_
          refine S_blockEnd ?_
          refine S_then ?_
          refine S_region 10 (Code.ops seg_Mem_Taken.k26) (by kernel_rfl) ?_
          refine N_run 2 [(1, .slice gensB gensN gensC), (2, .pointer (some (Addr.mk b 0 none))), (5, .slice ap (lN + 1) apC), (14, .int .i64 (xN : Int)), (15, .int .i64 (IntKind.wrap .i64 (s15 + 1)))] (fun w => by kernel_rfl) ?_
          refine N_end (by kernel_rfl) ?_
          refine S_then ?_
          exact S_round ((ap, (lN + 1), apC, (IntKind.wrap .i64 (s15 + 1))) : (Option Addr) × Nat × Nat × Int) (sb (by kernel_rfl)) h
        · rw [if_neg c17] at h
          have b18 : ((gensN : Int) == 0) = false := beq_eq_false_iff_ne.mpr c17
          refine N_env [(1, .slice gensB gensN gensC), (2, .pointer (some (Addr.mk b 0 none))), (5, .slice lB lN lC), (6, .int .i64 s15), (7, .pointer (some (xB2A.add (Int.toNat s15 * 72)))), (14, .int .i64 (xN : Int)), (15, .int .i64 s15), (29, .bool true), (33, .bool false)] (by simp only [b18, Bool.not_true, Bool.not_false]) ?_
          clear b18
          refine N_run 5 [(1, .slice gensB gensN gensC), (2, .pointer (some (Addr.mk b 0 none))), (5, .slice lB lN lC), (6, .int .i64 s15), (14, .int .i64 (xN : Int)), (15, .int .i64 s15), (29, .bool true), (33, .bool false), (34, .slice gensB gensN gensC), (38, .pointer (some (xB2A.add (Int.toNat s15 * 72))))] (fun w => by kernel_rfl) ?_
          obtain ⟨x_5, q21, h⟩ := h
          refine N_val (some 39) (loadN 3 (.pointer (some (xB2A.add (Int.toNat s15 * 72))))) (.int .i64 x_5) (fun w => by kernel_rfl) (loadN_run (loadOK_one (fun w => by kernel_rfl) q21)) [(1, .slice gensB gensN gensC), (2, .pointer (some (Addr.mk b 0 none))), (5, .slice lB lN lC), (6, .int .i64 s15), (14, .int .i64 (xN : Int)), (15, .int .i64 s15), (29, .bool true), (33, .bool false), (34, .slice gensB gensN gensC), (39, .int .i64 x_5)] (ps (by kernel_rfl)) ?_
          refine N_call (some 40) 102 #[.slice gensB gensN gensC, .int .i64 x_5] (fun w => by kernel_rfl) h ?_; clear h
          rintro v H5 ⟨x_6, rfl, h⟩
          refine ⟨[(1, .slice gensB gensN gensC), (2, .pointer (some (Addr.mk b 0 none))), (5, .slice lB lN lC), (6, .int .i64 s15), (14, .int .i64 (xN : Int)), (15, .int .i64 s15), (29, .bool true), (33, .bool false), (40, .bool x_6)], ps (by kernel_rfl), ?_⟩
          refine N_run 2 [(1, .slice gensB gensN gensC), (2, .pointer (some (Addr.mk b 0 none))), (5, .slice lB lN lC), (6, .int .i64 s15), (14, .int .i64 (xN : Int)), (15, .int .i64 s15), (42, .bool x_6)] (fun w => by kernel_rfl) ?_
          refine N_end (by kernel_rfl) ?_
          refine S_then ?_
          by_cases c22 : x_6 = true
          · rw [if_pos c22] at h
            have b23 : x_6 = true := c22
            refine S_env [(1, .slice gensB gensN gensC), (2, .pointer (some (Addr.mk b 0 none))), (5, .slice lB lN lC), (6, .int .i64 s15), (14, .int .i64 (xN : Int)), (15, .int .i64 s15), (42, .bool true)] (by simp only [b23, Bool.not_true, Bool.not_false]) ?_
            clear b23
            refine S_condT (.tmp 42) seg_Mem_Taken.k34 seg_Mem_Taken.k35 (by kernel_rfl) (by kernel_rfl) ?_
            refine S_region 9 (Code.ops seg_Mem_Taken.k34) (by kernel_rfl) ?_
            refine N_run 2 [(1, .slice gensB gensN gensC), (2, .pointer (some (Addr.mk b 0 none))), (14, .int .i64 (xN : Int)), (15, .int .i64 s15), (43, .slice lB lN lC), (44, .int .i64 s15)] (fun w => by kernel_rfl) ?_
            refine N_new (some 45) (fun b => .slice (some (Addr.mk b 0 none)) 1 1) (.cells #[.int .i64 s15] 3) (fun w => by kernel_rfl) ?_
            intro b_3 H6 e24 e25
            replace h := h b_3 H6 e24 e25
            refine ⟨[(1, .slice gensB gensN gensC), (2, .pointer (some (Addr.mk b 0 none))), (14, .int .i64 (xN : Int)), (15, .int .i64 s15), (43, .slice lB lN lC), (45, .slice (some (Addr.mk b_3 0 none)) 1 1)], ps (by kernel_rfl), ?_⟩
            refine N_op (some 46) (appendN #[37, 37] 37 #[.slice lB lN lC, .slice (some (Addr.mk b_3 0 none)) 1 1]) _ (fun w => by kernel_rfl) (ss_append (T := 3) (sz := 1) (bytes := 8) (zero := .int .i64 0) Try.underlying37 Try.underlying37 rfl (show Try.prog.info? 3 = some Try.t3 from by kernel_rfl) (by kernel_rfl) (by kernel_rfl) (by decide) (by kernel_rfl) h) ?_
            rintro _ H7 ⟨ap_2, apC_2, rfl, h⟩
            refine ⟨[(1, .slice gensB gensN gensC), (2, .pointer (some (Addr.mk b 0 none))), (14, .int .i64 (xN : Int)), (15, .int .i64 s15), (46, .slice ap_2 (lN + 1) apC_2)], ps (by kernel_rfl), ?_⟩
            refine N_run 1 [(1, .slice gensB gensN gensC), (2, .pointer (some (Addr.mk b 0 none))), (5, .slice ap_2 (lN + 1) apC_2), (14, .int .i64 (xN : Int)), (15, .int .i64 s15)] (fun w => by kernel_rfl) ?_
            refine N_end (by kernel_rfl) ?_
            refine S_blockEnd ?_
            refine S_then ?_
            refine S_region 10 (Code.ops seg_Mem_Taken.k26) (by kernel_rfl) ?_
            refine N_run 2 [(1, .slice gensB gensN gensC), (2, .pointer (some (Addr.mk b 0 none))), (5, .slice ap_2 (lN + 1) apC_2), (14, .int .i64 (xN : Int)), (15, .int .i64 (IntKind.wrap .i64 (s15 + 1)))] (fun w => by kernel_rfl) ?_
            refine N_end (by kernel_rfl) ?_
            refine S_then ?_
            exact S_round ((ap_2, (lN + 1), apC_2, (IntKind.wrap .i64 (s15 + 1))) : (Option Addr) × Nat × Nat × Int) (sb (by kernel_rfl)) h
          · rw [if_neg c22] at h
            have b23 : x_6 = false := eq_false_of_ne_true c22
            refine S_env [(1, .slice gensB gensN gensC), (2, .pointer (some (Addr.mk b 0 none))), (5, .slice lB lN lC), (6, .int .i64 s15), (14, .int .i64 (xN : Int)), (15, .int .i64 s15), (42, .bool false)] (by simp only [b23, Bool.not_true, Bool.not_false]) ?_
            clear b23
            refine S_condF (.tmp 42) seg_Mem_Taken.k34 seg_Mem_Taken.k35 (by kernel_rfl) (by kernel_rfl) ?_
            refine S_skip (by kernel_rfl) ?_
            refine S_blockEnd ?_
            refine S_then ?_
            refine S_region 10 (Code.ops seg_Mem_Taken.k26) (by kernel_rfl) ?_
            refine N_run 2 [(1, .slice gensB gensN gensC), (2, .pointer (some (Addr.mk b 0 none))), (5, .slice lB lN lC), (14, .int .i64 (xN : Int)), (15, .int .i64 (IntKind.wrap .i64 (s15 + 1)))] (fun w => by kernel_rfl) ?_
            refine N_end (by kernel_rfl) ?_
            refine S_then ?_
            exact S_round ((lB, lN, lC, (IntKind.wrap .i64 (s15 + 1))) : (Option Addr) × Nat × Nat × Int) (sb (by kernel_rfl)) h
      · rw [if_neg c15] at h
        have b16 : (decide (x_4 > 0)) = false := decide_eq_false c15
        refine N_env [(1, .slice gensB gensN gensC), (2, .pointer (some (Addr.mk b 0 none))), (5, .slice lB lN lC), (6, .int .i64 s15), (7, .pointer (some (xB2A.add (Int.toNat s15 * 72)))), (14, .int .i64 (xN : Int)), (15, .int .i64 s15), (29, .bool false)] (by simp only [b16, Bool.not_true, Bool.not_false]) ?_
        clear b16
        refine N_run 13 [(1, .slice gensB gensN gensC), (2, .pointer (some (Addr.mk b 0 none))), (5, .slice lB lN lC), (6, .int .i64 s15), (14, .int .i64 (xN : Int)), (15, .int .i64 s15), (42, .bool false)] (fun w => by kernel_rfl) ?_
        refine N_end (by kernel_rfl) ?_
        refine S_then ?_
        refine S_condF (.tmp 42) seg_Mem_Taken.k34 seg_Mem_Taken.k35 (by kernel_rfl) (by kernel_rfl) ?_
        refine S_skip (by kernel_rfl) ?_
        refine S_blockEnd ?_
        refine S_then ?_
        refine S_region 10 (Code.ops seg_Mem_Taken.k26) (by kernel_rfl) ?_
        refine N_run 2 [(1, .slice gensB gensN gensC), (2, .pointer (some (Addr.mk b 0 none))), (5, .slice lB lN lC), (14, .int .i64 (xN : Int)), (15, .int .i64 (IntKind.wrap .i64 (s15 + 1)))] (fun w => by kernel_rfl) ?_
        refine N_end (by kernel_rfl) ?_
        refine S_then ?_
        exact S_round ((lB, lN, lC, (IntKind.wrap .i64 (s15 + 1))) : (Option Addr) × Nat × Nat × Int) (sb (by kernel_rfl)) h
    · rw [if_neg c9] at h
      have b10 : (decide (s15 < (xN : Int))) = false := decide_eq_false c9
      refine S_env [(1, .slice gensB gensN gensC), (2, .pointer (some (Addr.mk b 0 none))), (5, .slice lB lN lC), (14, .int .i64 (xN : Int)), (15, .int .i64 s15), (16, .bool false)] (by simp only [b10, Bool.not_true, Bool.not_false]) ?_
      clear b10
      refine S_condF (.tmp 16) seg_Mem_Taken.k23 seg_Mem_Taken.k24 (by kernel_rfl) (by kernel_rfl) ?_
      refine S_exit 0 (by kernel_rfl) ?_
      refine S_exitThen ?_
      refine S_exitThen ?_
      refine S_exitHere ?_
      refine S_then ?_
      refine S_seq seg_Mem_Taken.k36 seg_Mem_Taken.k37 (by kernel_rfl) ?_
      refine S_region 11 (Code.ops seg_Mem_Taken.k36) (by kernel_rfl) ?_
      refine N_run 2 [(5, .slice lB lN lC), (48, .slice lB lN lC), (49, .func (.func 104) #[] #[.pointer (some (Addr.mk b 0 none))])] (fun w => by kernel_rfl) ?_
      refine N_call (some 50) 103 #[.slice lB lN lC, .func (.func 104) #[] #[.pointer (some (Addr.mk b 0 none))]] (fun w => by kernel_rfl) h ?_; clear h
      intro v_2 H8 h
      refine ⟨[(5, .slice lB lN lC)], ps (by kernel_rfl), ?_⟩
      refine N_end (by kernel_rfl) ?_
      refine S_then ?_
      refine S_seq seg_Mem_Taken.k38 seg_Mem_Taken.k39 (by kernel_rfl) ?_
      refine S_region 12 (Code.ops seg_Mem_Taken.k38) (by kernel_rfl) ?_
      refine N_run 2 [(4, .slice lB lN lC)] (fun w => by kernel_rfl) ?_
      refine N_end (by kernel_rfl) ?_
      refine S_then ?_
      refine S_ret (by kernel_rfl) ?_
      show At _ _ _ _ (Q .ret)
      exact S_done (fn := Try.f86) [.slice lB lN lC] hQ (show ResOK _ _ _ [.tmp 4] _ from .tmp (by kernel_rfl) (.nil)) h

/-! (*moraine/seg.Mem).Write -/
noncomputable def seg_Mem_Write.k0 : Code := Func.code Try.f89
noncomputable def seg_Mem_Write.k1 : Code := Code.fa seg_Mem_Write.k0
noncomputable def seg_Mem_Write.k2 : Code := Code.fb seg_Mem_Write.k0
noncomputable def seg_Mem_Write.k3 : Code := Code.fa seg_Mem_Write.k2
noncomputable def seg_Mem_Write.k4 : Code := Code.fb seg_Mem_Write.k2
noncomputable def seg_Mem_Write.k5 : Code := Code.fa seg_Mem_Write.k4
noncomputable def seg_Mem_Write.k6 : Code := Code.fb seg_Mem_Write.k4
noncomputable def seg_Mem_Write.k7 : Code := Code.fa seg_Mem_Write.k5
noncomputable def seg_Mem_Write.k8 : Code := Code.fb seg_Mem_Write.k5
noncomputable def seg_Mem_Write.k9 : Code := Code.fa seg_Mem_Write.k8
noncomputable def seg_Mem_Write.k10 : Code := Code.fb seg_Mem_Write.k8
noncomputable def seg_Mem_Write.k11 : Code := Code.fa seg_Mem_Write.k9
noncomputable def seg_Mem_Write.k12 : Code := Code.fb seg_Mem_Write.k9
noncomputable def seg_Mem_Write.k13 : Code := Code.fa seg_Mem_Write.k6
noncomputable def seg_Mem_Write.k14 : Code := Code.fb seg_Mem_Write.k6
noncomputable def seg_Mem_Write.k15 : Code := Code.fa seg_Mem_Write.k14
noncomputable def seg_Mem_Write.k16 : Code := Code.fb seg_Mem_Write.k14
def seg_Mem_Write.pt (m : Option Addr) (addr : Int) (wv : Int) (H : Array Obj) (R : Value → Array Obj → Prop) : Prop :=
 seg_Mem_word.C m addr H (fun v H1 => ∃ x : Option Addr, v = .pointer x ∧ 
  onPtr x (
   R (.int .i64 18) H1) (fun xA =>
   (CanPuts H1 xA 0 1) ∧ ∀ H2 : Array Obj, H2 = hputs H1 xA [.int .u64 wv] 0 →
   R (.int .i64 0) H2))
set_option maxRecDepth 100000 in
theorem seg_Mem_Write.link {m : Option Addr} {addr : Int} {wv : Int} {H : Array Obj} {R : Value → Array Obj → Prop} (h : seg_Mem_Write.pt m addr wv H R) : seg_Mem_Write.C m addr wv H R := by
  refine S_enter (fn := Try.f89) (c := seg_Mem_Write.k0) 16 Try.func89 (by kernel_rfl) (by kernel_rfl) (Nat.le_of_ble_eq_true (by kernel_rfl)) ?_
  intro w0 Q hQ
  unfold seg_Mem_Write.pt at h
  refine S_sub [(0, .pointer m), (1, .int .i64 addr), (2, .int .u64 wv)] (sb (by kernel_rfl)) ?_
  refine S_seq seg_Mem_Write.k1 seg_Mem_Write.k2 (by kernel_rfl) ?_
  refine S_region 0 (Code.ops seg_Mem_Write.k1) (by kernel_rfl) ?_
  refine N_run 1 [(0, .pointer m), (1, .int .i64 addr), (2, .int .u64 wv)] (fun w => by kernel_rfl) ?_
  refine N_end (by kernel_rfl) ?_
  refine S_then ?_
  refine S_seq seg_Mem_Write.k3 seg_Mem_Write.k4 (by kernel_rfl) ?_
  refine S_region 1 (Code.ops seg_Mem_Write.k3) (by kernel_rfl) ?_
  refine N_run 2 [(2, .int .u64 wv), (8, .pointer m), (9, .int .i64 addr)] (fun w => by kernel_rfl) ?_
  refine N_call (some 10) 95 #[.pointer m, .int .i64 addr] (fun w => by kernel_rfl) h ?_; clear h
  rintro v H1 ⟨x, rfl, h⟩
  refine ⟨[(2, .int .u64 wv), (10, .pointer x)], ps (by kernel_rfl), ?_⟩
  refine N_run 1 [(2, .int .u64 wv), (7, .pointer x)] (fun w => by kernel_rfl) ?_
  refine N_end (by kernel_rfl) ?_
  refine S_then ?_
  refine S_seq seg_Mem_Write.k5 seg_Mem_Write.k6 (by kernel_rfl) ?_
  refine S_seq seg_Mem_Write.k7 seg_Mem_Write.k8 (by kernel_rfl) ?_
  refine S_region 2 (Code.ops seg_Mem_Write.k7) (by kernel_rfl) ?_
  refine N_run 1 [(2, .int .u64 wv), (7, .pointer x), (11, .pointer x)] (fun w => by kernel_rfl) ?_
  rcases x with _ | xA
  · rw [onPtr_none] at h
    refine N_run 1 [(2, .int .u64 wv), (7, .pointer none), (12, .bool true)] (fun w => by kernel_rfl) ?_
    refine N_end (by kernel_rfl) ?_
    refine S_then ?_
    refine S_condT (.tmp 12) seg_Mem_Write.k9 seg_Mem_Write.k10 (by kernel_rfl) (by kernel_rfl) ?_
    refine S_seq seg_Mem_Write.k11 seg_Mem_Write.k12 (by kernel_rfl) ?_
    refine S_region 3 (Code.ops seg_Mem_Write.k11) (by kernel_rfl) ?_
    refine N_run 1 [(6, .int .i64 18)] (fun w => by kernel_rfl) ?_
    refine N_end (by kernel_rfl) ?_
    refine S_then ?_
    refine S_ret (by kernel_rfl) ?_
    show At _ _ _ _ (Q .ret)
    exact S_done (fn := Try.f89) [.int .i64 18] hQ (show ResOK _ _ _ [.tmp 6] _ from .tmp (by kernel_rfl) (.nil)) h
  · rw [onPtr_some] at h
    refine N_run 1 [(2, .int .u64 wv), (7, .pointer (some xA)), (12, .bool false)] (fun w => by kernel_rfl) ?_
    refine N_end (by kernel_rfl) ?_
    refine S_then ?_
    refine S_condF (.tmp 12) seg_Mem_Write.k9 seg_Mem_Write.k10 (by kernel_rfl) (by kernel_rfl) ?_
    refine S_skip (by kernel_rfl) ?_
    refine S_then ?_
    refine S_seq seg_Mem_Write.k13 seg_Mem_Write.k14 (by kernel_rfl) ?_
    refine S_region 4 (Code.ops seg_Mem_Write.k13) (by kernel_rfl) ?_
    refine N_run 3 [(14, .int .u64 wv), (15, .pointer (some xA))] (fun w => by kernel_rfl) ?_
    obtain ⟨q2, h⟩ := h
    refine N_skipop none (storeN 29 (.pointer (some xA)) (.int .u64 wv)) (fun Hz => Hz = hputs H1 xA [.int .u64 wv] 0) (fun w => by kernel_rfl) (ss_store [.int .u64 wv] 1 (by kernel_rfl) (by kernel_rfl) (fun w => by kernel_rfl) (by kernel_rfl) q2) ?_
    intro H2 e1
    replace h := h H2 e1
    refine ⟨[], ps (by kernel_rfl), ?_⟩
    refine N_end (by kernel_rfl) ?_
    refine S_then ?_
    refine S_seq seg_Mem_Write.k15 seg_Mem_Write.k16 (by kernel_rfl) ?_
    refine S_region 5 (Code.ops seg_Mem_Write.k15) (by kernel_rfl) ?_
    refine N_run 1 [(6, .int .i64 0)] (fun w => by kernel_rfl) ?_
    refine N_end (by kernel_rfl) ?_
    refine S_then ?_
    refine S_ret (by kernel_rfl) ?_
    show At _ _ _ _ (Q .ret)
    exact S_done (fn := Try.f89) [.int .i64 0] hQ (show ResOK _ _ _ [.tmp 6] _ from .tmp (by kernel_rfl) (.nil)) h

/-! (*moraine/seg.Mem).Mark -/
noncomputable def seg_Mem_Mark.k0 : Code := Func.code Try.f91
noncomputable def seg_Mem_Mark.k1 : Code := Code.fa seg_Mem_Mark.k0
noncomputable def seg_Mem_Mark.k2 : Code := Code.fb seg_Mem_Mark.k0
noncomputable def seg_Mem_Mark.k3 : Code := Code.fa seg_Mem_Mark.k2
noncomputable def seg_Mem_Mark.k4 : Code := Code.fb seg_Mem_Mark.k2
noncomputable def seg_Mem_Mark.k5 : Code := Code.fa seg_Mem_Mark.k4
noncomputable def seg_Mem_Mark.k6 : Code := Code.fb seg_Mem_Mark.k4
noncomputable def seg_Mem_Mark.k7 : Code := Code.fa seg_Mem_Mark.k5
noncomputable def seg_Mem_Mark.k8 : Code := Code.fa seg_Mem_Mark.k7
noncomputable def seg_Mem_Mark.k9 : Code := Code.fb seg_Mem_Mark.k7
noncomputable def seg_Mem_Mark.k10 : Code := Code.fa seg_Mem_Mark.k9
noncomputable def seg_Mem_Mark.k11 : Code := Code.fb seg_Mem_Mark.k9
noncomputable def seg_Mem_Mark.k12 : Code := Code.fa seg_Mem_Mark.k10
noncomputable def seg_Mem_Mark.k13 : Code := Code.fb seg_Mem_Mark.k10
noncomputable def seg_Mem_Mark.k14 : Code := Code.fa seg_Mem_Mark.k11
noncomputable def seg_Mem_Mark.k15 : Code := Code.fb seg_Mem_Mark.k11
noncomputable def seg_Mem_Mark.k16 : Code := Code.fa seg_Mem_Mark.k15
noncomputable def seg_Mem_Mark.k17 : Code := Code.fb seg_Mem_Mark.k15
noncomputable def seg_Mem_Mark.k18 : Code := Code.fa seg_Mem_Mark.k16
noncomputable def seg_Mem_Mark.k19 : Code := Code.fb seg_Mem_Mark.k16
noncomputable def seg_Mem_Mark.k20 : Code := Code.fa seg_Mem_Mark.k6
noncomputable def seg_Mem_Mark.k21 : Code := Code.fb seg_Mem_Mark.k6
noncomputable def seg_Mem_Mark.k22 : Code := Code.fa seg_Mem_Mark.k21
noncomputable def seg_Mem_Mark.k23 : Code := Code.fb seg_Mem_Mark.k21
def seg_Mem_Mark.pt (m : Option Addr) (seg : Int) (card : Int) (mark : Int) (H : Array Obj) (R : Value → Array Obj → Prop) : Prop :=
 seg_Mem_at.C m seg H (fun v H1 => ∃ x : Option Addr, v = .pointer x ∧ 
  onPtr x (
   R (.int .i64 19) H1) (fun xA =>
   if ((((decide (card < 0)) || (decide (card ≥ 4))) || (decide (mark < 0))) || (decide (mark > 5))) = true then (
    R (.int .i64 1) H1)
   else
   ((0 : Int) ≤ card ∧ card < (4 : Int)) ∧
   (CanPuts H1 ((xA.add 3).add (Int.toNat card * 1)) 0 1) ∧ ∀ H2 : Array Obj, H2 = hputs H1 ((xA.add 3).add (Int.toNat card * 1)) [.int .i64 mark] 0 →
   R (.int .i64 0) H2))
set_option maxRecDepth 100000 in
theorem seg_Mem_Mark.link {m : Option Addr} {seg : Int} {card : Int} {mark : Int} {H : Array Obj} {R : Value → Array Obj → Prop} (h : seg_Mem_Mark.pt m seg card mark H R) : seg_Mem_Mark.C m seg card mark H R := by
  refine S_enter (fn := Try.f91) (c := seg_Mem_Mark.k0) 38 Try.func91 (by kernel_rfl) (by kernel_rfl) (Nat.le_of_ble_eq_true (by kernel_rfl)) ?_
  intro w0 Q hQ
  unfold seg_Mem_Mark.pt at h
  refine S_sub [(0, .pointer m), (1, .int .i64 seg), (2, .int .i64 card), (3, .int .i64 mark)] (sb (by kernel_rfl)) ?_
  refine S_seq seg_Mem_Mark.k1 seg_Mem_Mark.k2 (by kernel_rfl) ?_
  refine S_region 0 (Code.ops seg_Mem_Mark.k1) (by kernel_rfl) ?_
  refine N_run 1 [(0, .pointer m), (1, .int .i64 seg), (2, .int .i64 card), (3, .int .i64 mark)] (fun w => by kernel_rfl) ?_
  refine N_end (by kernel_rfl) ?_
  refine S_then ?_
  refine S_seq seg_Mem_Mark.k3 seg_Mem_Mark.k4 (by kernel_rfl) ?_
  refine S_region 1 (Code.ops seg_Mem_Mark.k3) (by kernel_rfl) ?_
  refine N_run 2 [(2, .int .i64 card), (3, .int .i64 mark), (10, .pointer m), (11, .int .i64 seg)] (fun w => by kernel_rfl) ?_
  refine N_call (some 12) 101 #[.pointer m, .int .i64 seg] (fun w => by kernel_rfl) h ?_; clear h
  rintro v H1 ⟨x, rfl, h⟩
  refine ⟨[(2, .int .i64 card), (3, .int .i64 mark), (12, .pointer x)], ps (by kernel_rfl), ?_⟩
  refine N_run 1 [(2, .int .i64 card), (3, .int .i64 mark), (9, .pointer x)] (fun w => by kernel_rfl) ?_
  refine N_end (by kernel_rfl) ?_
  refine S_then ?_
  refine S_seq seg_Mem_Mark.k5 seg_Mem_Mark.k6 (by kernel_rfl) ?_
  refine S_block 0 seg_Mem_Mark.k7 (by kernel_rfl) ?_
  refine S_seq seg_Mem_Mark.k8 seg_Mem_Mark.k9 (by kernel_rfl) ?_
  refine S_region 2 (Code.ops seg_Mem_Mark.k8) (by kernel_rfl) ?_
  refine N_run 1 [(2, .int .i64 card), (3, .int .i64 mark), (9, .pointer x), (14, .pointer x)] (fun w => by kernel_rfl) ?_
  rcases x with _ | xA
  · rw [onPtr_none] at h
    refine N_run 2 [(2, .int .i64 card), (3, .int .i64 mark), (9, .pointer none), (13, .bool true)] (fun w => by kernel_rfl) ?_
    refine N_end (by kernel_rfl) ?_
    refine S_then ?_
    refine S_condT (.tmp 13) seg_Mem_Mark.k10 seg_Mem_Mark.k11 (by kernel_rfl) (by kernel_rfl) ?_
    refine S_seq seg_Mem_Mark.k12 seg_Mem_Mark.k13 (by kernel_rfl) ?_
    refine S_region 3 (Code.ops seg_Mem_Mark.k12) (by kernel_rfl) ?_
    refine N_run 1 [(8, .int .i64 19)] (fun w => by kernel_rfl) ?_
    refine N_end (by kernel_rfl) ?_
    refine S_then ?_
    refine S_ret (by kernel_rfl) ?_
    show At _ _ _ _ (Q .ret)
    exact S_done (fn := Try.f91) [.int .i64 19] hQ (show ResOK _ _ _ [.tmp 8] _ from .tmp (by kernel_rfl) (.nil)) h
  · rw [onPtr_some] at h
    refine N_run 2 [(2, .int .i64 card), (3, .int .i64 mark), (9, .pointer (some xA)), (13, .bool false)] (fun w => by kernel_rfl) ?_
    refine N_end (by kernel_rfl) ?_
    refine S_then ?_
    refine S_condF (.tmp 13) seg_Mem_Mark.k10 seg_Mem_Mark.k11 (by kernel_rfl) (by kernel_rfl) ?_
    refine S_seq seg_Mem_Mark.k14 seg_Mem_Mark.k15 (by kernel_rfl) ?_
    refine S_region 4 (Code.ops seg_Mem_Mark.k14) (by kernel_rfl) ?_
    refine N_cut [(2, .int .i64 card), (3, .int .i64 mark), (9, .pointer (some xA)), (16, .bool ((((decide (card < 0)) || (decide (card ≥ 4))) || (decide (mark < 0))) || (decide (mark > 5))))] ?_ ?_
    · refine S_then ?_
      by_cases c7 : ((((decide (card < 0)) || (decide (card ≥ 4))) || (decide (mark < 0))) || (decide (mark > 5))) = true
      · rw [if_pos c7] at h
        have b8 : ((((decide (card < 0)) || (decide (card ≥ 4))) || (decide (mark < 0))) || (decide (mark > 5))) = true := c7
        refine S_env [(2, .int .i64 card), (3, .int .i64 mark), (9, .pointer (some xA)), (16, .bool true)] (by simp only [b8, Bool.not_true, Bool.not_false]) ?_
        clear b8
        refine S_condT (.tmp 16) seg_Mem_Mark.k16 seg_Mem_Mark.k17 (by kernel_rfl) (by kernel_rfl) ?_
        refine S_seq seg_Mem_Mark.k18 seg_Mem_Mark.k19 (by kernel_rfl) ?_
        refine S_region 5 (Code.ops seg_Mem_Mark.k18) (by kernel_rfl) ?_
        refine N_run 1 [(8, .int .i64 1)] (fun w => by kernel_rfl) ?_
        refine N_end (by kernel_rfl) ?_
        refine S_then ?_
        refine S_ret (by kernel_rfl) ?_
        show At _ _ _ _ (Q .ret)
        exact S_done (fn := Try.f91) [.int .i64 1] hQ (show ResOK _ _ _ [.tmp 8] _ from .tmp (by kernel_rfl) (.nil)) h
      · rw [if_neg c7] at h
        have b8 : ((((decide (card < 0)) || (decide (card ≥ 4))) || (decide (mark < 0))) || (decide (mark > 5))) = false := eq_false_of_ne_true c7
        refine S_env [(2, .int .i64 card), (3, .int .i64 mark), (9, .pointer (some xA)), (16, .bool false)] (by simp only [b8, Bool.not_true, Bool.not_false]) ?_
        clear b8
        refine S_condF (.tmp 16) seg_Mem_Mark.k16 seg_Mem_Mark.k17 (by kernel_rfl) (by kernel_rfl) ?_
        refine S_skip (by kernel_rfl) ?_
        refine S_blockEnd ?_
        refine S_then ?_
        refine S_seq seg_Mem_Mark.k20 seg_Mem_Mark.k21 (by kernel_rfl) ?_
        refine S_region 6 (Code.ops seg_Mem_Mark.k20) (by kernel_rfl) ?_
        refine N_run 6 [(32, .int .i64 card), (33, .int .i64 mark), (36, .pointer (some (xA.add 3)))] (fun w => by kernel_rfl) ?_
        obtain ⟨q9, h⟩ := h
        refine N_val (some 37) (indexAtN 125 (.pointer (some (xA.add 3))) (.int .i64 card)) (.pointer (some ((xA.add 3).add (Int.toNat card * 1)))) (fun w => by kernel_rfl) (fun w _ => indexArr_run (P := Try.prog) (t := 125) (elem := 3) (sz := 1) (n := 4) (a := (xA.add 3)) (k := .i64) (i := card) Try.underlying125 (fun w => by kernel_rfl) q9.1 q9.2 w) [(33, .int .i64 mark), (37, .pointer (some ((xA.add 3).add (Int.toNat card * 1))))] (ps (by kernel_rfl)) ?_
        obtain ⟨q11, h⟩ := h
        refine N_skipop none (storeN 3 (.pointer (some ((xA.add 3).add (Int.toNat card * 1)))) (.int .i64 mark)) (fun Hz => Hz = hputs H1 ((xA.add 3).add (Int.toNat card * 1)) [.int .i64 mark] 0) (fun w => by kernel_rfl) (ss_store [.int .i64 mark] 1 (by kernel_rfl) (by kernel_rfl) (fun w => by kernel_rfl) (by kernel_rfl) q11) ?_
        intro H2 e10
        replace h := h H2 e10
        refine ⟨[], ps (by kernel_rfl), ?_⟩
        refine N_end (by kernel_rfl) ?_
        refine S_then ?_
        refine S_seq seg_Mem_Mark.k22 seg_Mem_Mark.k23 (by kernel_rfl) ?_
        refine S_region 7 (Code.ops seg_Mem_Mark.k22) (by kernel_rfl) ?_
        refine N_run 1 [(8, .int .i64 0)] (fun w => by kernel_rfl) ?_
        refine N_end (by kernel_rfl) ?_
        refine S_then ?_
        refine S_ret (by kernel_rfl) ?_
        show At _ _ _ _ (Q .ret)
        exact S_done (fn := Try.f91) [.int .i64 0] hQ (show ResOK _ _ _ [.tmp 8] _ from .tmp (by kernel_rfl) (.nil)) h
    · intro hk
      refine N_run 3 [(2, .int .i64 card), (3, .int .i64 mark), (9, .pointer (some xA)), (19, .bool (decide (card < 0)))] (fun w => by kernel_rfl) ?_
      by_cases c1 : card < 0
      · have b2 : (decide (card < 0)) = true := decide_eq_true c1
        refine N_env [(2, .int .i64 card), (3, .int .i64 mark), (9, .pointer (some xA)), (19, .bool true)] (by simp only [b2, Bool.not_true, Bool.not_false]) ?_
        refine N_run 12 [(2, .int .i64 card), (3, .int .i64 mark), (9, .pointer (some xA)), (16, .bool true)] (fun w => by kernel_rfl) ?_
        refine N_end (by kernel_rfl) ?_
        refine S_env [(2, .int .i64 card), (3, .int .i64 mark), (9, .pointer (some xA)), (16, .bool ((((decide (card < 0)) || (decide (card ≥ 4))) || (decide (mark < 0))) || (decide (mark > 5))))] (by simp only [b2, Bool.true_or, Bool.false_or, Bool.or_true, Bool.or_false, Bool.true_and, Bool.false_and, Bool.and_true, Bool.and_false, Bool.not_true, Bool.not_false, cond_true, cond_false]) ?_
        exact hk
      · have b2 : (decide (card < 0)) = false := decide_eq_false c1
        refine N_env [(2, .int .i64 card), (3, .int .i64 mark), (9, .pointer (some xA)), (19, .bool false)] (by simp only [b2, Bool.not_true, Bool.not_false]) ?_
        refine N_run 4 [(2, .int .i64 card), (3, .int .i64 mark), (9, .pointer (some xA)), (23, .bool (decide (card ≥ 4)))] (fun w => by kernel_rfl) ?_
        by_cases c3 : card ≥ 4
        · have b4 : (decide (card ≥ 4)) = true := decide_eq_true c3
          refine N_env [(2, .int .i64 card), (3, .int .i64 mark), (9, .pointer (some xA)), (23, .bool true)] (by simp only [b4, Bool.not_true, Bool.not_false]) ?_
          refine N_run 8 [(2, .int .i64 card), (3, .int .i64 mark), (9, .pointer (some xA)), (16, .bool true)] (fun w => by kernel_rfl) ?_
          refine N_end (by kernel_rfl) ?_
          refine S_env [(2, .int .i64 card), (3, .int .i64 mark), (9, .pointer (some xA)), (16, .bool ((((decide (card < 0)) || (decide (card ≥ 4))) || (decide (mark < 0))) || (decide (mark > 5))))] (by simp only [b2, b4, Bool.true_or, Bool.false_or, Bool.or_true, Bool.or_false, Bool.true_and, Bool.false_and, Bool.and_true, Bool.and_false, Bool.not_true, Bool.not_false, cond_true, cond_false]) ?_
          exact hk
        · have b4 : (decide (card ≥ 4)) = false := decide_eq_false c3
          refine N_env [(2, .int .i64 card), (3, .int .i64 mark), (9, .pointer (some xA)), (23, .bool false)] (by simp only [b4, Bool.not_true, Bool.not_false]) ?_
          refine N_run 4 [(2, .int .i64 card), (3, .int .i64 mark), (9, .pointer (some xA)), (27, .bool (decide (mark < 0)))] (fun w => by kernel_rfl) ?_
          by_cases c5 : mark < 0
          · have b6 : (decide (mark < 0)) = true := decide_eq_true c5
            refine N_env [(2, .int .i64 card), (3, .int .i64 mark), (9, .pointer (some xA)), (27, .bool true)] (by simp only [b6, Bool.not_true, Bool.not_false]) ?_
            refine N_run 4 [(2, .int .i64 card), (3, .int .i64 mark), (9, .pointer (some xA)), (16, .bool true)] (fun w => by kernel_rfl) ?_
            refine N_end (by kernel_rfl) ?_
            refine S_env [(2, .int .i64 card), (3, .int .i64 mark), (9, .pointer (some xA)), (16, .bool ((((decide (card < 0)) || (decide (card ≥ 4))) || (decide (mark < 0))) || (decide (mark > 5))))] (by simp only [b2, b4, b6, Bool.true_or, Bool.false_or, Bool.or_true, Bool.or_false, Bool.true_and, Bool.false_and, Bool.and_true, Bool.and_false, Bool.not_true, Bool.not_false, cond_true, cond_false]) ?_
            exact hk
          · have b6 : (decide (mark < 0)) = false := decide_eq_false c5
            refine N_env [(2, .int .i64 card), (3, .int .i64 mark), (9, .pointer (some xA)), (27, .bool false)] (by simp only [b6, Bool.not_true, Bool.not_false]) ?_
            refine N_run 4 [(2, .int .i64 card), (3, .int .i64 mark), (9, .pointer (some xA)), (16, .bool (decide (mark > 5)))] (fun w => by kernel_rfl) ?_
            refine N_end (by kernel_rfl) ?_
            refine S_env [(2, .int .i64 card), (3, .int .i64 mark), (9, .pointer (some xA)), (16, .bool ((((decide (card < 0)) || (decide (card ≥ 4))) || (decide (mark < 0))) || (decide (mark > 5))))] (by simp only [b2, b4, b6, Bool.true_or, Bool.false_or, Bool.or_true, Bool.or_false, Bool.true_and, Bool.false_and, Bool.and_true, Bool.and_false, Bool.not_true, Bool.not_false, cond_true, cond_false]) ?_
            exact hk

/-! (*moraine/seg.Mem).word -/
noncomputable def seg_Mem_word.k0 : Code := Func.code Try.f95
noncomputable def seg_Mem_word.k1 : Code := Code.fa seg_Mem_word.k0
noncomputable def seg_Mem_word.k2 : Code := Code.fb seg_Mem_word.k0
noncomputable def seg_Mem_word.k3 : Code := Code.fa seg_Mem_word.k2
noncomputable def seg_Mem_word.k4 : Code := Code.fb seg_Mem_word.k2
noncomputable def seg_Mem_word.k5 : Code := Code.fa seg_Mem_word.k3
noncomputable def seg_Mem_word.k6 : Code := Code.fb seg_Mem_word.k3
noncomputable def seg_Mem_word.k7 : Code := Code.fa seg_Mem_word.k6
noncomputable def seg_Mem_word.k8 : Code := Code.fb seg_Mem_word.k6
noncomputable def seg_Mem_word.k9 : Code := Code.fa seg_Mem_word.k7
noncomputable def seg_Mem_word.k10 : Code := Code.fb seg_Mem_word.k7
noncomputable def seg_Mem_word.k11 : Code := Code.fa seg_Mem_word.k4
noncomputable def seg_Mem_word.k12 : Code := Code.fb seg_Mem_word.k4
noncomputable def seg_Mem_word.k13 : Code := Code.fa seg_Mem_word.k12
noncomputable def seg_Mem_word.k14 : Code := Code.fb seg_Mem_word.k12
noncomputable def seg_Mem_word.k15 : Code := Code.fa seg_Mem_word.k13
noncomputable def seg_Mem_word.k16 : Code := Code.fb seg_Mem_word.k13
noncomputable def seg_Mem_word.k17 : Code := Code.fa seg_Mem_word.k16
noncomputable def seg_Mem_word.k18 : Code := Code.fb seg_Mem_word.k16
noncomputable def seg_Mem_word.k19 : Code := Code.fa seg_Mem_word.k17
noncomputable def seg_Mem_word.k20 : Code := Code.fb seg_Mem_word.k17
noncomputable def seg_Mem_word.k21 : Code := Code.fa seg_Mem_word.k14
noncomputable def seg_Mem_word.k22 : Code := Code.fb seg_Mem_word.k14
def seg_Mem_word.pt (m : Option Addr) (addr : Int) (H : Array Obj) (R : Value → Array Obj → Prop) : Prop :=
 if addr < 0 then (
  R (.pointer none) H)
 else
 seg_Mem_at.C m (IntKind.wrap .i64 (Int.tdiv addr 64)) H (fun v H1 => ∃ x : Option Addr, v = .pointer x ∧ 
  onPtr x (
   R (.pointer none) H1) (fun xA =>
   ∃ x_2 : Int, hat H1 (xA.add 2) = some (.int .i64 x_2) ∧
   if (Int.tmod addr 64) ≥ x_2 then (
    R (.pointer none) H1)
   else
   ((0 : Int) ≤ (Int.tmod addr 64) ∧ (Int.tmod addr 64) < (64 : Int)) ∧
   R (.pointer (some ((xA.add 8).add (Int.toNat (Int.tmod addr 64) * 1)))) H1))
set_option maxRecDepth 100000 in
theorem seg_Mem_word.link {m : Option Addr} {addr : Int} {H : Array Obj} {R : Value → Array Obj → Prop} (h : seg_Mem_word.pt m addr H R) : seg_Mem_word.C m addr H R := by
  refine S_enter (fn := Try.f95) (c := seg_Mem_word.k0) 30 Try.func95 (by kernel_rfl) (by kernel_rfl) (Nat.le_of_ble_eq_true (by kernel_rfl)) ?_
  intro w0 Q hQ
  unfold seg_Mem_word.pt at h
  refine S_sub [(0, .pointer m), (1, .int .i64 addr)] (sb (by kernel_rfl)) ?_
  refine S_seq seg_Mem_word.k1 seg_Mem_word.k2 (by kernel_rfl) ?_
  refine S_region 0 (Code.ops seg_Mem_word.k1) (by kernel_rfl) ?_
  refine N_run 1 [(0, .pointer m), (1, .int .i64 addr)] (fun w => by kernel_rfl) ?_
  refine N_end (by kernel_rfl) ?_
  refine S_then ?_
  refine S_seq seg_Mem_word.k3 seg_Mem_word.k4 (by kernel_rfl) ?_
  refine S_seq seg_Mem_word.k5 seg_Mem_word.k6 (by kernel_rfl) ?_
  refine S_region 1 (Code.ops seg_Mem_word.k5) (by kernel_rfl) ?_
  refine N_run 2 [(0, .pointer m), (1, .int .i64 addr), (7, .bool (decide (addr < 0)))] (fun w => by kernel_rfl) ?_
  refine N_end (by kernel_rfl) ?_
  refine S_then ?_
  by_cases c1 : addr < 0
  · rw [if_pos c1] at h
    have b2 : (decide (addr < 0)) = true := decide_eq_true c1
    refine S_env [(0, .pointer m), (1, .int .i64 addr), (7, .bool true)] (by simp only [b2, Bool.not_true, Bool.not_false]) ?_
    clear b2
    refine S_condT (.tmp 7) seg_Mem_word.k7 seg_Mem_word.k8 (by kernel_rfl) (by kernel_rfl) ?_
    refine S_seq seg_Mem_word.k9 seg_Mem_word.k10 (by kernel_rfl) ?_
    refine S_region 2 (Code.ops seg_Mem_word.k9) (by kernel_rfl) ?_
    refine N_run 1 [(4, .pointer none)] (fun w => by kernel_rfl) ?_
    refine N_end (by kernel_rfl) ?_
    refine S_then ?_
    refine S_ret (by kernel_rfl) ?_
    show At _ _ _ _ (Q .ret)
    exact S_done (fn := Try.f95) [.pointer none] hQ (show ResOK _ _ _ [.tmp 4] _ from .tmp (by kernel_rfl) (.nil)) h
  · rw [if_neg c1] at h
    have b2 : (decide (addr < 0)) = false := decide_eq_false c1
    refine S_env [(0, .pointer m), (1, .int .i64 addr), (7, .bool false)] (by simp only [b2, Bool.not_true, Bool.not_false]) ?_
    clear b2
    refine S_condF (.tmp 7) seg_Mem_word.k7 seg_Mem_word.k8 (by kernel_rfl) (by kernel_rfl) ?_
    refine S_skip (by kernel_rfl) ?_
    refine S_then ?_
    refine S_seq seg_Mem_word.k11 seg_Mem_word.k12 (by kernel_rfl) ?_
    refine S_region 3 (Code.ops seg_Mem_word.k11) (by kernel_rfl) ?_
    refine N_run 3 [(1, .int .i64 addr), (8, .pointer m), (10, .int .i64 (IntKind.wrap .i64 (Int.tdiv addr 64)))] (fun w => by kernel_rfl) ?_
    refine N_call (some 11) 101 #[.pointer m, .int .i64 (IntKind.wrap .i64 (Int.tdiv addr 64))] (fun w => by kernel_rfl) h ?_; clear h
    rintro v H1 ⟨x, rfl, h⟩
    refine ⟨[(1, .int .i64 addr), (11, .pointer x)], ps (by kernel_rfl), ?_⟩
    refine N_run 1 [(1, .int .i64 addr), (5, .pointer x)] (fun w => by kernel_rfl) ?_
    refine N_end (by kernel_rfl) ?_
    refine S_then ?_
    refine S_seq seg_Mem_word.k13 seg_Mem_word.k14 (by kernel_rfl) ?_
    refine S_seq seg_Mem_word.k15 seg_Mem_word.k16 (by kernel_rfl) ?_
    refine S_region 4 (Code.ops seg_Mem_word.k15) (by kernel_rfl) ?_
    refine N_run 1 [(1, .int .i64 addr), (5, .pointer x), (12, .pointer x)] (fun w => by kernel_rfl) ?_
    rcases x with _ | xA
    · rw [onPtr_none] at h
      refine N_run 11 [(1, .int .i64 addr), (5, .pointer none), (23, .bool true)] (fun w => by kernel_rfl) ?_
      refine N_end (by kernel_rfl) ?_
      refine S_then ?_
      refine S_condT (.tmp 23) seg_Mem_word.k17 seg_Mem_word.k18 (by kernel_rfl) (by kernel_rfl) ?_
      refine S_seq seg_Mem_word.k19 seg_Mem_word.k20 (by kernel_rfl) ?_
      refine S_region 5 (Code.ops seg_Mem_word.k19) (by kernel_rfl) ?_
      refine N_run 1 [(4, .pointer none)] (fun w => by kernel_rfl) ?_
      refine N_end (by kernel_rfl) ?_
      refine S_then ?_
      refine S_ret (by kernel_rfl) ?_
      show At _ _ _ _ (Q .ret)
      exact S_done (fn := Try.f95) [.pointer none] hQ (show ResOK _ _ _ [.tmp 4] _ from .tmp (by kernel_rfl) (.nil)) h
    · rw [onPtr_some] at h
      refine N_run 8 [(1, .int .i64 addr), (5, .pointer (some xA)), (14, .bool false), (16, .int .i64 (Int.tmod addr 64)), (20, .pointer (some (xA.add 2)))] (fun w => by kernel_rfl) ?_
      obtain ⟨x_2, q3, h⟩ := h
      refine N_val (some 21) (loadN 3 (.pointer (some (xA.add 2)))) (.int .i64 x_2) (fun w => by kernel_rfl) (loadN_run (loadOK_one (fun w => by kernel_rfl) q3)) [(1, .int .i64 addr), (5, .pointer (some xA)), (14, .bool false), (16, .int .i64 (Int.tmod addr 64)), (21, .int .i64 x_2)] (ps (by kernel_rfl)) ?_
      refine N_run 2 [(1, .int .i64 addr), (5, .pointer (some xA)), (23, .bool (decide ((Int.tmod addr 64) ≥ x_2)))] (fun w => by kernel_rfl) ?_
      refine N_end (by kernel_rfl) ?_
      refine S_then ?_
      by_cases c4 : (Int.tmod addr 64) ≥ x_2
      · rw [if_pos c4] at h
        have b5 : (decide ((Int.tmod addr 64) ≥ x_2)) = true := decide_eq_true c4
        refine S_env [(1, .int .i64 addr), (5, .pointer (some xA)), (23, .bool true)] (by simp only [b5, Bool.not_true, Bool.not_false]) ?_
        clear b5
        refine S_condT (.tmp 23) seg_Mem_word.k17 seg_Mem_word.k18 (by kernel_rfl) (by kernel_rfl) ?_
        refine S_seq seg_Mem_word.k19 seg_Mem_word.k20 (by kernel_rfl) ?_
        refine S_region 5 (Code.ops seg_Mem_word.k19) (by kernel_rfl) ?_
        refine N_run 1 [(4, .pointer none)] (fun w => by kernel_rfl) ?_
        refine N_end (by kernel_rfl) ?_
        refine S_then ?_
        refine S_ret (by kernel_rfl) ?_
        show At _ _ _ _ (Q .ret)
        exact S_done (fn := Try.f95) [.pointer none] hQ (show ResOK _ _ _ [.tmp 4] _ from .tmp (by kernel_rfl) (.nil)) h
      · rw [if_neg c4] at h
        have b5 : (decide ((Int.tmod addr 64) ≥ x_2)) = false := decide_eq_false c4
        refine S_env [(1, .int .i64 addr), (5, .pointer (some xA)), (23, .bool false)] (by simp only [b5, Bool.not_true, Bool.not_false]) ?_
        clear b5
        refine S_condF (.tmp 23) seg_Mem_word.k17 seg_Mem_word.k18 (by kernel_rfl) (by kernel_rfl) ?_
        refine S_skip (by kernel_rfl) ?_
        refine S_then ?_
        refine S_seq seg_Mem_word.k21 seg_Mem_word.k22 (by kernel_rfl) ?_
        refine S_region 6 (Code.ops seg_Mem_word.k21) (by kernel_rfl) ?_
        refine N_run 5 [(26, .int .i64 (Int.tmod addr 64)), (28, .pointer (some (xA.add 8)))] (fun w => by kernel_rfl) ?_
        obtain ⟨q6, h⟩ := h
        refine N_val (some 29) (indexAtN 166 (.pointer (some (xA.add 8))) (.int .i64 (Int.tmod addr 64))) (.pointer (some ((xA.add 8).add (Int.toNat (Int.tmod addr 64) * 1)))) (fun w => by kernel_rfl) (fun w _ => indexArr_run (P := Try.prog) (t := 166) (elem := 29) (sz := 1) (n := 64) (a := (xA.add 8)) (k := .i64) (i := (Int.tmod addr 64)) Try.underlying166 (fun w => by kernel_rfl) q6.1 q6.2 w) [(29, .pointer (some ((xA.add 8).add (Int.toNat (Int.tmod addr 64) * 1))))] (ps (by kernel_rfl)) ?_
        refine N_run 1 [(4, .pointer (some ((xA.add 8).add (Int.toNat (Int.tmod addr 64) * 1))))] (fun w => by kernel_rfl) ?_
        refine N_end (by kernel_rfl) ?_
        refine S_then ?_
        refine S_ret (by kernel_rfl) ?_
        show At _ _ _ _ (Q .ret)
        exact S_done (fn := Try.f95) [.pointer (some ((xA.add 8).add (Int.toNat (Int.tmod addr 64) * 1)))] hQ (show ResOK _ _ _ [.tmp 4] _ from .tmp (by kernel_rfl) (.nil)) h

/-! (*moraine/seg.Mem).at -/
noncomputable def seg_Mem_at.k0 : Code := Func.code Try.f101
noncomputable def seg_Mem_at.k1 : Code := Code.fa seg_Mem_at.k0
noncomputable def seg_Mem_at.k2 : Code := Code.fb seg_Mem_at.k0
noncomputable def seg_Mem_at.k3 : Code := Code.fa seg_Mem_at.k2
noncomputable def seg_Mem_at.k4 : Code := Code.fb seg_Mem_at.k2
noncomputable def seg_Mem_at.k5 : Code := Code.fa seg_Mem_at.k3
noncomputable def seg_Mem_at.k6 : Code := Code.fb seg_Mem_at.k3
noncomputable def seg_Mem_at.k7 : Code := Code.fa seg_Mem_at.k6
noncomputable def seg_Mem_at.k8 : Code := Code.fb seg_Mem_at.k6
noncomputable def seg_Mem_at.k9 : Code := Code.fa seg_Mem_at.k7
noncomputable def seg_Mem_at.k10 : Code := Code.fb seg_Mem_at.k7
noncomputable def seg_Mem_at.k11 : Code := Code.fa seg_Mem_at.k4
noncomputable def seg_Mem_at.k12 : Code := Code.fb seg_Mem_at.k4
def seg_Mem_at.pt (m : Option Addr) (seg : Int) (H : Array Obj) (R : Value → Array Obj → Prop) : Prop :=
 onPtr m (
  R (.pointer none) H) (fun mA =>
  if seg < 0 then (
   R (.pointer none) H)
  else
  ∃ xB : Option Addr, ∃ xN : Nat, ∃ xC : Nat, hat H mA = some (.slice xB xN xC) ∧
  if seg ≥ (xN : Int) then (
   R (.pointer none) H)
  else
  ∃ xB_2 : Option Addr, ∃ xN_2 : Nat, ∃ xC_2 : Nat, hat H mA = some (.slice xB_2 xN_2 xC_2) ∧
  ∃ xB2A : Addr, xB_2 = some xB2A ∧
  ((0 : Int) ≤ seg ∧ seg < (xN_2 : Int)) ∧
  ∃ x : Int, hat H ((xB2A.add (Int.toNat seg * 72)).add 7) = some (.int .i64 x) ∧
  if x = 0 then (
   R (.pointer none) H)
  else
  ∃ xB_3 : Option Addr, ∃ xN_3 : Nat, ∃ xC_3 : Nat, hat H mA = some (.slice xB_3 xN_3 xC_3) ∧
  ∃ xB3A : Addr, xB_3 = some xB3A ∧
  ((0 : Int) ≤ seg ∧ seg < (xN_3 : Int)) ∧
  R (.pointer (some (xB3A.add (Int.toNat seg * 72)))) H)
set_option maxRecDepth 100000 in
theorem seg_Mem_at.link {m : Option Addr} {seg : Int} {H : Array Obj} {R : Value → Array Obj → Prop} (h : seg_Mem_at.pt m seg H R) : seg_Mem_at.C m seg H R := by
  refine S_enter (fn := Try.f101) (c := seg_Mem_at.k0) 37 Try.func101 (by kernel_rfl) (by kernel_rfl) (Nat.le_of_ble_eq_true (by kernel_rfl)) ?_
  intro w0 Q hQ
  unfold seg_Mem_at.pt at h
  refine S_sub [(0, .pointer m), (1, .int .i64 seg)] (sb (by kernel_rfl)) ?_
  refine S_seq seg_Mem_at.k1 seg_Mem_at.k2 (by kernel_rfl) ?_
  refine S_region 0 (Code.ops seg_Mem_at.k1) (by kernel_rfl) ?_
  refine N_run 1 [(0, .pointer m), (1, .int .i64 seg)] (fun w => by kernel_rfl) ?_
  refine N_end (by kernel_rfl) ?_
  refine S_then ?_
  refine S_seq seg_Mem_at.k3 seg_Mem_at.k4 (by kernel_rfl) ?_
  refine S_seq seg_Mem_at.k5 seg_Mem_at.k6 (by kernel_rfl) ?_
  refine S_region 1 (Code.ops seg_Mem_at.k5) (by kernel_rfl) ?_
  refine N_run 1 [(0, .pointer m), (1, .int .i64 seg), (5, .pointer m)] (fun w => by kernel_rfl) ?_
  rcases m with _ | mA
  · rw [onPtr_none] at h
    refine N_run 25 [(0, .pointer none), (1, .int .i64 seg), (30, .bool true)] (fun w => by kernel_rfl) ?_
    refine N_end (by kernel_rfl) ?_
    refine S_then ?_
    refine S_condT (.tmp 30) seg_Mem_at.k7 seg_Mem_at.k8 (by kernel_rfl) (by kernel_rfl) ?_
    refine S_seq seg_Mem_at.k9 seg_Mem_at.k10 (by kernel_rfl) ?_
    refine S_region 2 (Code.ops seg_Mem_at.k9) (by kernel_rfl) ?_
    refine N_run 1 [(4, .pointer none)] (fun w => by kernel_rfl) ?_
    refine N_end (by kernel_rfl) ?_
    refine S_then ?_
    refine S_ret (by kernel_rfl) ?_
    show At _ _ _ _ (Q .ret)
    exact S_done (fn := Try.f101) [.pointer none] hQ (show ResOK _ _ _ [.tmp 4] _ from .tmp (by kernel_rfl) (.nil)) h
  · rw [onPtr_some] at h
    refine N_run 6 [(0, .pointer (some mA)), (1, .int .i64 seg), (11, .bool (decide (seg < 0)))] (fun w => by kernel_rfl) ?_
    by_cases c1 : seg < 0
    · rw [if_pos c1] at h
      have b2 : (decide (seg < 0)) = true := decide_eq_true c1
      refine N_env [(0, .pointer (some mA)), (1, .int .i64 seg), (11, .bool true)] (by simp only [b2, Bool.not_true, Bool.not_false]) ?_
      clear b2
      refine N_run 19 [(0, .pointer (some mA)), (1, .int .i64 seg), (30, .bool true)] (fun w => by kernel_rfl) ?_
      refine N_end (by kernel_rfl) ?_
      refine S_then ?_
      refine S_condT (.tmp 30) seg_Mem_at.k7 seg_Mem_at.k8 (by kernel_rfl) (by kernel_rfl) ?_
      refine S_seq seg_Mem_at.k9 seg_Mem_at.k10 (by kernel_rfl) ?_
      refine S_region 2 (Code.ops seg_Mem_at.k9) (by kernel_rfl) ?_
      refine N_run 1 [(4, .pointer none)] (fun w => by kernel_rfl) ?_
      refine N_end (by kernel_rfl) ?_
      refine S_then ?_
      refine S_ret (by kernel_rfl) ?_
      show At _ _ _ _ (Q .ret)
      exact S_done (fn := Try.f101) [.pointer none] hQ (show ResOK _ _ _ [.tmp 4] _ from .tmp (by kernel_rfl) (.nil)) h
    · rw [if_neg c1] at h
      have b2 : (decide (seg < 0)) = false := decide_eq_false c1
      refine N_env [(0, .pointer (some mA)), (1, .int .i64 seg), (11, .bool false)] (by simp only [b2, Bool.not_true, Bool.not_false]) ?_
      clear b2
      refine N_run 4 [(0, .pointer (some mA)), (1, .int .i64 seg), (11, .bool false), (12, .int .i64 seg), (15, .pointer (some mA))] (fun w => by kernel_rfl) ?_
      obtain ⟨xB, xN, xC, q3, h⟩ := h
      refine N_val (some 16) (loadN 169 (.pointer (some mA))) (.slice xB xN xC) (fun w => by kernel_rfl) (loadN_run (loadOK_one (fun w => by kernel_rfl) q3)) [(0, .pointer (some mA)), (1, .int .i64 seg), (11, .bool false), (12, .int .i64 seg), (16, .slice xB xN xC)] (ps (by kernel_rfl)) ?_
      refine N_run 4 [(0, .pointer (some mA)), (1, .int .i64 seg), (20, .bool (decide (seg ≥ (xN : Int))))] (fun w => by kernel_rfl) ?_
      by_cases c4 : seg ≥ (xN : Int)
      · rw [if_pos c4] at h
        have b5 : (decide (seg ≥ (xN : Int))) = true := decide_eq_true c4
        refine N_env [(0, .pointer (some mA)), (1, .int .i64 seg), (20, .bool true)] (by simp only [b5, Bool.not_true, Bool.not_false]) ?_
        clear b5
        refine N_run 10 [(0, .pointer (some mA)), (1, .int .i64 seg), (30, .bool true)] (fun w => by kernel_rfl) ?_
        refine N_end (by kernel_rfl) ?_
        refine S_then ?_
        refine S_condT (.tmp 30) seg_Mem_at.k7 seg_Mem_at.k8 (by kernel_rfl) (by kernel_rfl) ?_
        refine S_seq seg_Mem_at.k9 seg_Mem_at.k10 (by kernel_rfl) ?_
        refine S_region 2 (Code.ops seg_Mem_at.k9) (by kernel_rfl) ?_
        refine N_run 1 [(4, .pointer none)] (fun w => by kernel_rfl) ?_
        refine N_end (by kernel_rfl) ?_
        refine S_then ?_
        refine S_ret (by kernel_rfl) ?_
        show At _ _ _ _ (Q .ret)
        exact S_done (fn := Try.f101) [.pointer none] hQ (show ResOK _ _ _ [.tmp 4] _ from .tmp (by kernel_rfl) (.nil)) h
      · rw [if_neg c4] at h
        have b5 : (decide (seg ≥ (xN : Int))) = false := decide_eq_false c4
        refine N_env [(0, .pointer (some mA)), (1, .int .i64 seg), (20, .bool false)] (by simp only [b5, Bool.not_true, Bool.not_false]) ?_
        clear b5
        refine N_run 3 [(0, .pointer (some mA)), (1, .int .i64 seg), (20, .bool false), (23, .pointer (some mA))] (fun w => by kernel_rfl) ?_
        obtain ⟨xB_2, xN_2, xC_2, q6, h⟩ := h
        refine N_val (some 24) (loadN 169 (.pointer (some mA))) (.slice xB_2 xN_2 xC_2) (fun w => by kernel_rfl) (loadN_run (loadOK_one (fun w => by kernel_rfl) q6)) [(0, .pointer (some mA)), (1, .int .i64 seg), (20, .bool false), (24, .slice xB_2 xN_2 xC_2)] (ps (by kernel_rfl)) ?_
        refine N_run 1 [(0, .pointer (some mA)), (1, .int .i64 seg), (20, .bool false), (24, .slice xB_2 xN_2 xC_2), (25, .int .i64 seg)] (fun w => by kernel_rfl) ?_
        obtain ⟨xB2A, rfl, h⟩ := h
        obtain ⟨q7, h⟩ := h
        refine N_val (some 26) (indexAtN 169 (.slice (some xB2A) xN_2 xC_2) (.int .i64 seg)) (.pointer (some (xB2A.add (Int.toNat seg * 72)))) (fun w => by kernel_rfl) (fun w _ => indexAt_run (P := Try.prog) (t := 169) (elem := 168) (sz := 72) (a := xB2A) (len := xN_2) (cap := xC_2) (k := .i64) (i := seg) Try.underlying169 (fun w => by kernel_rfl) q7.1 q7.2 w) [(0, .pointer (some mA)), (1, .int .i64 seg), (20, .bool false), (26, .pointer (some (xB2A.add (Int.toNat seg * 72))))] (ps (by kernel_rfl)) ?_
        refine N_run 1 [(0, .pointer (some mA)), (1, .int .i64 seg), (20, .bool false), (27, .pointer (some ((xB2A.add (Int.toNat seg * 72)).add 7)))] (fun w => by kernel_rfl) ?_
        obtain ⟨x, q8, h⟩ := h
        refine N_val (some 28) (loadN 3 (.pointer (some ((xB2A.add (Int.toNat seg * 72)).add 7)))) (.int .i64 x) (fun w => by kernel_rfl) (loadN_run (loadOK_one (fun w => by kernel_rfl) q8)) [(0, .pointer (some mA)), (1, .int .i64 seg), (20, .bool false), (28, .int .i64 x)] (ps (by kernel_rfl)) ?_
        refine N_run 2 [(0, .pointer (some mA)), (1, .int .i64 seg), (30, .bool (x == 0))] (fun w => by kernel_rfl) ?_
        refine N_end (by kernel_rfl) ?_
        refine S_then ?_
        by_cases c9 : x = 0
        · rw [if_pos c9] at h
          have b10 : (x == 0) = true := beq_iff_eq.mpr c9
          refine S_env [(0, .pointer (some mA)), (1, .int .i64 seg), (30, .bool true)] (by simp only [b10, Bool.not_true, Bool.not_false]) ?_
          clear b10
          refine S_condT (.tmp 30) seg_Mem_at.k7 seg_Mem_at.k8 (by kernel_rfl) (by kernel_rfl) ?_
          refine S_seq seg_Mem_at.k9 seg_Mem_at.k10 (by kernel_rfl) ?_
          refine S_region 2 (Code.ops seg_Mem_at.k9) (by kernel_rfl) ?_
          refine N_run 1 [(4, .pointer none)] (fun w => by kernel_rfl) ?_
          refine N_end (by kernel_rfl) ?_
          refine S_then ?_
          refine S_ret (by kernel_rfl) ?_
          show At _ _ _ _ (Q .ret)
          exact S_done (fn := Try.f101) [.pointer none] hQ (show ResOK _ _ _ [.tmp 4] _ from .tmp (by kernel_rfl) (.nil)) h
        · rw [if_neg c9] at h
          have b10 : (x == 0) = false := beq_eq_false_iff_ne.mpr c9
          refine S_env [(0, .pointer (some mA)), (1, .int .i64 seg), (30, .bool false)] (by simp only [b10, Bool.not_true, Bool.not_false]) ?_
          clear b10
          refine S_condF (.tmp 30) seg_Mem_at.k7 seg_Mem_at.k8 (by kernel_rfl) (by kernel_rfl) ?_
          refine S_skip (by kernel_rfl) ?_
          refine S_then ?_
          refine S_seq seg_Mem_at.k11 seg_Mem_at.k12 (by kernel_rfl) ?_
          refine S_region 3 (Code.ops seg_Mem_at.k11) (by kernel_rfl) ?_
          refine N_run 3 [(1, .int .i64 seg), (33, .pointer (some mA))] (fun w => by kernel_rfl) ?_
          obtain ⟨xB_3, xN_3, xC_3, q11, h⟩ := h
          refine N_val (some 34) (loadN 169 (.pointer (some mA))) (.slice xB_3 xN_3 xC_3) (fun w => by kernel_rfl) (loadN_run (loadOK_one (fun w => by kernel_rfl) q11)) [(1, .int .i64 seg), (34, .slice xB_3 xN_3 xC_3)] (ps (by kernel_rfl)) ?_
          refine N_run 1 [(34, .slice xB_3 xN_3 xC_3), (35, .int .i64 seg)] (fun w => by kernel_rfl) ?_
          obtain ⟨xB3A, rfl, h⟩ := h
          obtain ⟨q12, h⟩ := h
          refine N_val (some 36) (indexAtN 169 (.slice (some xB3A) xN_3 xC_3) (.int .i64 seg)) (.pointer (some (xB3A.add (Int.toNat seg * 72)))) (fun w => by kernel_rfl) (fun w _ => indexAt_run (P := Try.prog) (t := 169) (elem := 168) (sz := 72) (a := xB3A) (len := xN_3) (cap := xC_3) (k := .i64) (i := seg) Try.underlying169 (fun w => by kernel_rfl) q12.1 q12.2 w) [(36, .pointer (some (xB3A.add (Int.toNat seg * 72))))] (ps (by kernel_rfl)) ?_
          refine N_run 1 [(4, .pointer (some (xB3A.add (Int.toNat seg * 72))))] (fun w => by kernel_rfl) ?_
          refine N_end (by kernel_rfl) ?_
          refine S_then ?_
          refine S_ret (by kernel_rfl) ?_
          show At _ _ _ _ (Q .ret)
          exact S_done (fn := Try.f101) [.pointer (some (xB3A.add (Int.toNat seg * 72)))] hQ (show ResOK _ _ _ [.tmp 4] _ from .tmp (by kernel_rfl) (.nil)) h

/-! (*moraine/seg.Mem).Taken.1 -/
noncomputable def seg_Mem_Taken_1.k0 : Code := Func.code Try.f104
noncomputable def seg_Mem_Taken_1.k1 : Code := Code.fa seg_Mem_Taken_1.k0
noncomputable def seg_Mem_Taken_1.k2 : Code := Code.fb seg_Mem_Taken_1.k0
noncomputable def seg_Mem_Taken_1.k3 : Code := Code.fa seg_Mem_Taken_1.k2
noncomputable def seg_Mem_Taken_1.k4 : Code := Code.fb seg_Mem_Taken_1.k2
def seg_Mem_Taken_1.pt (a : Int) (b : Int) (cap0 : Option Addr) (H : Array Obj) (R : Value → Array Obj → Prop) : Prop :=
 ∃ cap0A : Addr, cap0 = some cap0A ∧
 ∃ x : Option Addr, hat H cap0A = some (.pointer x) ∧
 ∃ xA : Addr, x = some xA ∧
 ∃ xB : Option Addr, ∃ xN : Nat, ∃ xC : Nat, hat H xA = some (.slice xB xN xC) ∧
 ∃ xBA : Addr, xB = some xBA ∧
 ((0 : Int) ≤ a ∧ a < (xN : Int)) ∧
 ∃ x_2 : Int, hat H ((xBA.add (Int.toNat a * 72)).add 7) = some (.int .i64 x_2) ∧
 ∃ x_3 : Option Addr, hat H cap0A = some (.pointer x_3) ∧
 ∃ x3A : Addr, x_3 = some x3A ∧
 ∃ xB_2 : Option Addr, ∃ xN_2 : Nat, ∃ xC_2 : Nat, hat H x3A = some (.slice xB_2 xN_2 xC_2) ∧
 ∃ xB2A : Addr, xB_2 = some xB2A ∧
 ((0 : Int) ≤ b ∧ b < (xN_2 : Int)) ∧
 ∃ x_4 : Int, hat H ((xB2A.add (Int.toNat b * 72)).add 7) = some (.int .i64 x_4) ∧
 cmp_Compare_int.C x_2 x_4 H (fun v H1 => ∃ x_5 : Int, v = .int .i64 x_5 ∧ 
  R (.int .i64 x_5) H1)
set_option maxRecDepth 100000 in
theorem seg_Mem_Taken_1.link {a : Int} {b : Int} {cap0 : Option Addr} {H : Array Obj} {R : Value → Array Obj → Prop} (h : seg_Mem_Taken_1.pt a b cap0 H R) : seg_Mem_Taken_1.C a b cap0 H R := by
  refine S_enter (fn := Try.f104) (c := seg_Mem_Taken_1.k0) 23 Try.func104 (by kernel_rfl) (by kernel_rfl) (Nat.le_of_ble_eq_true (by kernel_rfl)) ?_
  intro w0 Q hQ
  unfold seg_Mem_Taken_1.pt at h
  refine S_sub [(0, .int .i64 a), (1, .int .i64 b), (2, .pointer cap0)] (sb (by kernel_rfl)) ?_
  refine S_seq seg_Mem_Taken_1.k1 seg_Mem_Taken_1.k2 (by kernel_rfl) ?_
  refine S_region 0 (Code.ops seg_Mem_Taken_1.k1) (by kernel_rfl) ?_
  refine N_run 1 [(0, .int .i64 a), (1, .int .i64 b), (2, .pointer cap0)] (fun w => by kernel_rfl) ?_
  refine N_end (by kernel_rfl) ?_
  refine S_then ?_
  refine S_seq seg_Mem_Taken_1.k3 seg_Mem_Taken_1.k4 (by kernel_rfl) ?_
  obtain ⟨cap0A, rfl, h⟩ := h
  obtain ⟨x, q1, h⟩ := h
  obtain ⟨xA, rfl, h⟩ := h
  obtain ⟨xB, xN, xC, q2, h⟩ := h
  obtain ⟨xBA, rfl, h⟩ := h
  obtain ⟨q3, h⟩ := h
  obtain ⟨x_2, q4, h⟩ := h
  obtain ⟨x_3, q5, h⟩ := h
  obtain ⟨x3A, rfl, h⟩ := h
  obtain ⟨xB_2, xN_2, xC_2, q6, h⟩ := h
  obtain ⟨xB2A, rfl, h⟩ := h
  obtain ⟨q7, h⟩ := h
  obtain ⟨x_4, q8, h⟩ := h
  refine S_regionG 1 (Code.ops seg_Mem_Taken_1.k3) [(16, cap0A, [.pointer (some xA)]), (16, xA, [.slice (some xBA) xN xC]), (16, ((xBA.add (Int.toNat a * 72)).add 7), [.int .i64 x_2]), (16, cap0A, [.pointer (some x3A)]), (16, x3A, [.slice (some xB2A) xN_2 xC_2]), (16, ((xB2A.add (Int.toNat b * 72)).add 7), [.int .i64 x_4])] 18 #[false, false, false, false, false, false, false, false, false, false, false, false, false, false, false, false, false, false] (by kernel_rfl) (by kernel_rfl) (by kernel_rfl) (by kernel_rfl) (by kernel_rfl) (show FactsAt _ _ _ from ⟨⟨q1, trivial⟩, ⟨q2, trivial⟩, ⟨q4, trivial⟩, ⟨q5, trivial⟩, ⟨q6, trivial⟩, ⟨q8, trivial⟩, trivial⟩) ?_
  refine G_take 0 (some 6) (.pointer (some xA)) #[true, false, false, false, false, false, false, false, false, false, false, false, false, false, false, false, false, false] [(0, .int .i64 a), (1, .int .i64 b), (2, .pointer (some cap0A)), (6, .pointer (some xA))] (loadN 124 (.pointer (some cap0A))) (fun w => by kernel_rfl) (held_one 16 (fun w => by kernel_rfl) (List.Mem.head _) (.inl (by kernel_rfl))) (by kernel_rfl) (by kernel_rfl) (by kernel_rfl) (by kernel_rfl) (by kernel_rfl) (ps (by kernel_rfl)) ?_
  refine G_take 1 (some 7) (.pointer (some xA)) #[true, true, false, false, false, false, false, false, false, false, false, false, false, false, false, false, false, false] [(0, .int .i64 a), (1, .int .i64 b), (2, .pointer (some cap0A)), (7, .pointer (some xA))] ((pure (.value (.pointer (some xA))) : Sem Next)) (fun w => by kernel_rfl) (fun _ _ _ _ _ => rfl) (by kernel_rfl) (by kernel_rfl) (by kernel_rfl) (by kernel_rfl) (by kernel_rfl) (ps (by kernel_rfl)) ?_
  refine G_take 2 (some 8) (.pointer (some xA)) #[true, true, true, false, false, false, false, false, false, false, false, false, false, false, false, false, false, false] [(0, .int .i64 a), (1, .int .i64 b), (2, .pointer (some cap0A)), (8, .pointer (some xA))] ((pure (.value (.pointer (some xA))) : Sem Next)) (fun w => by kernel_rfl) (fun _ _ _ _ _ => rfl) (by kernel_rfl) (by kernel_rfl) (by kernel_rfl) (by kernel_rfl) (by kernel_rfl) (ps (by kernel_rfl)) ?_
  refine G_take 3 (some 9) (.slice (some xBA) xN xC) #[true, true, true, true, false, false, false, false, false, false, false, false, false, false, false, false, false, false] [(0, .int .i64 a), (1, .int .i64 b), (2, .pointer (some cap0A)), (9, .slice (some xBA) xN xC)] (loadN 169 (.pointer (some xA))) (fun w => by kernel_rfl) (held_one 16 (fun w => by kernel_rfl) (List.Mem.tail _ (List.Mem.head _)) (.inl (by kernel_rfl))) (by kernel_rfl) (by kernel_rfl) (by kernel_rfl) (by kernel_rfl) (by kernel_rfl) (ps (by kernel_rfl)) ?_
  refine G_take 4 (some 10) (.int .i64 a) #[true, true, true, true, true, false, false, false, false, false, false, false, false, false, false, false, false, false] [(1, .int .i64 b), (2, .pointer (some cap0A)), (9, .slice (some xBA) xN xC), (10, .int .i64 a)] ((pure (.value (.int .i64 a)) : Sem Next)) (fun w => by kernel_rfl) (fun _ _ _ _ _ => rfl) (by kernel_rfl) (by kernel_rfl) (by kernel_rfl) (by kernel_rfl) (by kernel_rfl) (ps (by kernel_rfl)) ?_
  refine G_take 5 (some 11) (.pointer (some (xBA.add (Int.toNat a * 72)))) #[true, true, true, true, true, true, false, false, false, false, false, false, false, false, false, false, false, false] [(1, .int .i64 b), (2, .pointer (some cap0A)), (11, .pointer (some (xBA.add (Int.toNat a * 72))))] (indexAtN 169 (.slice (some xBA) xN xC) (.int .i64 a)) (fun w => by kernel_rfl) (fun _ w _ _ _ => indexAt_run (P := Try.prog) (t := 169) (elem := 168) (sz := 72) (a := xBA) (len := xN) (cap := xC) (k := .i64) (i := a) Try.underlying169 (fun w => by kernel_rfl) q3.1 q3.2 w) (by kernel_rfl) (by kernel_rfl) (by kernel_rfl) (by kernel_rfl) (by kernel_rfl) (ps (by kernel_rfl)) ?_
  refine G_take 6 (some 12) (.pointer (some ((xBA.add (Int.toNat a * 72)).add 7))) #[true, true, true, true, true, true, true, false, false, false, false, false, false, false, false, false, false, false] [(1, .int .i64 b), (2, .pointer (some cap0A)), (12, .pointer (some ((xBA.add (Int.toNat a * 72)).add 7)))] ((pure (.value (.pointer (some ((xBA.add (Int.toNat a * 72)).add 7)))) : Sem Next)) (fun w => by kernel_rfl) (fun _ _ _ _ _ => rfl) (by kernel_rfl) (by kernel_rfl) (by kernel_rfl) (by kernel_rfl) (by kernel_rfl) (ps (by kernel_rfl)) ?_
  refine G_take 7 (some 13) (.int .i64 x_2) #[true, true, true, true, true, true, true, true, false, false, false, false, false, false, false, false, false, false] [(1, .int .i64 b), (2, .pointer (some cap0A)), (13, .int .i64 x_2)] (loadN 3 (.pointer (some ((xBA.add (Int.toNat a * 72)).add 7)))) (fun w => by kernel_rfl) (held_one 16 (fun w => by kernel_rfl) (List.Mem.tail _ (List.Mem.tail _ (List.Mem.head _))) (.inl (by kernel_rfl))) (by kernel_rfl) (by kernel_rfl) (by kernel_rfl) (by kernel_rfl) (by kernel_rfl) (ps (by kernel_rfl)) ?_
  refine G_take 8 (some 14) (.pointer (some x3A)) #[true, true, true, true, true, true, true, true, true, false, false, false, false, false, false, false, false, false] [(1, .int .i64 b), (13, .int .i64 x_2), (14, .pointer (some x3A))] (loadN 124 (.pointer (some cap0A))) (fun w => by kernel_rfl) (held_one 16 (fun w => by kernel_rfl) (List.Mem.tail _ (List.Mem.tail _ (List.Mem.tail _ (List.Mem.head _)))) (.inl (by kernel_rfl))) (by kernel_rfl) (by kernel_rfl) (by kernel_rfl) (by kernel_rfl) (by kernel_rfl) (ps (by kernel_rfl)) ?_
  refine G_take 9 (some 15) (.pointer (some x3A)) #[true, true, true, true, true, true, true, true, true, true, false, false, false, false, false, false, false, false] [(1, .int .i64 b), (13, .int .i64 x_2), (15, .pointer (some x3A))] ((pure (.value (.pointer (some x3A))) : Sem Next)) (fun w => by kernel_rfl) (fun _ _ _ _ _ => rfl) (by kernel_rfl) (by kernel_rfl) (by kernel_rfl) (by kernel_rfl) (by kernel_rfl) (ps (by kernel_rfl)) ?_
  refine G_take 10 (some 16) (.pointer (some x3A)) #[true, true, true, true, true, true, true, true, true, true, true, false, false, false, false, false, false, false] [(1, .int .i64 b), (13, .int .i64 x_2), (16, .pointer (some x3A))] ((pure (.value (.pointer (some x3A))) : Sem Next)) (fun w => by kernel_rfl) (fun _ _ _ _ _ => rfl) (by kernel_rfl) (by kernel_rfl) (by kernel_rfl) (by kernel_rfl) (by kernel_rfl) (ps (by kernel_rfl)) ?_
  refine G_take 11 (some 17) (.slice (some xB2A) xN_2 xC_2) #[true, true, true, true, true, true, true, true, true, true, true, true, false, false, false, false, false, false] [(1, .int .i64 b), (13, .int .i64 x_2), (17, .slice (some xB2A) xN_2 xC_2)] (loadN 169 (.pointer (some x3A))) (fun w => by kernel_rfl) (held_one 16 (fun w => by kernel_rfl) (List.Mem.tail _ (List.Mem.tail _ (List.Mem.tail _ (List.Mem.tail _ (List.Mem.head _))))) (.inl (by kernel_rfl))) (by kernel_rfl) (by kernel_rfl) (by kernel_rfl) (by kernel_rfl) (by kernel_rfl) (ps (by kernel_rfl)) ?_
  refine G_take 12 (some 18) (.int .i64 b) #[true, true, true, true, true, true, true, true, true, true, true, true, true, false, false, false, false, false] [(13, .int .i64 x_2), (17, .slice (some xB2A) xN_2 xC_2), (18, .int .i64 b)] ((pure (.value (.int .i64 b)) : Sem Next)) (fun w => by kernel_rfl) (fun _ _ _ _ _ => rfl) (by kernel_rfl) (by kernel_rfl) (by kernel_rfl) (by kernel_rfl) (by kernel_rfl) (ps (by kernel_rfl)) ?_
  refine G_take 13 (some 19) (.pointer (some (xB2A.add (Int.toNat b * 72)))) #[true, true, true, true, true, true, true, true, true, true, true, true, true, true, false, false, false, false] [(13, .int .i64 x_2), (19, .pointer (some (xB2A.add (Int.toNat b * 72))))] (indexAtN 169 (.slice (some xB2A) xN_2 xC_2) (.int .i64 b)) (fun w => by kernel_rfl) (fun _ w _ _ _ => indexAt_run (P := Try.prog) (t := 169) (elem := 168) (sz := 72) (a := xB2A) (len := xN_2) (cap := xC_2) (k := .i64) (i := b) Try.underlying169 (fun w => by kernel_rfl) q7.1 q7.2 w) (by kernel_rfl) (by kernel_rfl) (by kernel_rfl) (by kernel_rfl) (by kernel_rfl) (ps (by kernel_rfl)) ?_
  refine G_take 14 (some 20) (.pointer (some ((xB2A.add (Int.toNat b * 72)).add 7))) #[true, true, true, true, true, true, true, true, true, true, true, true, true, true, true, false, false, false] [(13, .int .i64 x_2), (20, .pointer (some ((xB2A.add (Int.toNat b * 72)).add 7)))] ((pure (.value (.pointer (some ((xB2A.add (Int.toNat b * 72)).add 7)))) : Sem Next)) (fun w => by kernel_rfl) (fun _ _ _ _ _ => rfl) (by kernel_rfl) (by kernel_rfl) (by kernel_rfl) (by kernel_rfl) (by kernel_rfl) (ps (by kernel_rfl)) ?_
  refine G_take 15 (some 21) (.int .i64 x_4) #[true, true, true, true, true, true, true, true, true, true, true, true, true, true, true, true, false, false] [(13, .int .i64 x_2), (21, .int .i64 x_4)] (loadN 3 (.pointer (some ((xB2A.add (Int.toNat b * 72)).add 7)))) (fun w => by kernel_rfl) (held_one 16 (fun w => by kernel_rfl) (List.Mem.tail _ (List.Mem.tail _ (List.Mem.tail _ (List.Mem.tail _ (List.Mem.tail _ (List.Mem.head _)))))) (.inl (by kernel_rfl))) (by kernel_rfl) (by kernel_rfl) (by kernel_rfl) (by kernel_rfl) (by kernel_rfl) (ps (by kernel_rfl)) ?_
  refine G_call 16 (some 22) #[true, true, true, true, true, true, true, true, true, true, true, true, true, true, true, true, true, false] 105 #[.int .i64 x_2, .int .i64 x_4] (by kernel_rfl) (fun w => by kernel_rfl) h (by kernel_rfl) ?_; clear h
  rintro v H1 ⟨x_5, rfl, h⟩
  refine ⟨[(22, .int .i64 x_5)], ps (by kernel_rfl), (show FactsAt _ _ _ from ⟨trivial, trivial, trivial, trivial, trivial, trivial, trivial⟩), ?_⟩
  refine G_take 17 (some 5) (.int .i64 x_5) #[true, true, true, true, true, true, true, true, true, true, true, true, true, true, true, true, true, true] [(5, .int .i64 x_5)] (pure (.value (.int .i64 x_5)) : Sem Next) (fun w => by kernel_rfl) (fun _ _ _ _ _ => rfl) (by kernel_rfl) (by kernel_rfl) (by kernel_rfl) (by kernel_rfl) (by kernel_rfl) (ps (by kernel_rfl)) ?_
  refine G_sub [(5, .int .i64 x_5)] (sb (by kernel_rfl)) ?_
  refine G_end (by kernel_rfl) ?_
  refine S_then ?_
  refine S_ret (by kernel_rfl) ?_
  show At _ _ _ _ (Q .ret)
  exact S_done (fn := Try.f104) [.int .i64 x_5] hQ (show ResOK _ _ _ [.tmp 5] _ from .tmp (by kernel_rfl) (.nil)) h

/-! moraine/seg.New -/
noncomputable def seg_New.k0 : Code := Func.code Try.f106
noncomputable def seg_New.k1 : Code := Code.fa seg_New.k0
noncomputable def seg_New.k2 : Code := Code.fb seg_New.k0
noncomputable def seg_New.k3 : Code := Code.fa seg_New.k2
noncomputable def seg_New.k4 : Code := Code.fb seg_New.k2
noncomputable def seg_New.k5 : Code := Code.fa seg_New.k3
noncomputable def seg_New.k6 : Code := Code.fb seg_New.k3
noncomputable def seg_New.k7 : Code := Code.fa seg_New.k6
noncomputable def seg_New.k8 : Code := Code.fb seg_New.k6
noncomputable def seg_New.k9 : Code := Code.fa seg_New.k7
noncomputable def seg_New.k10 : Code := Code.fb seg_New.k7
noncomputable def seg_New.k11 : Code := Code.fa seg_New.k4
noncomputable def seg_New.k12 : Code := Code.fb seg_New.k4
def seg_New.pt (limit : Int) (H : Array Obj) (R : Value → Array Obj → Prop) : Prop :=
 if ((decide (limit < 8)) || (decide (limit > 1024))) = true then (
  R (.tuple #[.pointer none, .int .i64 1]) H)
 else
 0 ≤ limit ∧ limit ≤ limit ∧ 576 * limit ≤ 2 ^ 48 ∧ limit ≤ 9223372036854775807 ∧
 ∀ (b : Nat) (H1 : Array Obj), b = H.size → H1 = H.push (.cells (Builtin.zeroCells (List.replicate 8 (.int .i64 0) ++ List.replicate 64 (.int .u64 0) : List Value).toArray (Int.toNat limit)) 168) →
 ∀ (b_2 : Nat) (H2 : Array Obj), b_2 = H1.size → H2 = H1.push (.cells #[.slice (some (Addr.mk b 0 none)) (Int.toNat limit) (Int.toNat limit), .int .i64 0, .int .i64 limit] 171) →
 R (.tuple #[.pointer (some (Addr.mk b_2 0 none)), .int .i64 0]) H2
set_option maxRecDepth 100000 in
theorem seg_New.link {limit : Int} {H : Array Obj} {R : Value → Array Obj → Prop} (h : seg_New.pt limit H R) : seg_New.C limit H R := by
  refine S_enter (fn := Try.f106) (c := seg_New.k0) 15 Try.func106 (by kernel_rfl) (by kernel_rfl) (Nat.le_of_ble_eq_true (by kernel_rfl)) ?_
  intro w0 Q hQ
  unfold seg_New.pt at h
  refine S_sub [(0, .int .i64 limit)] (sb (by kernel_rfl)) ?_
  refine S_seq seg_New.k1 seg_New.k2 (by kernel_rfl) ?_
  refine S_region 0 (Code.ops seg_New.k1) (by kernel_rfl) ?_
  refine N_run 2 [(0, .int .i64 limit)] (fun w => by kernel_rfl) ?_
  refine N_end (by kernel_rfl) ?_
  refine S_then ?_
  refine S_seq seg_New.k3 seg_New.k4 (by kernel_rfl) ?_
  refine S_seq seg_New.k5 seg_New.k6 (by kernel_rfl) ?_
  refine S_region 1 (Code.ops seg_New.k5) (by kernel_rfl) ?_
  refine N_cut [(0, .int .i64 limit), (9, .bool ((decide (limit < 8)) || (decide (limit > 1024))))] ?_ ?_
  · refine S_then ?_
    by_cases c3 : ((decide (limit < 8)) || (decide (limit > 1024))) = true
    · rw [if_pos c3] at h
      have b4 : ((decide (limit < 8)) || (decide (limit > 1024))) = true := c3
      refine S_env [(0, .int .i64 limit), (9, .bool true)] (by simp only [b4, Bool.not_true, Bool.not_false]) ?_
      clear b4
      refine S_condT (.tmp 9) seg_New.k7 seg_New.k8 (by kernel_rfl) (by kernel_rfl) ?_
      refine S_seq seg_New.k9 seg_New.k10 (by kernel_rfl) ?_
      refine S_region 2 (Code.ops seg_New.k9) (by kernel_rfl) ?_
      refine N_run 2 [(2, .pointer none), (3, .int .i64 1)] (fun w => by kernel_rfl) ?_
      refine N_end (by kernel_rfl) ?_
      refine S_then ?_
      refine S_ret (by kernel_rfl) ?_
      show At _ _ _ _ (Q .ret)
      exact S_done (fn := Try.f106) [.pointer none, .int .i64 1] hQ (show ResOK _ _ _ [.tmp 2, .tmp 3] _ from .tmp (by kernel_rfl) (.tmp (by kernel_rfl) (.nil))) h
    · rw [if_neg c3] at h
      have b4 : ((decide (limit < 8)) || (decide (limit > 1024))) = false := eq_false_of_ne_true c3
      refine S_env [(0, .int .i64 limit), (9, .bool false)] (by simp only [b4, Bool.not_true, Bool.not_false]) ?_
      clear b4
      refine S_condF (.tmp 9) seg_New.k7 seg_New.k8 (by kernel_rfl) (by kernel_rfl) ?_
      refine S_skip (by kernel_rfl) ?_
      refine S_then ?_
      refine S_seq seg_New.k11 seg_New.k12 (by kernel_rfl) ?_
      refine S_region 3 (Code.ops seg_New.k11) (by kernel_rfl) ?_
      refine N_run 1 [(0, .int .i64 limit), (10, .int .i64 limit)] (fun w => by kernel_rfl) ?_
      obtain ⟨q5, q6, q7, q8, h⟩ := h
      refine N_op (some 11) (makeSliceN 169 (.int .i64 limit) (.int .i64 limit)) (fun v Hz => v = Value.slice (some (Addr.mk H.size 0 none)) (Int.toNat limit) (Int.toNat limit) ∧ Hz = H.push (.cells (Builtin.zeroCells (List.replicate 8 (.int .i64 0) ++ List.replicate 64 (.int .u64 0) : List Value).toArray (Int.toNat limit)) 168)) (fun w => by kernel_rfl) (ss_make (T := 168) (zero := .agg (List.replicate 8 (.int .i64 0) ++ List.replicate 64 (.int .u64 0) : List Value).toArray) Try.underlying169 (show Try.prog.info? 168 = some Try.t168 from by kernel_rfl) (by kernel_rfl) q5 q6 q7 q8 (by kernel_rfl) (by decide)) ?_
      rintro _ H1 ⟨rfl, e10⟩
      obtain ⟨b, e9⟩ : ∃ b, b = H.size := ⟨_, rfl⟩
      replace h := h b H1 e9 e10
      rw [← e9]
      refine ⟨[(0, .int .i64 limit), (11, .slice (some (Addr.mk b 0 none)) (Int.toNat limit) (Int.toNat limit))], ps (by kernel_rfl), ?_⟩
      refine N_run 2 [(13, .agg #[.slice (some (Addr.mk b 0 none)) (Int.toNat limit) (Int.toNat limit), .int .i64 0, .int .i64 limit])] (fun w => by kernel_rfl) ?_
      refine N_new (some 14) (fun b => .pointer (some (Addr.mk b 0 none))) (.cells #[.slice (some (Addr.mk b 0 none)) (Int.toNat limit) (Int.toNat limit), .int .i64 0, .int .i64 limit] 171) (fun w => by kernel_rfl) ?_
      intro b_2 H2 e11 e12
      replace h := h b_2 H2 e11 e12
      refine ⟨[(14, .pointer (some (Addr.mk b_2 0 none)))], ps (by kernel_rfl), ?_⟩
      refine N_run 2 [(2, .pointer (some (Addr.mk b_2 0 none))), (3, .int .i64 0)] (fun w => by kernel_rfl) ?_
      refine N_end (by kernel_rfl) ?_
      refine S_then ?_
      refine S_ret (by kernel_rfl) ?_
      show At _ _ _ _ (Q .ret)
      exact S_done (fn := Try.f106) [.pointer (some (Addr.mk b_2 0 none)), .int .i64 0] hQ (show ResOK _ _ _ [.tmp 2, .tmp 3] _ from .tmp (by kernel_rfl) (.tmp (by kernel_rfl) (.nil))) h
  · intro hk
    refine N_run 3 [(0, .int .i64 limit), (6, .bool (decide (limit < 8)))] (fun w => by kernel_rfl) ?_
    by_cases c1 : limit < 8
    · have b2 : (decide (limit < 8)) = true := decide_eq_true c1
      refine N_env [(0, .int .i64 limit), (6, .bool true)] (by simp only [b2, Bool.not_true, Bool.not_false]) ?_
      refine N_run 3 [(0, .int .i64 limit), (9, .bool true)] (fun w => by kernel_rfl) ?_
      refine N_end (by kernel_rfl) ?_
      refine S_env [(0, .int .i64 limit), (9, .bool ((decide (limit < 8)) || (decide (limit > 1024))))] (by simp only [b2, Bool.true_or, Bool.false_or, Bool.or_true, Bool.or_false, Bool.true_and, Bool.false_and, Bool.and_true, Bool.and_false, Bool.not_true, Bool.not_false, cond_true, cond_false]) ?_
      exact hk
    · have b2 : (decide (limit < 8)) = false := decide_eq_false c1
      refine N_env [(0, .int .i64 limit), (6, .bool false)] (by simp only [b2, Bool.not_true, Bool.not_false]) ?_
      refine N_run 3 [(0, .int .i64 limit), (9, .bool (decide (limit > 1024)))] (fun w => by kernel_rfl) ?_
      refine N_end (by kernel_rfl) ?_
      refine S_env [(0, .int .i64 limit), (9, .bool ((decide (limit < 8)) || (decide (limit > 1024))))] (by simp only [b2, Bool.true_or, Bool.false_or, Bool.or_true, Bool.or_false, Bool.true_and, Bool.false_and, Bool.and_true, Bool.and_false, Bool.not_true, Bool.not_false, cond_true, cond_false]) ?_
      exact hk

/-! (*moraine/seg.Mem).Bump -/
noncomputable def seg_Mem_Bump.k0 : Code := Func.code Try.f109
noncomputable def seg_Mem_Bump.k1 : Code := Code.fa seg_Mem_Bump.k0
noncomputable def seg_Mem_Bump.k2 : Code := Code.fb seg_Mem_Bump.k0
noncomputable def seg_Mem_Bump.k3 : Code := Code.fa seg_Mem_Bump.k2
noncomputable def seg_Mem_Bump.k4 : Code := Code.fb seg_Mem_Bump.k2
noncomputable def seg_Mem_Bump.k5 : Code := Code.fa seg_Mem_Bump.k4
noncomputable def seg_Mem_Bump.k6 : Code := Code.fb seg_Mem_Bump.k4
noncomputable def seg_Mem_Bump.k7 : Code := Code.fa seg_Mem_Bump.k5
noncomputable def seg_Mem_Bump.k8 : Code := Code.fa seg_Mem_Bump.k7
noncomputable def seg_Mem_Bump.k9 : Code := Code.fb seg_Mem_Bump.k7
noncomputable def seg_Mem_Bump.k10 : Code := Code.fa seg_Mem_Bump.k9
noncomputable def seg_Mem_Bump.k11 : Code := Code.fb seg_Mem_Bump.k9
noncomputable def seg_Mem_Bump.k12 : Code := Code.fa seg_Mem_Bump.k10
noncomputable def seg_Mem_Bump.k13 : Code := Code.fb seg_Mem_Bump.k10
noncomputable def seg_Mem_Bump.k14 : Code := Code.fa seg_Mem_Bump.k11
noncomputable def seg_Mem_Bump.k15 : Code := Code.fb seg_Mem_Bump.k11
noncomputable def seg_Mem_Bump.k16 : Code := Code.fa seg_Mem_Bump.k15
noncomputable def seg_Mem_Bump.k17 : Code := Code.fb seg_Mem_Bump.k15
noncomputable def seg_Mem_Bump.k18 : Code := Code.fa seg_Mem_Bump.k16
noncomputable def seg_Mem_Bump.k19 : Code := Code.fb seg_Mem_Bump.k16
noncomputable def seg_Mem_Bump.k20 : Code := Code.fa seg_Mem_Bump.k17
noncomputable def seg_Mem_Bump.k21 : Code := Code.fb seg_Mem_Bump.k17
noncomputable def seg_Mem_Bump.k22 : Code := Code.fa seg_Mem_Bump.k21
noncomputable def seg_Mem_Bump.k23 : Code := Code.fb seg_Mem_Bump.k21
noncomputable def seg_Mem_Bump.k24 : Code := Code.fa seg_Mem_Bump.k22
noncomputable def seg_Mem_Bump.k25 : Code := Code.fb seg_Mem_Bump.k22
noncomputable def seg_Mem_Bump.k26 : Code := Code.fa seg_Mem_Bump.k6
noncomputable def seg_Mem_Bump.k27 : Code := Code.fb seg_Mem_Bump.k6
noncomputable def seg_Mem_Bump.k28 : Code := Code.fa seg_Mem_Bump.k27
noncomputable def seg_Mem_Bump.k29 : Code := Code.fb seg_Mem_Bump.k27
def seg_Mem_Bump.pt (m : Option Addr) (seg : Int) (nv : Int) (H : Array Obj) (R : Value → Array Obj → Prop) : Prop :=
 seg_Mem_at.C m seg H (fun v H1 => ∃ x : Option Addr, v = .pointer x ∧ 
  onPtr x (
   R (.tuple #[.int .i64 0, .int .i64 19]) H1) (fun xA =>
   if nv < 1 then (
    R (.tuple #[.int .i64 0, .int .i64 1]) H1)
   else
   ∃ x_2 : Int, hat H1 (xA.add 2) = some (.int .i64 x_2) ∧
   if nv > (IntKind.wrap .i64 (64 - x_2)) then (
    R (.tuple #[.int .i64 0, .int .i64 2]) H1)
   else
   ∃ x_3 : Int, hat H1 (xA.add 2) = some (.int .i64 x_3) ∧
   (CanPuts H1 (xA.add 2) 0 1) ∧ ∀ H2 : Array Obj, H2 = hputs H1 (xA.add 2) [.int .i64 (IntKind.wrap .i64 (x_3 + nv))] 0 →
   ∃ x_4 : Int, hat H2 (xA.add 2) = some (.int .i64 x_4) ∧
   R (.tuple #[.int .i64 (IntKind.wrap .i64 ((IntKind.wrap .i64 ((IntKind.wrap .i64 (seg * 64)) + x_4)) - nv)), .int .i64 0]) H2))
set_option maxRecDepth 100000 in
theorem seg_Mem_Bump.link {m : Option Addr} {seg : Int} {nv : Int} {H : Array Obj} {R : Value → Array Obj → Prop} (h : seg_Mem_Bump.pt m seg nv H R) : seg_Mem_Bump.C m seg nv H R := by
  refine S_enter (fn := Try.f109) (c := seg_Mem_Bump.k0) 47 Try.func109 (by kernel_rfl) (by kernel_rfl) (Nat.le_of_ble_eq_true (by kernel_rfl)) ?_
  intro w0 Q hQ
  unfold seg_Mem_Bump.pt at h
  refine S_sub [(0, .pointer m), (1, .int .i64 seg), (2, .int .i64 nv)] (sb (by kernel_rfl)) ?_
  refine S_seq seg_Mem_Bump.k1 seg_Mem_Bump.k2 (by kernel_rfl) ?_
  refine S_region 0 (Code.ops seg_Mem_Bump.k1) (by kernel_rfl) ?_
  refine N_run 2 [(0, .pointer m), (1, .int .i64 seg), (2, .int .i64 nv)] (fun w => by kernel_rfl) ?_
  refine N_end (by kernel_rfl) ?_
  refine S_then ?_
  refine S_seq seg_Mem_Bump.k3 seg_Mem_Bump.k4 (by kernel_rfl) ?_
  refine S_region 1 (Code.ops seg_Mem_Bump.k3) (by kernel_rfl) ?_
  refine N_run 2 [(1, .int .i64 seg), (2, .int .i64 nv), (9, .pointer m), (10, .int .i64 seg)] (fun w => by kernel_rfl) ?_
  refine N_call (some 11) 101 #[.pointer m, .int .i64 seg] (fun w => by kernel_rfl) h ?_; clear h
  rintro v H1 ⟨x, rfl, h⟩
  refine ⟨[(1, .int .i64 seg), (2, .int .i64 nv), (11, .pointer x)], ps (by kernel_rfl), ?_⟩
  refine N_run 1 [(1, .int .i64 seg), (2, .int .i64 nv), (8, .pointer x)] (fun w => by kernel_rfl) ?_
  refine N_end (by kernel_rfl) ?_
  refine S_then ?_
  refine S_seq seg_Mem_Bump.k5 seg_Mem_Bump.k6 (by kernel_rfl) ?_
  refine S_block 0 seg_Mem_Bump.k7 (by kernel_rfl) ?_
  refine S_seq seg_Mem_Bump.k8 seg_Mem_Bump.k9 (by kernel_rfl) ?_
  refine S_region 2 (Code.ops seg_Mem_Bump.k8) (by kernel_rfl) ?_
  refine N_run 1 [(1, .int .i64 seg), (2, .int .i64 nv), (8, .pointer x), (13, .pointer x)] (fun w => by kernel_rfl) ?_
  rcases x with _ | xA
  · rw [onPtr_none] at h
    refine N_run 2 [(1, .int .i64 seg), (2, .int .i64 nv), (8, .pointer none), (12, .bool true)] (fun w => by kernel_rfl) ?_
    refine N_end (by kernel_rfl) ?_
    refine S_then ?_
    refine S_condT (.tmp 12) seg_Mem_Bump.k10 seg_Mem_Bump.k11 (by kernel_rfl) (by kernel_rfl) ?_
    refine S_seq seg_Mem_Bump.k12 seg_Mem_Bump.k13 (by kernel_rfl) ?_
    refine S_region 3 (Code.ops seg_Mem_Bump.k12) (by kernel_rfl) ?_
    refine N_run 2 [(6, .int .i64 0), (7, .int .i64 19)] (fun w => by kernel_rfl) ?_
    refine N_end (by kernel_rfl) ?_
    refine S_then ?_
    refine S_ret (by kernel_rfl) ?_
    show At _ _ _ _ (Q .ret)
    exact S_done (fn := Try.f109) [.int .i64 0, .int .i64 19] hQ (show ResOK _ _ _ [.tmp 6, .tmp 7] _ from .tmp (by kernel_rfl) (.tmp (by kernel_rfl) (.nil))) h
  · rw [onPtr_some] at h
    refine N_run 2 [(1, .int .i64 seg), (2, .int .i64 nv), (8, .pointer (some xA)), (12, .bool false)] (fun w => by kernel_rfl) ?_
    refine N_end (by kernel_rfl) ?_
    refine S_then ?_
    refine S_condF (.tmp 12) seg_Mem_Bump.k10 seg_Mem_Bump.k11 (by kernel_rfl) (by kernel_rfl) ?_
    refine S_seq seg_Mem_Bump.k14 seg_Mem_Bump.k15 (by kernel_rfl) ?_
    refine S_region 4 (Code.ops seg_Mem_Bump.k14) (by kernel_rfl) ?_
    refine N_run 3 [(1, .int .i64 seg), (2, .int .i64 nv), (8, .pointer (some xA)), (15, .bool (decide (nv < 1)))] (fun w => by kernel_rfl) ?_
    refine N_end (by kernel_rfl) ?_
    refine S_then ?_
    by_cases c1 : nv < 1
    · rw [if_pos c1] at h
      have b2 : (decide (nv < 1)) = true := decide_eq_true c1
      refine S_env [(1, .int .i64 seg), (2, .int .i64 nv), (8, .pointer (some xA)), (15, .bool true)] (by simp only [b2, Bool.not_true, Bool.not_false]) ?_
      clear b2
      refine S_condT (.tmp 15) seg_Mem_Bump.k16 seg_Mem_Bump.k17 (by kernel_rfl) (by kernel_rfl) ?_
      refine S_seq seg_Mem_Bump.k18 seg_Mem_Bump.k19 (by kernel_rfl) ?_
      refine S_region 5 (Code.ops seg_Mem_Bump.k18) (by kernel_rfl) ?_
      refine N_run 2 [(6, .int .i64 0), (7, .int .i64 1)] (fun w => by kernel_rfl) ?_
      refine N_end (by kernel_rfl) ?_
      refine S_then ?_
      refine S_ret (by kernel_rfl) ?_
      show At _ _ _ _ (Q .ret)
      exact S_done (fn := Try.f109) [.int .i64 0, .int .i64 1] hQ (show ResOK _ _ _ [.tmp 6, .tmp 7] _ from .tmp (by kernel_rfl) (.tmp (by kernel_rfl) (.nil))) h
    · rw [if_neg c1] at h
      have b2 : (decide (nv < 1)) = false := decide_eq_false c1
      refine S_env [(1, .int .i64 seg), (2, .int .i64 nv), (8, .pointer (some xA)), (15, .bool false)] (by simp only [b2, Bool.not_true, Bool.not_false]) ?_
      clear b2
      refine S_condF (.tmp 15) seg_Mem_Bump.k16 seg_Mem_Bump.k17 (by kernel_rfl) (by kernel_rfl) ?_
      refine S_seq seg_Mem_Bump.k20 seg_Mem_Bump.k21 (by kernel_rfl) ?_
      refine S_region 6 (Code.ops seg_Mem_Bump.k20) (by kernel_rfl) ?_
      refine N_run 5 [(1, .int .i64 seg), (2, .int .i64 nv), (8, .pointer (some xA)), (19, .int .i64 nv), (23, .pointer (some (xA.add 2)))] (fun w => by kernel_rfl) ?_
      obtain ⟨x_2, q3, h⟩ := h
      refine N_val (some 24) (loadN 3 (.pointer (some (xA.add 2)))) (.int .i64 x_2) (fun w => by kernel_rfl) (loadN_run (loadOK_one (fun w => by kernel_rfl) q3)) [(1, .int .i64 seg), (2, .int .i64 nv), (8, .pointer (some xA)), (19, .int .i64 nv), (24, .int .i64 x_2)] (ps (by kernel_rfl)) ?_
      refine N_run 3 [(1, .int .i64 seg), (2, .int .i64 nv), (8, .pointer (some xA)), (18, .bool (decide (nv > (IntKind.wrap .i64 (64 - x_2)))))] (fun w => by kernel_rfl) ?_
      refine N_end (by kernel_rfl) ?_
      refine S_then ?_
      by_cases c4 : nv > (IntKind.wrap .i64 (64 - x_2))
      · rw [if_pos c4] at h
        have b5 : (decide (nv > (IntKind.wrap .i64 (64 - x_2)))) = true := decide_eq_true c4
        refine S_env [(1, .int .i64 seg), (2, .int .i64 nv), (8, .pointer (some xA)), (18, .bool true)] (by simp only [b5, Bool.not_true, Bool.not_false]) ?_
        clear b5
        refine S_condT (.tmp 18) seg_Mem_Bump.k22 seg_Mem_Bump.k23 (by kernel_rfl) (by kernel_rfl) ?_
        refine S_seq seg_Mem_Bump.k24 seg_Mem_Bump.k25 (by kernel_rfl) ?_
        refine S_region 7 (Code.ops seg_Mem_Bump.k24) (by kernel_rfl) ?_
        refine N_run 2 [(6, .int .i64 0), (7, .int .i64 2)] (fun w => by kernel_rfl) ?_
        refine N_end (by kernel_rfl) ?_
        refine S_then ?_
        refine S_ret (by kernel_rfl) ?_
        show At _ _ _ _ (Q .ret)
        exact S_done (fn := Try.f109) [.int .i64 0, .int .i64 2] hQ (show ResOK _ _ _ [.tmp 6, .tmp 7] _ from .tmp (by kernel_rfl) (.tmp (by kernel_rfl) (.nil))) h
      · rw [if_neg c4] at h
        have b5 : (decide (nv > (IntKind.wrap .i64 (64 - x_2)))) = false := decide_eq_false c4
        refine S_env [(1, .int .i64 seg), (2, .int .i64 nv), (8, .pointer (some xA)), (18, .bool false)] (by simp only [b5, Bool.not_true, Bool.not_false]) ?_
        clear b5
        refine S_condF (.tmp 18) seg_Mem_Bump.k22 seg_Mem_Bump.k23 (by kernel_rfl) (by kernel_rfl) ?_
        refine S_skip (by kernel_rfl) ?_
        refine S_blockEnd ?_
        refine S_then ?_
        refine S_seq seg_Mem_Bump.k26 seg_Mem_Bump.k27 (by kernel_rfl) ?_
        refine S_region 8 (Code.ops seg_Mem_Bump.k26) (by kernel_rfl) ?_
        refine N_run 4 [(1, .int .i64 seg), (2, .int .i64 nv), (8, .pointer (some xA)), (27, .pointer (some xA)), (30, .pointer (some (xA.add 2)))] (fun w => by kernel_rfl) ?_
        obtain ⟨x_3, q6, h⟩ := h
        refine N_val (some 31) (loadN 3 (.pointer (some (xA.add 2)))) (.int .i64 x_3) (fun w => by kernel_rfl) (loadN_run (loadOK_one (fun w => by kernel_rfl) q6)) [(1, .int .i64 seg), (2, .int .i64 nv), (8, .pointer (some xA)), (27, .pointer (some xA)), (31, .int .i64 x_3)] (ps (by kernel_rfl)) ?_
        refine N_run 5 [(1, .int .i64 seg), (2, .int .i64 nv), (8, .pointer (some xA)), (33, .int .i64 (IntKind.wrap .i64 (x_3 + nv))), (36, .pointer (some (xA.add 2)))] (fun w => by kernel_rfl) ?_
        obtain ⟨q8, h⟩ := h
        refine N_skipop none (storeN 3 (.pointer (some (xA.add 2))) (.int .i64 (IntKind.wrap .i64 (x_3 + nv)))) (fun Hz => Hz = hputs H1 (xA.add 2) [.int .i64 (IntKind.wrap .i64 (x_3 + nv))] 0) (fun w => by kernel_rfl) (ss_store [.int .i64 (IntKind.wrap .i64 (x_3 + nv))] 1 (by kernel_rfl) (by kernel_rfl) (fun w => by kernel_rfl) (by kernel_rfl) q8) ?_
        intro H2 e7
        replace h := h H2 e7
        refine ⟨[(1, .int .i64 seg), (2, .int .i64 nv), (8, .pointer (some xA))], ps (by kernel_rfl), ?_⟩
        refine N_end (by kernel_rfl) ?_
        refine S_then ?_
        refine S_seq seg_Mem_Bump.k28 seg_Mem_Bump.k29 (by kernel_rfl) ?_
        refine S_region 9 (Code.ops seg_Mem_Bump.k28) (by kernel_rfl) ?_
        refine N_run 6 [(2, .int .i64 nv), (38, .int .i64 (IntKind.wrap .i64 (seg * 64))), (42, .pointer (some (xA.add 2)))] (fun w => by kernel_rfl) ?_
        obtain ⟨x_4, q9, h⟩ := h
        refine N_val (some 43) (loadN 3 (.pointer (some (xA.add 2)))) (.int .i64 x_4) (fun w => by kernel_rfl) (loadN_run (loadOK_one (fun w => by kernel_rfl) q9)) [(2, .int .i64 nv), (38, .int .i64 (IntKind.wrap .i64 (seg * 64))), (43, .int .i64 x_4)] (ps (by kernel_rfl)) ?_
        refine N_run 5 [(6, .int .i64 (IntKind.wrap .i64 ((IntKind.wrap .i64 ((IntKind.wrap .i64 (seg * 64)) + x_4)) - nv))), (7, .int .i64 0)] (fun w => by kernel_rfl) ?_
        refine N_end (by kernel_rfl) ?_
        refine S_then ?_
        refine S_ret (by kernel_rfl) ?_
        show At _ _ _ _ (Q .ret)
        exact S_done (fn := Try.f109) [.int .i64 (IntKind.wrap .i64 ((IntKind.wrap .i64 ((IntKind.wrap .i64 (seg * 64)) + x_4)) - nv)), .int .i64 0] hQ (show ResOK _ _ _ [.tmp 6, .tmp 7] _ from .tmp (by kernel_rfl) (.tmp (by kernel_rfl) (.nil))) h

end Go.Proofs.Ytfohlkiikppefaa
