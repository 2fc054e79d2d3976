/-
  Written by a program of mine (gen.py): for functions of this translation a predicate transformer over heaps (.pt), and the proof that it is sound for the call (.link).
-/
import Derived.Test.YtfohlkiikppefaaFnsC
set_option linter.unusedSimpArgs false
set_option linter.unusedVariables false
set_option maxHeartbeats 1000000
namespace Go.Proofs.Ytfohlkiikppefaa
open Go
/-! moraine/morainelaw20.row -/
noncomputable def morainelaw20_row.k0 : Code := Func.code Try.f13
noncomputable def morainelaw20_row.k1 : Code := Code.fa morainelaw20_row.k0
noncomputable def morainelaw20_row.k2 : Code := Code.fb morainelaw20_row.k0
noncomputable def morainelaw20_row.k3 : Code := Code.fa morainelaw20_row.k2
noncomputable def morainelaw20_row.k4 : Code := Code.fb morainelaw20_row.k2
noncomputable def morainelaw20_row.k5 : Code := Code.fa morainelaw20_row.k3
noncomputable def morainelaw20_row.k6 : Code := Code.fb morainelaw20_row.k3
noncomputable def morainelaw20_row.k7 : Code := Code.fa morainelaw20_row.k6
noncomputable def morainelaw20_row.k8 : Code := Code.fa morainelaw20_row.k7
noncomputable def morainelaw20_row.k9 : Code := Code.fa morainelaw20_row.k8
noncomputable def morainelaw20_row.k10 : Code := Code.fb morainelaw20_row.k8
noncomputable def morainelaw20_row.k11 : Code := Code.fa morainelaw20_row.k9
noncomputable def morainelaw20_row.k12 : Code := Code.fb morainelaw20_row.k9
noncomputable def morainelaw20_row.k13 : Code := Code.fa morainelaw20_row.k12
noncomputable def morainelaw20_row.k14 : Code := Code.fb morainelaw20_row.k12
noncomputable def morainelaw20_row.k15 : Code := Code.fa morainelaw20_row.k10
noncomputable def morainelaw20_row.k16 : Code := Code.fb morainelaw20_row.k10
noncomputable def morainelaw20_row.k17 : Code := Code.fa morainelaw20_row.k15
noncomputable def morainelaw20_row.k18 : Code := Code.fa morainelaw20_row.k4
noncomputable def morainelaw20_row.k19 : Code := Code.fb morainelaw20_row.k4
def morainelaw20_row.pt (hv : Option Addr) (lB : Option Addr) (lN : Nat) (lC : Nat) (wv : Int) (H : Array Obj) (R : Value → Array Obj → Prop) : Prop :=
 ∃ (I9 : Int → Int → Array Obj → Prop) (m9 : Int → Int → Array Obj → Nat), I9 wv 0 H ∧ ∀ (wv_2 : Int) (i : Int) (H1 : Array Obj), I9 wv_2 i H1 →
 if i < (lN : Int) then (
  ∃ lBA : Addr, lB = some lBA ∧
  ((0 : Int) ≤ i ∧ i < (lN : Int)) ∧
  ∃ x : Int, hat H1 (lBA.add (Int.toNat i * 1)) = some (.int .u16 x) ∧
  ∀ (b : Nat) (H2 : Array Obj), b = H1.size → H2 = H1.push (.cells #[.int .u64 (ishl .u64 (IntKind.wrap .u64 i) 3)] 29) →
  frame_Push.C hv (IntKind.wrap .i64 x) wv_2 (some (Addr.mk b 0 none)) 1 1 H2 (fun v H3 => ∃ ra : Int, ∃ rb : Int, v = .tuple #[.int .u64 ra, .int .i64 rb] ∧ 
   (I9 ra (IntKind.wrap .i64 (i + 1)) H3 ∧ m9 ra (IntKind.wrap .i64 (i + 1)) H3 < m9 wv_2 i H1)))
 else
 R (.int .u64 wv_2) H1
set_option maxRecDepth 100000 in
theorem morainelaw20_row.link {hv : Option Addr} {lB : Option Addr} {lN : Nat} {lC : Nat} {wv : Int} {H : Array Obj} {R : Value → Array Obj → Prop} (h : morainelaw20_row.pt hv lB lN lC wv H R) : morainelaw20_row.C hv lB lN lC wv H R := by
  refine S_enter (fn := Try.f13) (c := morainelaw20_row.k0) 30 Try.func13 (by kernel_rfl) (by kernel_rfl) (Nat.le_of_ble_eq_true (by kernel_rfl)) ?_
  intro w0 Q hQ
  unfold morainelaw20_row.pt at h
  refine S_sub [(0, .pointer hv), (1, .slice lB lN lC), (2, .int .u64 wv)] (sb (by kernel_rfl)) ?_
  refine S_seq morainelaw20_row.k1 morainelaw20_row.k2 (by kernel_rfl) ?_
  refine S_region 0 (Code.ops morainelaw20_row.k1) (by kernel_rfl) ?_
  refine N_run 1 [(0, .pointer hv), (1, .slice lB lN lC), (2, .int .u64 wv)] (fun w => by kernel_rfl) ?_
  refine N_end (by kernel_rfl) ?_
  refine S_then ?_
  refine S_seq morainelaw20_row.k3 morainelaw20_row.k4 (by kernel_rfl) ?_
  refine S_seq morainelaw20_row.k5 morainelaw20_row.k6 (by kernel_rfl) ?_
  refine S_region 1 (Code.ops morainelaw20_row.k5) (by kernel_rfl) ?_
  refine N_run 1 [(0, .pointer hv), (1, .slice lB lN lC), (2, .int .u64 wv), (7, .int .i64 0)] (fun w => by kernel_rfl) ?_
  refine N_end (by kernel_rfl) ?_
  refine S_then ?_
  refine S_block 0 morainelaw20_row.k7 (by kernel_rfl) ?_
  obtain ⟨I9, m9, i1, i2⟩ := h
  refine S_loop (x := morainelaw20_row.k8) (σ := Int × Int) (fun s_ => [(0, .pointer hv), (1, .slice lB lN lC), (2, .int .u64 s_.1), (7, .int .i64 s_.2)]) (fun s_ H => I9 s_.1 s_.2 H) (fun s_ H => m9 s_.1 s_.2 H) ((wv, 0) : Int × Int) (by kernel_rfl) i1 (sb (by kernel_rfl)) ?_
  rintro ⟨wv_2, i⟩ H1 i3
  have h := i2 wv_2 i H1 i3
  refine S_sub [(0, .pointer hv), (1, .slice lB lN lC), (2, .int .u64 wv_2), (7, .int .i64 i)] (sb (by kernel_rfl)) ?_
  refine S_seq morainelaw20_row.k9 morainelaw20_row.k10 (by kernel_rfl) ?_
  refine S_seq morainelaw20_row.k11 morainelaw20_row.k12 (by kernel_rfl) ?_
  refine S_region 2 (Code.ops morainelaw20_row.k11) (by kernel_rfl) ?_
  refine N_run 4 [(0, .pointer hv), (1, .slice lB lN lC), (2, .int .u64 wv_2), (7, .int .i64 i), (11, .bool (decide (i < (lN : Int))))] (fun w => by kernel_rfl) ?_
  refine N_end (by kernel_rfl) ?_
  refine S_then ?_
  by_cases c4 : i < (lN : Int)
  · rw [if_pos c4] at h
    have b5 : (decide (i < (lN : Int))) = true := decide_eq_true c4
    refine S_env [(0, .pointer hv), (1, .slice lB lN lC), (2, .int .u64 wv_2), (7, .int .i64 i), (11, .bool true)] (by simp only [b5, Bool.not_true, Bool.not_false]) ?_
    clear b5
    refine S_condT (.tmp 11) morainelaw20_row.k13 morainelaw20_row.k14 (by kernel_rfl) (by kernel_rfl) ?_
    refine S_skip (by kernel_rfl) ?_
    refine S_then ?_
    refine S_seq morainelaw20_row.k15 morainelaw20_row.k16 (by kernel_rfl) ?_
    refine S_block 1 morainelaw20_row.k17 (by kernel_rfl) ?_
    refine S_region 4 (Code.ops morainelaw20_row.k17) (by kernel_rfl) ?_
    refine N_run 3 [(0, .pointer hv), (1, .slice lB lN lC), (2, .int .u64 wv_2), (7, .int .i64 i), (15, .pointer hv), (16, .slice lB lN lC), (17, .int .i64 i)] (fun w => by kernel_rfl) ?_
    obtain ⟨lBA, rfl, h⟩ := h
    obtain ⟨q6, h⟩ := h
    refine N_val (some 18) (indexAtN 22 (.slice (some lBA) lN lC) (.int .i64 i)) (.pointer (some (lBA.add (Int.toNat i * 1)))) (fun w => by kernel_rfl) (fun w _ => indexAt_run (P := Try.prog) (t := 22) (elem := 33) (sz := 1) (a := lBA) (len := lN) (cap := lC) (k := .i64) (i := i) Try.underlying22 (fun w => by kernel_rfl) q6.1 q6.2 w) [(0, .pointer hv), (1, .slice (some lBA) lN lC), (2, .int .u64 wv_2), (7, .int .i64 i), (15, .pointer hv), (18, .pointer (some (lBA.add (Int.toNat i * 1))))] (ps (by kernel_rfl)) ?_
    obtain ⟨x, q7, h⟩ := h
    refine N_val (some 19) (loadN 33 (.pointer (some (lBA.add (Int.toNat i * 1))))) (.int .u16 x) (fun w => by kernel_rfl) (loadN_run (loadOK_one (fun w => by kernel_rfl) q7)) [(0, .pointer hv), (1, .slice (some lBA) lN lC), (2, .int .u64 wv_2), (7, .int .i64 i), (15, .pointer hv), (19, .int .u16 x)] (ps (by kernel_rfl)) ?_
    refine N_run 5 [(0, .pointer hv), (1, .slice (some lBA) lN lC), (7, .int .i64 i), (15, .pointer hv), (20, .int .i64 (IntKind.wrap .i64 x)), (21, .int .u64 wv_2), (24, .int .u64 (ishl .u64 (IntKind.wrap .u64 i) 3))] (fun w => by kernel_rfl) ?_
    refine N_new (some 25) (fun b => .slice (some (Addr.mk b 0 none)) 1 1) (.cells #[.int .u64 (ishl .u64 (IntKind.wrap .u64 i) 3)] 29) (fun w => by kernel_rfl) ?_
    intro b H2 e8 e9
    replace h := h b H2 e8 e9
    refine ⟨[(0, .pointer hv), (1, .slice (some lBA) lN lC), (7, .int .i64 i), (15, .pointer hv), (20, .int .i64 (IntKind.wrap .i64 x)), (21, .int .u64 wv_2), (25, .slice (some (Addr.mk b 0 none)) 1 1)], ps (by kernel_rfl), ?_⟩
    refine N_call (some 26) 16 #[.pointer hv, .int .i64 (IntKind.wrap .i64 x), .int .u64 wv_2, .slice (some (Addr.mk b 0 none)) 1 1] (fun w => by kernel_rfl) h ?_; clear h
    rintro v H3 ⟨ra, rb, rfl, h⟩
    refine ⟨[(0, .pointer hv), (1, .slice (some lBA) lN lC), (7, .int .i64 i), (26, .tuple #[.int .u64 ra, .int .i64 rb])], ps (by kernel_rfl), ?_⟩
    refine N_run 4 [(0, .pointer hv), (1, .slice (some lBA) lN lC), (2, .int .u64 ra), (7, .int .i64 i)] (fun w => by kernel_rfl) ?_
    refine N_end (by kernel_rfl) ?_
    refine S_blockEnd ?_
    refine S_then ?_
    refine S_region 3 (Code.ops morainelaw20_row.k16) (by kernel_rfl) ?_
    refine N_run 3 [(0, .pointer hv), (1, .slice (some lBA) lN lC), (2, .int .u64 ra), (7, .int .i64 (IntKind.wrap .i64 (i + 1)))] (fun w => by kernel_rfl) ?_
    refine N_end (by kernel_rfl) ?_
    refine S_then ?_
    exact S_round ((ra, (IntKind.wrap .i64 (i + 1))) : Int × Int) (sb (by kernel_rfl)) h
  · rw [if_neg c4] at h
    have b5 : (decide (i < (lN : Int))) = false := decide_eq_false c4
    refine S_env [(0, .pointer hv), (1, .slice lB lN lC), (2, .int .u64 wv_2), (7, .int .i64 i), (11, .bool false)] (by simp only [b5, Bool.not_true, Bool.not_false]) ?_
    clear b5
    refine S_condF (.tmp 11) morainelaw20_row.k13 morainelaw20_row.k14 (by kernel_rfl) (by kernel_rfl) ?_
    refine S_exit 0 (by kernel_rfl) ?_
    refine S_exitThen ?_
    refine S_exitThen ?_
    refine S_exitHere ?_
    refine S_then ?_
    refine S_seq morainelaw20_row.k18 morainelaw20_row.k19 (by kernel_rfl) ?_
    refine S_region 5 (Code.ops morainelaw20_row.k18) (by kernel_rfl) ?_
    refine N_run 2 [(6, .int .u64 wv_2)] (fun w => by kernel_rfl) ?_
    refine N_end (by kernel_rfl) ?_
    refine S_then ?_
    refine S_ret (by kernel_rfl) ?_
    show At _ _ _ _ (Q .ret)
    exact S_done (fn := Try.f13) [.int .u64 wv_2] hQ (show ResOK _ _ _ [.tmp 6] _ from .tmp (by kernel_rfl) (.nil)) h

end Go.Proofs.Ytfohlkiikppefaa
