/-
 Written by a program of mine (gen.py): for functions of this translation a predicate transformer over heaps (.pt), and the proof that it is sound for the call (.link).
-/
import Derived.Test.YthlohokmnajpoaaGreatFnsC
set_option linter.unusedSimpArgs false
set_option linter.unusedVariables false
set_option maxHeartbeats 1000000
noncomputable section
namespace Go.Proofs.YthlohokmnajpoaaGreat
open Go
/-! (*moraine/seg.Mem).Seg -/
namespace seg_Mem_Seg
def kk0 := Func.code Tryz.f28
def kk1 := Code.fa kk0
def kk2 := Code.fb kk0
def kk3 := Code.fa kk2
def kk4 := Code.fb kk2
def kk5 := Code.fa kk4
def kk6 := Code.fb kk4
def kk7 := Code.fa kk5
def kk8 := Code.fb kk5
def kk9 := Code.fa kk8
def kk10 := Code.fb kk8
def kk11 := Code.fa kk9
def kk12 := Code.fb kk9
def kk13 := Code.fa kk6
def kk14 := Code.fb kk6
end seg_Mem_Seg
def seg_Mem_Seg.pt (m : Option Addr) (seg : Int) (H : Array Obj) (R : Value → Array Obj → Prop) : Prop :=
 ∀ (b : Nat) (H1 : Array Obj), b = H.size → H1 = H.push (.cells #[.int .i64 0, .int .i64 0, .int .i64 0, .int .i64 0, .int .i64 0, .int .i64 0, .int .i64 0] 74) →
 seg_Mem_at.C m seg H1 (fun v H2 => ∃ x : Option Addr, v = .pointer x ∧ 
 onPtr x (
 (CanPuts H2 (Addr.mk b 0 none) 0 7) ∧ ∀ H3 : Array Obj, H3 = hputs H2 (Addr.mk b 0 none) [.int .i64 0, .int .i64 0, .int .i64 0, .int .i64 0, .int .i64 0, .int .i64 0, .int .i64 0] 0 →
 ∃ rGen : Int, ∃ rKind : Int, ∃ rN : Int, ∃ rCardsi0 : Int, ∃ rCardsi1 : Int, ∃ rCardsi2 : Int, ∃ rCardsi3 : Int, RowAt H3 (Addr.mk b 0 none) 0 [.int .i64 rGen, .int .i64 rKind, .int .i64 rN, .int .i64 rCardsi0, .int .i64 rCardsi1, .int .i64 rCardsi2, .int .i64 rCardsi3] ∧
 R (.tuple #[.agg #[.int .i64 rGen, .int .i64 rKind, .int .i64 rN, .int .i64 rCardsi0, .int .i64 rCardsi1, .int .i64 rCardsi2, .int .i64 rCardsi3], .bool false]) H3) (fun xA =>
 ∃ xGen : Int, ∃ xKind : Int, ∃ xN : Int, ∃ xCardsi0 : Int, ∃ xCardsi1 : Int, ∃ xCardsi2 : Int, ∃ xCardsi3 : Int, RowAt H2 xA 0 [.int .i64 xGen, .int .i64 xKind, .int .i64 xN, .int .i64 xCardsi0, .int .i64 xCardsi1, .int .i64 xCardsi2, .int .i64 xCardsi3] ∧
 (CanPuts H2 (Addr.mk b 0 none) 0 7) ∧ ∀ H4 : Array Obj, H4 = hputs H2 (Addr.mk b 0 none) [.int .i64 xGen, .int .i64 xKind, .int .i64 xN, .int .i64 xCardsi0, .int .i64 xCardsi1, .int .i64 xCardsi2, .int .i64 xCardsi3] 0 →
 ∃ rGen_2 : Int, ∃ rKind_2 : Int, ∃ rN_2 : Int, ∃ rCardsi0x2 : Int, ∃ rCardsi1x2 : Int, ∃ rCardsi2x2 : Int, ∃ rCardsi3x2 : Int, RowAt H4 (Addr.mk b 0 none) 0 [.int .i64 rGen_2, .int .i64 rKind_2, .int .i64 rN_2, .int .i64 rCardsi0x2, .int .i64 rCardsi1x2, .int .i64 rCardsi2x2, .int .i64 rCardsi3x2] ∧
 R (.tuple #[.agg #[.int .i64 rGen_2, .int .i64 rKind_2, .int .i64 rN_2, .int .i64 rCardsi0x2, .int .i64 rCardsi1x2, .int .i64 rCardsi2x2, .int .i64 rCardsi3x2], .bool true]) H4))
namespace seg_Mem_Seg
set_option maxRecDepth 100000 in
theorem link {m : Option Addr} {seg : Int} {H : Array Obj} {R : Value → Array Obj → Prop} (h : pt m seg H R) : C m seg H R := by
 refine S_enter (fn := Tryz.f28) (c := kk0) 17 Tryz.func28 (by kernel_rfl) (by kernel_rfl) (Nat.le_of_ble_eq_true (by kernel_rfl)) ?_
 intro w0 Q hQ
 unfold pt at h
 refine S_sub [(0, .pointer m), (1, .int .i64 seg)] (sb (by kernel_rfl)) ?_
 refine T_sr 0 kk1 kk2 ?_
 refine N_new (some 4) (fun b => .pointer (some (Addr.mk b 0 none))) (.cells #[.int .i64 0, .int .i64 0, .int .i64 0, .int .i64 0, .int .i64 0, .int .i64 0, .int .i64 0] 74) (fun _=>by kernel_rfl) ?_
 intro b H1 e1 e2
 replace h := h b H1 e1 e2
 refine ⟨[(0, .pointer m), (1, .int .i64 seg), (4, .pointer (some (Addr.mk b 0 none)))], ps (by kernel_rfl), ?_⟩
 refine N_run 1 [(0, .pointer m), (1, .int .i64 seg), (4, .pointer (some (Addr.mk b 0 none)))] (fun _=>by kernel_rfl) ?_
 refine T_e ?_
 refine T_sr 1 kk3 kk4 ?_
 refine N_run 2 [(4, .pointer (some (Addr.mk b 0 none))), (7, .pointer m), (8, .int .i64 seg)] (fun _=>by kernel_rfl) ?_
 refine N_call (some 9) 49 #[.pointer m, .int .i64 seg] (fun _=>by kernel_rfl) h ?_; clear h
 rintro v H2 ⟨x, rfl, h⟩
 refine ⟨[(4, .pointer (some (Addr.mk b 0 none))), (9, .pointer x)], ps (by kernel_rfl), ?_⟩
 refine N_run 1 [(4, .pointer (some (Addr.mk b 0 none))), (6, .pointer x)] (fun _=>by kernel_rfl) ?_
 refine T_e ?_
 refine S_seq kk5 kk6 (by kernel_rfl) ?_
 refine T_sr 2 kk7 kk8 ?_
 refine N_run 1 [(4, .pointer (some (Addr.mk b 0 none))), (6, .pointer x), (10, .pointer x)] (fun _=>by kernel_rfl) ?_
 rcases x with _ | xA
 ·rw [onPtr_none] at h
  refine N_run 1 [(4, .pointer (some (Addr.mk b 0 none))), (6, .pointer none), (11, .bool true)] (fun _=>by kernel_rfl) ?_
  refine T_e ?_
  refine S_condT (.tmp 11) kk9 kk10 (by kernel_rfl) (by kernel_rfl) ?_
  refine T_sr 3 kk11 kk12 ?_
  refine N_run 1 [(4, .pointer (some (Addr.mk b 0 none))), (12, .agg #[.int .i64 0, .int .i64 0, .int .i64 0, .int .i64 0, .int .i64 0, .int .i64 0, .int .i64 0])] (fun _=>by kernel_rfl) ?_
  obtain ⟨q4, h⟩ := h
  refine N_skipop none (storeN 74 (.pointer (some (Addr.mk b 0 none))) (.agg #[.int .i64 0, .int .i64 0, .int .i64 0, .int .i64 0, .int .i64 0, .int .i64 0, .int .i64 0])) (fun Hz => Hz = hputs H2 (Addr.mk b 0 none) [.int .i64 0, .int .i64 0, .int .i64 0, .int .i64 0, .int .i64 0, .int .i64 0, .int .i64 0] 0) (fun _=>by kernel_rfl) (ss_store [.int .i64 0, .int .i64 0, .int .i64 0, .int .i64 0, .int .i64 0, .int .i64 0, .int .i64 0] 7 (by kernel_rfl) (by kernel_rfl) (fun _=>by kernel_rfl) (by kernel_rfl) q4) ?_
  intro H3 e3
  replace h := h H3 e3
  refine ⟨[(4, .pointer (some (Addr.mk b 0 none)))], ps (by kernel_rfl), ?_⟩
  refine N_run 1 [(4, .pointer (some (Addr.mk b 0 none))), (5, .bool false)] (fun _=>by kernel_rfl) ?_
  refine T_e ?_
  refine S_ret (by kernel_rfl) ?_
  show At _ _ _ _ _ (Q .ret)
  obtain ⟨rGen, rKind, rN, rCardsi0, rCardsi1, rCardsi2, rCardsi3, q5, h⟩ := h
  exact S_done (fn := Tryz.f28) [.agg #[.int .i64 rGen, .int .i64 rKind, .int .i64 rN, .int .i64 rCardsi0, .int .i64 rCardsi1, .int .i64 rCardsi2, .int .i64 rCardsi3], .bool false] hQ (show ResOK _ _ _ [.cell 4 74, .tmp 5] _ from .cell (by kernel_rfl) (loadOK_row (fun _=>by kernel_rfl) (fun _=>by kernel_rfl) q5) (.tmp (by kernel_rfl) (.nil))) h
 ·rw [onPtr_some] at h
  refine N_run 1 [(4, .pointer (some (Addr.mk b 0 none))), (6, .pointer (some xA)), (11, .bool false)] (fun _=>by kernel_rfl) ?_
  refine T_e ?_
  refine S_condF (.tmp 11) kk9 kk10 (by kernel_rfl) (by kernel_rfl) ?_
  refine S_skip (by kernel_rfl) ?_
  refine S_then ?_
  refine T_sr 4 kk13 kk14 ?_
  refine N_run 3 [(4, .pointer (some (Addr.mk b 0 none))), (15, .pointer (some xA))] (fun _=>by kernel_rfl) ?_
  obtain ⟨xGen, xKind, xN, xCardsi0, xCardsi1, xCardsi2, xCardsi3, q6, h⟩ := h
  refine N_val (some 16) (loadN 74 (.pointer (some xA))) (.agg #[.int .i64 xGen, .int .i64 xKind, .int .i64 xN, .int .i64 xCardsi0, .int .i64 xCardsi1, .int .i64 xCardsi2, .int .i64 xCardsi3]) (fun _=>by kernel_rfl) (loadN_run (loadOK_row (fun _=>by kernel_rfl) (fun _=>by kernel_rfl) q6)) [(4, .pointer (some (Addr.mk b 0 none))), (16, .agg #[.int .i64 xGen, .int .i64 xKind, .int .i64 xN, .int .i64 xCardsi0, .int .i64 xCardsi1, .int .i64 xCardsi2, .int .i64 xCardsi3])] (ps (by kernel_rfl)) ?_
  obtain ⟨q8, h⟩ := h
  refine N_skipop none (storeN 74 (.pointer (some (Addr.mk b 0 none))) (.agg #[.int .i64 xGen, .int .i64 xKind, .int .i64 xN, .int .i64 xCardsi0, .int .i64 xCardsi1, .int .i64 xCardsi2, .int .i64 xCardsi3])) (fun Hz => Hz = hputs H2 (Addr.mk b 0 none) [.int .i64 xGen, .int .i64 xKind, .int .i64 xN, .int .i64 xCardsi0, .int .i64 xCardsi1, .int .i64 xCardsi2, .int .i64 xCardsi3] 0) (fun _=>by kernel_rfl) (ss_store [.int .i64 xGen, .int .i64 xKind, .int .i64 xN, .int .i64 xCardsi0, .int .i64 xCardsi1, .int .i64 xCardsi2, .int .i64 xCardsi3] 7 (by kernel_rfl) (by kernel_rfl) (fun _=>by kernel_rfl) (by kernel_rfl) q8) ?_
  intro H4 e7
  replace h := h H4 e7
  refine ⟨[(4, .pointer (some (Addr.mk b 0 none)))], ps (by kernel_rfl), ?_⟩
  refine N_run 1 [(4, .pointer (some (Addr.mk b 0 none))), (5, .bool true)] (fun _=>by kernel_rfl) ?_
  refine T_e ?_
  refine S_ret (by kernel_rfl) ?_
  show At _ _ _ _ _ (Q .ret)
  obtain ⟨rGen_2, rKind_2, rN_2, rCardsi0x2, rCardsi1x2, rCardsi2x2, rCardsi3x2, q9, h⟩ := h
  exact S_done (fn := Tryz.f28) [.agg #[.int .i64 rGen_2, .int .i64 rKind_2, .int .i64 rN_2, .int .i64 rCardsi0x2, .int .i64 rCardsi1x2, .int .i64 rCardsi2x2, .int .i64 rCardsi3x2], .bool true] hQ (show ResOK _ _ _ [.cell 4 74, .tmp 5] _ from .cell (by kernel_rfl) (loadOK_row (fun _=>by kernel_rfl) (fun _=>by kernel_rfl) q9) (.tmp (by kernel_rfl) (.nil))) h
end seg_Mem_Seg

/-! (*moraine/seg.Mem).at -/
namespace seg_Mem_at
def kk0 := Func.code Tryz.f49
def kk1 := Code.fa kk0
def kk2 := Code.fb kk0
def kk3 := Code.fa kk2
def kk4 := Code.fb kk2
def kk5 := Code.fa kk3
def kk6 := Code.fb kk3
def kk7 := Code.fa kk6
def kk8 := Code.fb kk6
def kk9 := Code.fa kk7
def kk10 := Code.fb kk7
def kk11 := Code.fa kk4
def kk12 := Code.fb kk4
end seg_Mem_at
def seg_Mem_at.pt (m : Option Addr) (seg : Int) (H : Array Obj) (R : Value → Array Obj → Prop) : Prop :=
 onPtr m (
 R (.pointer none) H) (fun mA =>
 if seg < 0 then (
 R (.pointer none) H)
 else
 ∃ xB : Option Addr, ∃ xN : Nat, ∃ xC : Nat, hat H mA = some (.slice xB xN xC) ∧
 if seg ≥ (xN : Int) then (
 R (.pointer none) H)
 else
 ∃ xB_2 : Option Addr, ∃ xN_2 : Nat, ∃ xC_2 : Nat, hat H mA = some (.slice xB_2 xN_2 xC_2) ∧
 ∃ xB2A : Addr, xB_2 = some xB2A ∧
 ((0 : Int) ≤ seg ∧ seg < (xN_2 : Int)) ∧
 ∃ x : Int, hat H ((xB2A.add (Int.toNat seg * 72)).add 7) = some (.int .i64 x) ∧
 if x = 0 then (
 R (.pointer none) H)
 else
 ∃ xB_3 : Option Addr, ∃ xN_3 : Nat, ∃ xC_3 : Nat, hat H mA = some (.slice xB_3 xN_3 xC_3) ∧
 ∃ xB3A : Addr, xB_3 = some xB3A ∧
 ((0 : Int) ≤ seg ∧ seg < (xN_3 : Int)) ∧
 R (.pointer (some (xB3A.add (Int.toNat seg * 72)))) H)
namespace seg_Mem_at
set_option maxRecDepth 100000 in
theorem link {m : Option Addr} {seg : Int} {H : Array Obj} {R : Value → Array Obj → Prop} (h : pt m seg H R) : C m seg H R := by
 refine S_enter (fn := Tryz.f49) (c := kk0) 37 Tryz.func49 (by kernel_rfl) (by kernel_rfl) (Nat.le_of_ble_eq_true (by kernel_rfl)) ?_
 intro w0 Q hQ
 unfold pt at h
 refine S_sub [(0, .pointer m), (1, .int .i64 seg)] (sb (by kernel_rfl)) ?_
 refine T_sr 0 kk1 kk2 ?_
 refine N_run 1 [(0, .pointer m), (1, .int .i64 seg)] (fun _=>by kernel_rfl) ?_
 refine T_e ?_
 refine S_seq kk3 kk4 (by kernel_rfl) ?_
 refine T_sr 1 kk5 kk6 ?_
 refine N_run 1 [(0, .pointer m), (1, .int .i64 seg), (5, .pointer m)] (fun _=>by kernel_rfl) ?_
 rcases m with _ | mA
 ·rw [onPtr_none] at h
  refine N_run 25 [(0, .pointer none), (1, .int .i64 seg), (30, .bool true)] (fun _=>by kernel_rfl) ?_
  refine T_e ?_
  refine S_condT (.tmp 30) kk7 kk8 (by kernel_rfl) (by kernel_rfl) ?_
  refine T_sr 2 kk9 kk10 ?_
  refine N_run 1 [(4, .pointer none)] (fun _=>by kernel_rfl) ?_
  refine T_e ?_
  refine S_ret (by kernel_rfl) ?_
  show At _ _ _ _ _ (Q .ret)
  exact S_done (fn := Tryz.f49) [.pointer none] hQ (show ResOK _ _ _ [.tmp 4] _ from .tmp (by kernel_rfl) (.nil)) h
 ·rw [onPtr_some] at h
  refine N_run 6 [(0, .pointer (some mA)), (1, .int .i64 seg), (11, .bool (decide (seg < 0)))] (fun _=>by kernel_rfl) ?_
  by_cases c1 : seg < 0
  ·rw [if_pos c1] at h
   have b2 : (decide (seg < 0)) = true := decide_eq_true c1
   refine N_env [(0, .pointer (some mA)), (1, .int .i64 seg), (11, .bool true)] (by simp only [b2, Bool.not_true, Bool.not_false]) ?_
   clear b2
   refine N_run 19 [(0, .pointer (some mA)), (1, .int .i64 seg), (30, .bool true)] (fun _=>by kernel_rfl) ?_
   refine T_e ?_
   refine S_condT (.tmp 30) kk7 kk8 (by kernel_rfl) (by kernel_rfl) ?_
   refine T_sr 2 kk9 kk10 ?_
   refine N_run 1 [(4, .pointer none)] (fun _=>by kernel_rfl) ?_
   refine T_e ?_
   refine S_ret (by kernel_rfl) ?_
   show At _ _ _ _ _ (Q .ret)
   exact S_done (fn := Tryz.f49) [.pointer none] hQ (show ResOK _ _ _ [.tmp 4] _ from .tmp (by kernel_rfl) (.nil)) h
  ·rw [if_neg c1] at h
   have b2 : (decide (seg < 0)) = false := decide_eq_false c1
   refine N_env [(0, .pointer (some mA)), (1, .int .i64 seg), (11, .bool false)] (by simp only [b2, Bool.not_true, Bool.not_false]) ?_
   clear b2
   refine N_run 4 [(0, .pointer (some mA)), (1, .int .i64 seg), (11, .bool false), (12, .int .i64 seg), (15, .pointer (some mA))] (fun _=>by kernel_rfl) ?_
   obtain ⟨xB, xN, xC, q3, h⟩ := h
   refine N_val (some 16) (loadN 101 (.pointer (some mA))) (.slice xB xN xC) (fun _=>by kernel_rfl) (loadN_run (loadOK_one (fun _=>by kernel_rfl) q3)) [(0, .pointer (some mA)), (1, .int .i64 seg), (11, .bool false), (12, .int .i64 seg), (16, .slice xB xN xC)] (ps (by kernel_rfl)) ?_
   refine N_run 4 [(0, .pointer (some mA)), (1, .int .i64 seg), (20, .bool (decide (seg ≥ (xN : Int))))] (fun _=>by kernel_rfl) ?_
   by_cases c4 : seg ≥ (xN : Int)
   ·rw [if_pos c4] at h
    have b5 : (decide (seg ≥ (xN : Int))) = true := decide_eq_true c4
    refine N_env [(0, .pointer (some mA)), (1, .int .i64 seg), (20, .bool true)] (by simp only [b5, Bool.not_true, Bool.not_false]) ?_
    clear b5
    refine N_run 10 [(0, .pointer (some mA)), (1, .int .i64 seg), (30, .bool true)] (fun _=>by kernel_rfl) ?_
    refine T_e ?_
    refine S_condT (.tmp 30) kk7 kk8 (by kernel_rfl) (by kernel_rfl) ?_
    refine T_sr 2 kk9 kk10 ?_
    refine N_run 1 [(4, .pointer none)] (fun _=>by kernel_rfl) ?_
    refine T_e ?_
    refine S_ret (by kernel_rfl) ?_
    show At _ _ _ _ _ (Q .ret)
    exact S_done (fn := Tryz.f49) [.pointer none] hQ (show ResOK _ _ _ [.tmp 4] _ from .tmp (by kernel_rfl) (.nil)) h
   ·rw [if_neg c4] at h
    have b5 : (decide (seg ≥ (xN : Int))) = false := decide_eq_false c4
    refine N_env [(0, .pointer (some mA)), (1, .int .i64 seg), (20, .bool false)] (by simp only [b5, Bool.not_true, Bool.not_false]) ?_
    clear b5
    refine N_run 3 [(0, .pointer (some mA)), (1, .int .i64 seg), (20, .bool false), (23, .pointer (some mA))] (fun _=>by kernel_rfl) ?_
    obtain ⟨xB_2, xN_2, xC_2, q6, h⟩ := h
    refine N_val (some 24) (loadN 101 (.pointer (some mA))) (.slice xB_2 xN_2 xC_2) (fun _=>by kernel_rfl) (loadN_run (loadOK_one (fun _=>by kernel_rfl) q6)) [(0, .pointer (some mA)), (1, .int .i64 seg), (20, .bool false), (24, .slice xB_2 xN_2 xC_2)] (ps (by kernel_rfl)) ?_
    refine N_run 1 [(0, .pointer (some mA)), (1, .int .i64 seg), (20, .bool false), (24, .slice xB_2 xN_2 xC_2), (25, .int .i64 seg)] (fun _=>by kernel_rfl) ?_
    obtain ⟨xB2A, rfl, h⟩ := h
    obtain ⟨q7, h⟩ := h
    refine N_val (some 26) (indexAtN 101 (.slice (some xB2A) xN_2 xC_2) (.int .i64 seg)) (.pointer (some (xB2A.add (Int.toNat seg * 72)))) (fun _=>by kernel_rfl) (fun w _ => indexAt_run (P := Tryz.prog) (t := 101) (elem := 107) (sz := 72) (a := xB2A) (len := xN_2) (cap := xC_2) (k := .i64) (i := seg) Tryz.underlying101 (fun _=>by kernel_rfl) q7.1 q7.2 w) [(0, .pointer (some mA)), (1, .int .i64 seg), (20, .bool false), (26, .pointer (some (xB2A.add (Int.toNat seg * 72))))] (ps (by kernel_rfl)) ?_
    refine N_run 1 [(0, .pointer (some mA)), (1, .int .i64 seg), (20, .bool false), (27, .pointer (some ((xB2A.add (Int.toNat seg * 72)).add 7)))] (fun _=>by kernel_rfl) ?_
    obtain ⟨x, q8, h⟩ := h
    refine N_val (some 28) (loadN 3 (.pointer (some ((xB2A.add (Int.toNat seg * 72)).add 7)))) (.int .i64 x) (fun _=>by kernel_rfl) (loadN_run (loadOK_one (fun _=>by kernel_rfl) q8)) [(0, .pointer (some mA)), (1, .int .i64 seg), (20, .bool false), (28, .int .i64 x)] (ps (by kernel_rfl)) ?_
    refine N_run 2 [(0, .pointer (some mA)), (1, .int .i64 seg), (30, .bool (x == 0))] (fun _=>by kernel_rfl) ?_
    refine T_e ?_
    by_cases c9 : x = 0
    ·rw [if_pos c9] at h
     have b10 : (x == 0) = true := beq_iff_eq.mpr c9
     refine S_env [(0, .pointer (some mA)), (1, .int .i64 seg), (30, .bool true)] (by simp only [b10, Bool.not_true, Bool.not_false]) ?_
     clear b10
     refine S_condT (.tmp 30) kk7 kk8 (by kernel_rfl) (by kernel_rfl) ?_
     refine T_sr 2 kk9 kk10 ?_
     refine N_run 1 [(4, .pointer none)] (fun _=>by kernel_rfl) ?_
     refine T_e ?_
     refine S_ret (by kernel_rfl) ?_
     show At _ _ _ _ _ (Q .ret)
     exact S_done (fn := Tryz.f49) [.pointer none] hQ (show ResOK _ _ _ [.tmp 4] _ from .tmp (by kernel_rfl) (.nil)) h
    ·rw [if_neg c9] at h
     have b10 : (x == 0) = false := beq_eq_false_iff_ne.mpr c9
     refine S_env [(0, .pointer (some mA)), (1, .int .i64 seg), (30, .bool false)] (by simp only [b10, Bool.not_true, Bool.not_false]) ?_
     clear b10
     refine S_condF (.tmp 30) kk7 kk8 (by kernel_rfl) (by kernel_rfl) ?_
     refine S_skip (by kernel_rfl) ?_
     refine S_then ?_
     refine T_sr 3 kk11 kk12 ?_
     refine N_run 3 [(1, .int .i64 seg), (33, .pointer (some mA))] (fun _=>by kernel_rfl) ?_
     obtain ⟨xB_3, xN_3, xC_3, q11, h⟩ := h
     refine N_val (some 34) (loadN 101 (.pointer (some mA))) (.slice xB_3 xN_3 xC_3) (fun _=>by kernel_rfl) (loadN_run (loadOK_one (fun _=>by kernel_rfl) q11)) [(1, .int .i64 seg), (34, .slice xB_3 xN_3 xC_3)] (ps (by kernel_rfl)) ?_
     refine N_run 1 [(34, .slice xB_3 xN_3 xC_3), (35, .int .i64 seg)] (fun _=>by kernel_rfl) ?_
     obtain ⟨xB3A, rfl, h⟩ := h
     obtain ⟨q12, h⟩ := h
     refine N_val (some 36) (indexAtN 101 (.slice (some xB3A) xN_3 xC_3) (.int .i64 seg)) (.pointer (some (xB3A.add (Int.toNat seg * 72)))) (fun _=>by kernel_rfl) (fun w _ => indexAt_run (P := Tryz.prog) (t := 101) (elem := 107) (sz := 72) (a := xB3A) (len := xN_3) (cap := xC_3) (k := .i64) (i := seg) Tryz.underlying101 (fun _=>by kernel_rfl) q12.1 q12.2 w) [(36, .pointer (some (xB3A.add (Int.toNat seg * 72))))] (ps (by kernel_rfl)) ?_
     refine N_run 1 [(4, .pointer (some (xB3A.add (Int.toNat seg * 72))))] (fun _=>by kernel_rfl) ?_
     refine T_e ?_
     refine S_ret (by kernel_rfl) ?_
     show At _ _ _ _ _ (Q .ret)
     exact S_done (fn := Tryz.f49) [.pointer (some (xB3A.add (Int.toNat seg * 72)))] hQ (show ResOK _ _ _ [.tmp 4] _ from .tmp (by kernel_rfl) (.nil)) h
end seg_Mem_at

/-! (*moraine/seg.Mem).Read -/
namespace seg_Mem_Read
def kk0 := Func.code Tryz.f51
def kk1 := Code.fa kk0
def kk2 := Code.fb kk0
def kk3 := Code.fa kk2
def kk4 := Code.fb kk2
def kk5 := Code.fa kk3
def kk6 := Code.fb kk3
def kk7 := Code.fa kk6
def kk8 := Code.fb kk6
def kk9 := Code.fa kk8
def kk10 := Code.fb kk8
def kk11 := Code.fa kk4
def kk12 := Code.fb kk4
def kk13 := Code.fa kk9
def kk14 := Code.fb kk9
end seg_Mem_Read
def seg_Mem_Read.pt (m : Option Addr) (addr : Int) (H : Array Obj) (R : Value → Array Obj → Prop) : Prop :=
 seg_Mem_word.C m addr H (fun v H1 => ∃ x : Option Addr, v = .pointer x ∧ 
 onPtr x (
 R (.tuple #[.int .u64 0, .int .i64 18]) H1) (fun xA =>
 ∃ x_2 : Int, hat H1 xA = some (.int .u64 x_2) ∧
 R (.tuple #[.int .u64 x_2, .int .i64 0]) H1))
namespace seg_Mem_Read
set_option maxRecDepth 100000 in
theorem link {m : Option Addr} {addr : Int} {H : Array Obj} {R : Value → Array Obj → Prop} (h : pt m addr H R) : C m addr H R := by
 refine S_enter (fn := Tryz.f51) (c := kk0) 15 Tryz.func51 (by kernel_rfl) (by kernel_rfl) (Nat.le_of_ble_eq_true (by kernel_rfl)) ?_
 intro w0 Q hQ
 unfold pt at h
 refine S_sub [(0, .pointer m), (1, .int .i64 addr)] (sb (by kernel_rfl)) ?_
 refine T_sr 0 kk1 kk2 ?_
 refine N_run 2 [(0, .pointer m), (1, .int .i64 addr)] (fun _=>by kernel_rfl) ?_
 refine T_e ?_
 refine S_seq kk3 kk4 (by kernel_rfl) ?_
 refine T_sr 1 kk5 kk6 ?_
 refine N_run 2 [(7, .pointer m), (8, .int .i64 addr)] (fun _=>by kernel_rfl) ?_
 refine N_call (some 9) 73 #[.pointer m, .int .i64 addr] (fun _=>by kernel_rfl) h ?_; clear h
 rintro v H1 ⟨x, rfl, h⟩
 refine ⟨[(9, .pointer x)], ps (by kernel_rfl), ?_⟩
 refine N_run 1 [(6, .pointer x)] (fun _=>by kernel_rfl) ?_
 refine T_e ?_
 refine T_sr 2 kk7 kk8 ?_
 refine N_run 1 [(6, .pointer x), (10, .pointer x)] (fun _=>by kernel_rfl) ?_
 rcases x with _ | xA
 ·rw [onPtr_none] at h
  refine N_run 1 [(6, .pointer none), (11, .bool false)] (fun _=>by kernel_rfl) ?_
  refine T_e ?_
  refine S_condF (.tmp 11) kk9 kk10 (by kernel_rfl) (by kernel_rfl) ?_
  refine S_skip (by kernel_rfl) ?_
  refine S_then ?_
  refine T_sr 4 kk11 kk12 ?_
  refine N_run 2 [(4, .int .u64 0), (5, .int .i64 18)] (fun _=>by kernel_rfl) ?_
  refine T_e ?_
  refine S_ret (by kernel_rfl) ?_
  show At _ _ _ _ _ (Q .ret)
  exact S_done (fn := Tryz.f51) [.int .u64 0, .int .i64 18] hQ (show ResOK _ _ _ [.tmp 4, .tmp 5] _ from .tmp (by kernel_rfl) (.tmp (by kernel_rfl) (.nil))) h
 ·rw [onPtr_some] at h
  refine N_run 1 [(6, .pointer (some xA)), (11, .bool true)] (fun _=>by kernel_rfl) ?_
  refine T_e ?_
  refine S_condT (.tmp 11) kk9 kk10 (by kernel_rfl) (by kernel_rfl) ?_
  refine T_sr 3 kk13 kk14 ?_
  refine N_run 2 [(13, .pointer (some xA))] (fun _=>by kernel_rfl) ?_
  obtain ⟨x_2, q1, h⟩ := h
  refine N_val (some 14) (loadN 26 (.pointer (some xA))) (.int .u64 x_2) (fun _=>by kernel_rfl) (loadN_run (loadOK_one (fun _=>by kernel_rfl) q1)) [(14, .int .u64 x_2)] (ps (by kernel_rfl)) ?_
  refine N_run 2 [(4, .int .u64 x_2), (5, .int .i64 0)] (fun _=>by kernel_rfl) ?_
  refine T_e ?_
  refine S_ret (by kernel_rfl) ?_
  show At _ _ _ _ _ (Q .ret)
  exact S_done (fn := Tryz.f51) [.int .u64 x_2, .int .i64 0] hQ (show ResOK _ _ _ [.tmp 4, .tmp 5] _ from .tmp (by kernel_rfl) (.tmp (by kernel_rfl) (.nil))) h
end seg_Mem_Read

/-! (*moraine/seg.Mem).Write -/
namespace seg_Mem_Write
def kk0 := Func.code Tryz.f54
def kk1 := Code.fa kk0
def kk2 := Code.fb kk0
def kk3 := Code.fa kk2
def kk4 := Code.fb kk2
def kk5 := Code.fa kk4
def kk6 := Code.fb kk4
def kk7 := Code.fa kk5
def kk8 := Code.fb kk5
def kk9 := Code.fa kk8
def kk10 := Code.fb kk8
def kk11 := Code.fa kk9
def kk12 := Code.fb kk9
def kk13 := Code.fa kk6
def kk14 := Code.fb kk6
def kk15 := Code.fa kk14
def kk16 := Code.fb kk14
end seg_Mem_Write
def seg_Mem_Write.pt (m : Option Addr) (addr : Int) (wv : Int) (H : Array Obj) (R : Value → Array Obj → Prop) : Prop :=
 seg_Mem_word.C m addr H (fun v H1 => ∃ x : Option Addr, v = .pointer x ∧ 
 onPtr x (
 R (.int .i64 18) H1) (fun xA =>
 (CanPuts H1 xA 0 1) ∧ ∀ H2 : Array Obj, H2 = hputs H1 xA [.int .u64 wv] 0 →
 R (.int .i64 0) H2))
namespace seg_Mem_Write
set_option maxRecDepth 100000 in
theorem link {m : Option Addr} {addr : Int} {wv : Int} {H : Array Obj} {R : Value → Array Obj → Prop} (h : pt m addr wv H R) : C m addr wv H R := by
 refine S_enter (fn := Tryz.f54) (c := kk0) 16 Tryz.func54 (by kernel_rfl) (by kernel_rfl) (Nat.le_of_ble_eq_true (by kernel_rfl)) ?_
 intro w0 Q hQ
 unfold pt at h
 refine S_sub [(0, .pointer m), (1, .int .i64 addr), (2, .int .u64 wv)] (sb (by kernel_rfl)) ?_
 refine T_sr 0 kk1 kk2 ?_
 refine N_run 1 [(0, .pointer m), (1, .int .i64 addr), (2, .int .u64 wv)] (fun _=>by kernel_rfl) ?_
 refine T_e ?_
 refine T_sr 1 kk3 kk4 ?_
 refine N_run 2 [(2, .int .u64 wv), (8, .pointer m), (9, .int .i64 addr)] (fun _=>by kernel_rfl) ?_
 refine N_call (some 10) 73 #[.pointer m, .int .i64 addr] (fun _=>by kernel_rfl) h ?_; clear h
 rintro v H1 ⟨x, rfl, h⟩
 refine ⟨[(2, .int .u64 wv), (10, .pointer x)], ps (by kernel_rfl), ?_⟩
 refine N_run 1 [(2, .int .u64 wv), (7, .pointer x)] (fun _=>by kernel_rfl) ?_
 refine T_e ?_
 refine S_seq kk5 kk6 (by kernel_rfl) ?_
 refine T_sr 2 kk7 kk8 ?_
 refine N_run 1 [(2, .int .u64 wv), (7, .pointer x), (11, .pointer x)] (fun _=>by kernel_rfl) ?_
 rcases x with _ | xA
 ·rw [onPtr_none] at h
  refine N_run 1 [(2, .int .u64 wv), (7, .pointer none), (12, .bool true)] (fun _=>by kernel_rfl) ?_
  refine T_e ?_
  refine S_condT (.tmp 12) kk9 kk10 (by kernel_rfl) (by kernel_rfl) ?_
  refine T_sr 3 kk11 kk12 ?_
  refine N_run 1 [(6, .int .i64 18)] (fun _=>by kernel_rfl) ?_
  refine T_e ?_
  refine S_ret (by kernel_rfl) ?_
  show At _ _ _ _ _ (Q .ret)
  exact S_done (fn := Tryz.f54) [.int .i64 18] hQ (show ResOK _ _ _ [.tmp 6] _ from .tmp (by kernel_rfl) (.nil)) h
 ·rw [onPtr_some] at h
  refine N_run 1 [(2, .int .u64 wv), (7, .pointer (some xA)), (12, .bool false)] (fun _=>by kernel_rfl) ?_
  refine T_e ?_
  refine S_condF (.tmp 12) kk9 kk10 (by kernel_rfl) (by kernel_rfl) ?_
  refine S_skip (by kernel_rfl) ?_
  refine S_then ?_
  refine T_sr 4 kk13 kk14 ?_
  refine N_run 3 [(14, .int .u64 wv), (15, .pointer (some xA))] (fun _=>by kernel_rfl) ?_
  obtain ⟨q2, h⟩ := h
  refine N_skipop none (storeN 26 (.pointer (some xA)) (.int .u64 wv)) (fun Hz => Hz = hputs H1 xA [.int .u64 wv] 0) (fun _=>by kernel_rfl) (ss_store [.int .u64 wv] 1 (by kernel_rfl) (by kernel_rfl) (fun _=>by kernel_rfl) (by kernel_rfl) q2) ?_
  intro H2 e1
  replace h := h H2 e1
  refine ⟨[], ps (by kernel_rfl), ?_⟩
  refine T_e ?_
  refine T_sr 5 kk15 kk16 ?_
  refine N_run 1 [(6, .int .i64 0)] (fun _=>by kernel_rfl) ?_
  refine T_e ?_
  refine S_ret (by kernel_rfl) ?_
  show At _ _ _ _ _ (Q .ret)
  exact S_done (fn := Tryz.f54) [.int .i64 0] hQ (show ResOK _ _ _ [.tmp 6] _ from .tmp (by kernel_rfl) (.nil)) h
end seg_Mem_Write

/-! moraine/seg.New -/
namespace seg_New
def kk0 := Func.code Tryz.f68
def kk1 := Code.fa kk0
def kk2 := Code.fb kk0
def kk3 := Code.fa kk2
def kk4 := Code.fb kk2
def kk5 := Code.fa kk3
def kk6 := Code.fb kk3
def kk7 := Code.fa kk6
def kk8 := Code.fb kk6
def kk9 := Code.fa kk7
def kk10 := Code.fb kk7
def kk11 := Code.fa kk4
def kk12 := Code.fb kk4
end seg_New
def seg_New.pt (limit : Int) (H : Array Obj) (R : Value → Array Obj → Prop) : Prop :=
 if ((decide (limit < 8)) || (decide (limit > 1024))) = true then (
 R (.tuple #[.pointer none, .int .i64 1]) H)
 else
 0 ≤ limit ∧ limit ≤ limit ∧ 576 * limit ≤ 2 ^ 48 ∧ limit ≤ 9223372036854775807 ∧
 ∀ (b : Nat) (H1 : Array Obj), b = H.size → H1 = H.push (.cells (Builtin.zeroCells (List.replicate 8 (.int .i64 0) ++ List.replicate 64 (.int .u64 0) : List Value).toArray (Int.toNat limit)) 107) →
 ∀ (b_2 : Nat) (H2 : Array Obj), b_2 = H1.size → H2 = H1.push (.cells #[.slice (some (Addr.mk b 0 none)) (Int.toNat limit) (Int.toNat limit), .int .i64 0, .int .i64 limit] 103) →
 R (.tuple #[.pointer (some (Addr.mk b_2 0 none)), .int .i64 0]) H2
namespace seg_New
set_option maxRecDepth 100000 in
theorem link {limit : Int} {H : Array Obj} {R : Value → Array Obj → Prop} (h : pt limit H R) : C limit H R := by
 refine S_enter (fn := Tryz.f68) (c := kk0) 15 Tryz.func68 (by kernel_rfl) (by kernel_rfl) (Nat.le_of_ble_eq_true (by kernel_rfl)) ?_
 intro w0 Q hQ
 unfold pt at h
 refine S_sub [(0, .int .i64 limit)] (sb (by kernel_rfl)) ?_
 refine T_sr 0 kk1 kk2 ?_
 refine N_run 2 [(0, .int .i64 limit)] (fun _=>by kernel_rfl) ?_
 refine T_e ?_
 refine S_seq kk3 kk4 (by kernel_rfl) ?_
 refine T_sr 1 kk5 kk6 ?_
 refine N_cut [(0, .int .i64 limit), (9, .bool ((decide (limit < 8)) || (decide (limit > 1024))))] ?_ ?_
 ·refine S_then ?_
  by_cases c3 : ((decide (limit < 8)) || (decide (limit > 1024))) = true
  ·rw [if_pos c3] at h
   have b4 : ((decide (limit < 8)) || (decide (limit > 1024))) = true := c3
   refine S_env [(0, .int .i64 limit), (9, .bool true)] (by simp only [b4, Bool.not_true, Bool.not_false]) ?_
   clear b4
   refine S_condT (.tmp 9) kk7 kk8 (by kernel_rfl) (by kernel_rfl) ?_
   refine T_sr 2 kk9 kk10 ?_
   refine N_run 2 [(2, .pointer none), (3, .int .i64 1)] (fun _=>by kernel_rfl) ?_
   refine T_e ?_
   refine S_ret (by kernel_rfl) ?_
   show At _ _ _ _ _ (Q .ret)
   exact S_done (fn := Tryz.f68) [.pointer none, .int .i64 1] hQ (show ResOK _ _ _ [.tmp 2, .tmp 3] _ from .tmp (by kernel_rfl) (.tmp (by kernel_rfl) (.nil))) h
  ·rw [if_neg c3] at h
   have b4 : ((decide (limit < 8)) || (decide (limit > 1024))) = false := eq_false_of_ne_true c3
   refine S_env [(0, .int .i64 limit), (9, .bool false)] (by simp only [b4, Bool.not_true, Bool.not_false]) ?_
   clear b4
   refine S_condF (.tmp 9) kk7 kk8 (by kernel_rfl) (by kernel_rfl) ?_
   refine S_skip (by kernel_rfl) ?_
   refine S_then ?_
   refine T_sr 3 kk11 kk12 ?_
   refine N_run 1 [(0, .int .i64 limit), (10, .int .i64 limit)] (fun _=>by kernel_rfl) ?_
   obtain ⟨q5, q6, q7, q8, h⟩ := h
   refine N_op (some 11) (makeSliceN 101 (.int .i64 limit) (.int .i64 limit)) (fun v Hz => v = Value.slice (some (Addr.mk H.size 0 none)) (Int.toNat limit) (Int.toNat limit) ∧ Hz = H.push (.cells (Builtin.zeroCells (List.replicate 8 (.int .i64 0) ++ List.replicate 64 (.int .u64 0) : List Value).toArray (Int.toNat limit)) 107)) (fun _=>by kernel_rfl) (ss_make (T := 107) (zero := .agg (List.replicate 8 (.int .i64 0) ++ List.replicate 64 (.int .u64 0) : List Value).toArray) Tryz.underlying101 (show Tryz.prog.info? 107 = some Tryz.t107 from by kernel_rfl) (by kernel_rfl) q5 q6 q7 q8 (by kernel_rfl) (by decide)) ?_
   rintro _ H1 ⟨rfl, e10⟩
   obtain ⟨b, e9⟩ : ∃ b, b = H.size := ⟨_, rfl⟩
   replace h := h b H1 e9 e10
   rw [← e9]
   refine ⟨[(0, .int .i64 limit), (11, .slice (some (Addr.mk b 0 none)) (Int.toNat limit) (Int.toNat limit))], ps (by kernel_rfl), ?_⟩
   refine N_run 2 [(13, .agg #[.slice (some (Addr.mk b 0 none)) (Int.toNat limit) (Int.toNat limit), .int .i64 0, .int .i64 limit])] (fun _=>by kernel_rfl) ?_
   refine N_new (some 14) (fun b => .pointer (some (Addr.mk b 0 none))) (.cells #[.slice (some (Addr.mk b 0 none)) (Int.toNat limit) (Int.toNat limit), .int .i64 0, .int .i64 limit] 103) (fun _=>by kernel_rfl) ?_
   intro b_2 H2 e11 e12
   replace h := h b_2 H2 e11 e12
   refine ⟨[(14, .pointer (some (Addr.mk b_2 0 none)))], ps (by kernel_rfl), ?_⟩
   refine N_run 2 [(2, .pointer (some (Addr.mk b_2 0 none))), (3, .int .i64 0)] (fun _=>by kernel_rfl) ?_
   refine T_e ?_
   refine S_ret (by kernel_rfl) ?_
   show At _ _ _ _ _ (Q .ret)
   exact S_done (fn := Tryz.f68) [.pointer (some (Addr.mk b_2 0 none)), .int .i64 0] hQ (show ResOK _ _ _ [.tmp 2, .tmp 3] _ from .tmp (by kernel_rfl) (.tmp (by kernel_rfl) (.nil))) h
 ·intro hk
  refine N_run 3 [(0, .int .i64 limit), (6, .bool (decide (limit < 8)))] (fun _=>by kernel_rfl) ?_
  by_cases c1 : limit < 8
  ·have b2 : (decide (limit < 8)) = true := decide_eq_true c1
   refine N_env [(0, .int .i64 limit), (6, .bool true)] (by simp only [b2, Bool.not_true, Bool.not_false]) ?_
   refine N_run 3 [(0, .int .i64 limit), (9, .bool true)] (fun _=>by kernel_rfl) ?_
   refine N_end (by kernel_rfl) ?_
   refine S_env [(0, .int .i64 limit), (9, .bool ((decide (limit < 8)) || (decide (limit > 1024))))] (by simp only [b2, Bool.true_or, Bool.false_or, Bool.or_true, Bool.or_false, Bool.true_and, Bool.false_and, Bool.and_true, Bool.and_false, Bool.not_true, Bool.not_false, cond_true, cond_false]) ?_
   exact hk
  ·have b2 : (decide (limit < 8)) = false := decide_eq_false c1
   refine N_env [(0, .int .i64 limit), (6, .bool false)] (by simp only [b2, Bool.not_true, Bool.not_false]) ?_
   refine N_run 3 [(0, .int .i64 limit), (9, .bool (decide (limit > 1024)))] (fun _=>by kernel_rfl) ?_
   refine N_end (by kernel_rfl) ?_
   refine S_env [(0, .int .i64 limit), (9, .bool ((decide (limit < 8)) || (decide (limit > 1024))))] (by simp only [b2, Bool.true_or, Bool.false_or, Bool.or_true, Bool.or_false, Bool.true_and, Bool.false_and, Bool.and_true, Bool.and_false, Bool.not_true, Bool.not_false, cond_true, cond_false]) ?_
   exact hk
end seg_New

/-! (*moraine/seg.Mem).word -/
namespace seg_Mem_word
def kk0 := Func.code Tryz.f73
def kk1 := Code.fa kk0
def kk2 := Code.fb kk0
def kk3 := Code.fa kk2
def kk4 := Code.fb kk2
def kk5 := Code.fa kk3
def kk6 := Code.fb kk3
def kk7 := Code.fa kk6
def kk8 := Code.fb kk6
def kk9 := Code.fa kk7
def kk10 := Code.fb kk7
def kk11 := Code.fa kk4
def kk12 := Code.fb kk4
def kk13 := Code.fa kk12
def kk14 := Code.fb kk12
def kk15 := Code.fa kk13
def kk16 := Code.fb kk13
def kk17 := Code.fa kk16
def kk18 := Code.fb kk16
def kk19 := Code.fa kk17
def kk20 := Code.fb kk17
def kk21 := Code.fa kk14
def kk22 := Code.fb kk14
end seg_Mem_word
def seg_Mem_word.pt (m : Option Addr) (addr : Int) (H : Array Obj) (R : Value → Array Obj → Prop) : Prop :=
 if addr < 0 then (
 R (.pointer none) H)
 else
 seg_Mem_at.C m (IntKind.wrap .i64 (Int.tdiv addr 64)) H (fun v H1 => ∃ x : Option Addr, v = .pointer x ∧ 
 onPtr x (
 R (.pointer none) H1) (fun xA =>
 ∃ x_2 : Int, hat H1 (xA.add 2) = some (.int .i64 x_2) ∧
 if (Int.tmod addr 64) ≥ x_2 then (
 R (.pointer none) H1)
 else
 ((0 : Int) ≤ (Int.tmod addr 64) ∧ (Int.tmod addr 64) < (64 : Int)) ∧
 R (.pointer (some ((xA.add 8).add (Int.toNat (Int.tmod addr 64) * 1)))) H1))
namespace seg_Mem_word
set_option maxRecDepth 100000 in
theorem link {m : Option Addr} {addr : Int} {H : Array Obj} {R : Value → Array Obj → Prop} (h : pt m addr H R) : C m addr H R := by
 refine S_enter (fn := Tryz.f73) (c := kk0) 30 Tryz.func73 (by kernel_rfl) (by kernel_rfl) (Nat.le_of_ble_eq_true (by kernel_rfl)) ?_
 intro w0 Q hQ
 unfold pt at h
 refine S_sub [(0, .pointer m), (1, .int .i64 addr)] (sb (by kernel_rfl)) ?_
 refine T_sr 0 kk1 kk2 ?_
 refine N_run 1 [(0, .pointer m), (1, .int .i64 addr)] (fun _=>by kernel_rfl) ?_
 refine T_e ?_
 refine S_seq kk3 kk4 (by kernel_rfl) ?_
 refine T_sr 1 kk5 kk6 ?_
 refine N_run 2 [(0, .pointer m), (1, .int .i64 addr), (7, .bool (decide (addr < 0)))] (fun _=>by kernel_rfl) ?_
 refine T_e ?_
 by_cases c1 : addr < 0
 ·rw [if_pos c1] at h
  have b2 : (decide (addr < 0)) = true := decide_eq_true c1
  refine S_env [(0, .pointer m), (1, .int .i64 addr), (7, .bool true)] (by simp only [b2, Bool.not_true, Bool.not_false]) ?_
  clear b2
  refine S_condT (.tmp 7) kk7 kk8 (by kernel_rfl) (by kernel_rfl) ?_
  refine T_sr 2 kk9 kk10 ?_
  refine N_run 1 [(4, .pointer none)] (fun _=>by kernel_rfl) ?_
  refine T_e ?_
  refine S_ret (by kernel_rfl) ?_
  show At _ _ _ _ _ (Q .ret)
  exact S_done (fn := Tryz.f73) [.pointer none] hQ (show ResOK _ _ _ [.tmp 4] _ from .tmp (by kernel_rfl) (.nil)) h
 ·rw [if_neg c1] at h
  have b2 : (decide (addr < 0)) = false := decide_eq_false c1
  refine S_env [(0, .pointer m), (1, .int .i64 addr), (7, .bool false)] (by simp only [b2, Bool.not_true, Bool.not_false]) ?_
  clear b2
  refine S_condF (.tmp 7) kk7 kk8 (by kernel_rfl) (by kernel_rfl) ?_
  refine S_skip (by kernel_rfl) ?_
  refine S_then ?_
  refine T_sr 3 kk11 kk12 ?_
  refine N_run 3 [(1, .int .i64 addr), (8, .pointer m), (10, .int .i64 (IntKind.wrap .i64 (Int.tdiv addr 64)))] (fun _=>by kernel_rfl) ?_
  refine N_call (some 11) 49 #[.pointer m, .int .i64 (IntKind.wrap .i64 (Int.tdiv addr 64))] (fun _=>by kernel_rfl) h ?_; clear h
  rintro v H1 ⟨x, rfl, h⟩
  refine ⟨[(1, .int .i64 addr), (11, .pointer x)], ps (by kernel_rfl), ?_⟩
  refine N_run 1 [(1, .int .i64 addr), (5, .pointer x)] (fun _=>by kernel_rfl) ?_
  refine T_e ?_
  refine S_seq kk13 kk14 (by kernel_rfl) ?_
  refine T_sr 4 kk15 kk16 ?_
  refine N_run 1 [(1, .int .i64 addr), (5, .pointer x), (12, .pointer x)] (fun _=>by kernel_rfl) ?_
  rcases x with _ | xA
  ·rw [onPtr_none] at h
   refine N_run 11 [(1, .int .i64 addr), (5, .pointer none), (23, .bool true)] (fun _=>by kernel_rfl) ?_
   refine T_e ?_
   refine S_condT (.tmp 23) kk17 kk18 (by kernel_rfl) (by kernel_rfl) ?_
   refine T_sr 5 kk19 kk20 ?_
   refine N_run 1 [(4, .pointer none)] (fun _=>by kernel_rfl) ?_
   refine T_e ?_
   refine S_ret (by kernel_rfl) ?_
   show At _ _ _ _ _ (Q .ret)
   exact S_done (fn := Tryz.f73) [.pointer none] hQ (show ResOK _ _ _ [.tmp 4] _ from .tmp (by kernel_rfl) (.nil)) h
  ·rw [onPtr_some] at h
   refine N_run 8 [(1, .int .i64 addr), (5, .pointer (some xA)), (14, .bool false), (16, .int .i64 (Int.tmod addr 64)), (20, .pointer (some (xA.add 2)))] (fun _=>by kernel_rfl) ?_
   obtain ⟨x_2, q3, h⟩ := h
   refine N_val (some 21) (loadN 3 (.pointer (some (xA.add 2)))) (.int .i64 x_2) (fun _=>by kernel_rfl) (loadN_run (loadOK_one (fun _=>by kernel_rfl) q3)) [(1, .int .i64 addr), (5, .pointer (some xA)), (14, .bool false), (16, .int .i64 (Int.tmod addr 64)), (21, .int .i64 x_2)] (ps (by kernel_rfl)) ?_
   refine N_run 2 [(1, .int .i64 addr), (5, .pointer (some xA)), (23, .bool (decide ((Int.tmod addr 64) ≥ x_2)))] (fun _=>by kernel_rfl) ?_
   refine T_e ?_
   by_cases c4 : (Int.tmod addr 64) ≥ x_2
   ·rw [if_pos c4] at h
    have b5 : (decide ((Int.tmod addr 64) ≥ x_2)) = true := decide_eq_true c4
    refine S_env [(1, .int .i64 addr), (5, .pointer (some xA)), (23, .bool true)] (by simp only [b5, Bool.not_true, Bool.not_false]) ?_
    clear b5
    refine S_condT (.tmp 23) kk17 kk18 (by kernel_rfl) (by kernel_rfl) ?_
    refine T_sr 5 kk19 kk20 ?_
    refine N_run 1 [(4, .pointer none)] (fun _=>by kernel_rfl) ?_
    refine T_e ?_
    refine S_ret (by kernel_rfl) ?_
    show At _ _ _ _ _ (Q .ret)
    exact S_done (fn := Tryz.f73) [.pointer none] hQ (show ResOK _ _ _ [.tmp 4] _ from .tmp (by kernel_rfl) (.nil)) h
   ·rw [if_neg c4] at h
    have b5 : (decide ((Int.tmod addr 64) ≥ x_2)) = false := decide_eq_false c4
    refine S_env [(1, .int .i64 addr), (5, .pointer (some xA)), (23, .bool false)] (by simp only [b5, Bool.not_true, Bool.not_false]) ?_
    clear b5
    refine S_condF (.tmp 23) kk17 kk18 (by kernel_rfl) (by kernel_rfl) ?_
    refine S_skip (by kernel_rfl) ?_
    refine S_then ?_
    refine T_sr 6 kk21 kk22 ?_
    refine N_run 5 [(26, .int .i64 (Int.tmod addr 64)), (28, .pointer (some (xA.add 8)))] (fun _=>by kernel_rfl) ?_
    obtain ⟨q6, h⟩ := h
    refine N_val (some 29) (indexAtN 105 (.pointer (some (xA.add 8))) (.int .i64 (Int.tmod addr 64))) (.pointer (some ((xA.add 8).add (Int.toNat (Int.tmod addr 64) * 1)))) (fun _=>by kernel_rfl) (fun w _ => indexArr_run (P := Tryz.prog) (t := 105) (elem := 26) (sz := 1) (n := 64) (a := (xA.add 8)) (k := .i64) (i := (Int.tmod addr 64)) Tryz.underlying105 (fun _=>by kernel_rfl) q6.1 q6.2 w) [(29, .pointer (some ((xA.add 8).add (Int.toNat (Int.tmod addr 64) * 1))))] (ps (by kernel_rfl)) ?_
    refine N_run 1 [(4, .pointer (some ((xA.add 8).add (Int.toNat (Int.tmod addr 64) * 1))))] (fun _=>by kernel_rfl) ?_
    refine T_e ?_
    refine S_ret (by kernel_rfl) ?_
    show At _ _ _ _ _ (Q .ret)
    exact S_done (fn := Tryz.f73) [.pointer (some ((xA.add 8).add (Int.toNat (Int.tmod addr 64) * 1)))] hQ (show ResOK _ _ _ [.tmp 4] _ from .tmp (by kernel_rfl) (.nil)) h
end seg_Mem_word

/-! (*moraine/seg.Mem).Bump -/
namespace seg_Mem_Bump
def kk0 := Func.code Tryz.f76
def kk1 := Code.fa kk0
def kk2 := Code.fb kk0
def kk3 := Code.fa kk2
def kk4 := Code.fb kk2
def kk5 := Code.fa kk4
def kk6 := Code.fb kk4
def kk7 := Code.fa kk5
def kk8 := Code.fa kk7
def kk9 := Code.fb kk7
def kk10 := Code.fa kk9
def kk11 := Code.fb kk9
def kk12 := Code.fa kk10
def kk13 := Code.fb kk10
def kk14 := Code.fa kk11
def kk15 := Code.fb kk11
def kk16 := Code.fa kk15
def kk17 := Code.fb kk15
def kk18 := Code.fa kk16
def kk19 := Code.fb kk16
def kk20 := Code.fa kk17
def kk21 := Code.fb kk17
def kk22 := Code.fa kk21
def kk23 := Code.fb kk21
def kk24 := Code.fa kk22
def kk25 := Code.fb kk22
def kk26 := Code.fa kk6
def kk27 := Code.fb kk6
def kk28 := Code.fa kk27
def kk29 := Code.fb kk27
end seg_Mem_Bump
def seg_Mem_Bump.pt (m : Option Addr) (seg : Int) (nv : Int) (H : Array Obj) (R : Value → Array Obj → Prop) : Prop :=
 seg_Mem_at.C m seg H (fun v H1 => ∃ x : Option Addr, v = .pointer x ∧ 
 onPtr x (
 R (.tuple #[.int .i64 0, .int .i64 19]) H1) (fun xA =>
 if nv < 1 then (
 R (.tuple #[.int .i64 0, .int .i64 1]) H1)
 else
 ∃ x_2 : Int, hat H1 (xA.add 2) = some (.int .i64 x_2) ∧
 if nv > (IntKind.wrap .i64 (64 - x_2)) then (
 R (.tuple #[.int .i64 0, .int .i64 2]) H1)
 else
 ∃ x_3 : Int, hat H1 (xA.add 2) = some (.int .i64 x_3) ∧
 (CanPuts H1 (xA.add 2) 0 1) ∧ ∀ H2 : Array Obj, H2 = hputs H1 (xA.add 2) [.int .i64 (IntKind.wrap .i64 (x_3 + nv))] 0 →
 ∃ x_4 : Int, hat H2 (xA.add 2) = some (.int .i64 x_4) ∧
 R (.tuple #[.int .i64 (IntKind.wrap .i64 ((IntKind.wrap .i64 ((IntKind.wrap .i64 (seg * 64)) + x_4)) - nv)), .int .i64 0]) H2))
namespace seg_Mem_Bump
set_option maxRecDepth 100000 in
theorem link {m : Option Addr} {seg : Int} {nv : Int} {H : Array Obj} {R : Value → Array Obj → Prop} (h : pt m seg nv H R) : C m seg nv H R := by
 refine S_enter (fn := Tryz.f76) (c := kk0) 47 Tryz.func76 (by kernel_rfl) (by kernel_rfl) (Nat.le_of_ble_eq_true (by kernel_rfl)) ?_
 intro w0 Q hQ
 unfold pt at h
 refine S_sub [(0, .pointer m), (1, .int .i64 seg), (2, .int .i64 nv)] (sb (by kernel_rfl)) ?_
 refine T_sr 0 kk1 kk2 ?_
 refine N_run 2 [(0, .pointer m), (1, .int .i64 seg), (2, .int .i64 nv)] (fun _=>by kernel_rfl) ?_
 refine T_e ?_
 refine T_sr 1 kk3 kk4 ?_
 refine N_run 2 [(1, .int .i64 seg), (2, .int .i64 nv), (9, .pointer m), (10, .int .i64 seg)] (fun _=>by kernel_rfl) ?_
 refine N_call (some 11) 49 #[.pointer m, .int .i64 seg] (fun _=>by kernel_rfl) h ?_; clear h
 rintro v H1 ⟨x, rfl, h⟩
 refine ⟨[(1, .int .i64 seg), (2, .int .i64 nv), (11, .pointer x)], ps (by kernel_rfl), ?_⟩
 refine N_run 1 [(1, .int .i64 seg), (2, .int .i64 nv), (8, .pointer x)] (fun _=>by kernel_rfl) ?_
 refine T_e ?_
 refine S_seq kk5 kk6 (by kernel_rfl) ?_
 refine S_block 0 kk7 (by kernel_rfl) ?_
 refine T_sr 2 kk8 kk9 ?_
 refine N_run 1 [(1, .int .i64 seg), (2, .int .i64 nv), (8, .pointer x), (13, .pointer x)] (fun _=>by kernel_rfl) ?_
 rcases x with _ | xA
 ·rw [onPtr_none] at h
  refine N_run 2 [(1, .int .i64 seg), (2, .int .i64 nv), (8, .pointer none), (12, .bool true)] (fun _=>by kernel_rfl) ?_
  refine T_e ?_
  refine S_condT (.tmp 12) kk10 kk11 (by kernel_rfl) (by kernel_rfl) ?_
  refine T_sr 3 kk12 kk13 ?_
  refine N_run 2 [(6, .int .i64 0), (7, .int .i64 19)] (fun _=>by kernel_rfl) ?_
  refine T_e ?_
  refine S_ret (by kernel_rfl) ?_
  show At _ _ _ _ _ (Q .ret)
  exact S_done (fn := Tryz.f76) [.int .i64 0, .int .i64 19] hQ (show ResOK _ _ _ [.tmp 6, .tmp 7] _ from .tmp (by kernel_rfl) (.tmp (by kernel_rfl) (.nil))) h
 ·rw [onPtr_some] at h
  refine N_run 2 [(1, .int .i64 seg), (2, .int .i64 nv), (8, .pointer (some xA)), (12, .bool false)] (fun _=>by kernel_rfl) ?_
  refine T_e ?_
  refine S_condF (.tmp 12) kk10 kk11 (by kernel_rfl) (by kernel_rfl) ?_
  refine T_sr 4 kk14 kk15 ?_
  refine N_run 3 [(1, .int .i64 seg), (2, .int .i64 nv), (8, .pointer (some xA)), (15, .bool (decide (nv < 1)))] (fun _=>by kernel_rfl) ?_
  refine T_e ?_
  by_cases c1 : nv < 1
  ·rw [if_pos c1] at h
   have b2 : (decide (nv < 1)) = true := decide_eq_true c1
   refine S_env [(1, .int .i64 seg), (2, .int .i64 nv), (8, .pointer (some xA)), (15, .bool true)] (by simp only [b2, Bool.not_true, Bool.not_false]) ?_
   clear b2
   refine S_condT (.tmp 15) kk16 kk17 (by kernel_rfl) (by kernel_rfl) ?_
   refine T_sr 5 kk18 kk19 ?_
   refine N_run 2 [(6, .int .i64 0), (7, .int .i64 1)] (fun _=>by kernel_rfl) ?_
   refine T_e ?_
   refine S_ret (by kernel_rfl) ?_
   show At _ _ _ _ _ (Q .ret)
   exact S_done (fn := Tryz.f76) [.int .i64 0, .int .i64 1] hQ (show ResOK _ _ _ [.tmp 6, .tmp 7] _ from .tmp (by kernel_rfl) (.tmp (by kernel_rfl) (.nil))) h
  ·rw [if_neg c1] at h
   have b2 : (decide (nv < 1)) = false := decide_eq_false c1
   refine S_env [(1, .int .i64 seg), (2, .int .i64 nv), (8, .pointer (some xA)), (15, .bool false)] (by simp only [b2, Bool.not_true, Bool.not_false]) ?_
   clear b2
   refine S_condF (.tmp 15) kk16 kk17 (by kernel_rfl) (by kernel_rfl) ?_
   refine T_sr 6 kk20 kk21 ?_
   refine N_run 5 [(1, .int .i64 seg), (2, .int .i64 nv), (8, .pointer (some xA)), (19, .int .i64 nv), (23, .pointer (some (xA.add 2)))] (fun _=>by kernel_rfl) ?_
   obtain ⟨x_2, q3, h⟩ := h
   refine N_val (some 24) (loadN 3 (.pointer (some (xA.add 2)))) (.int .i64 x_2) (fun _=>by kernel_rfl) (loadN_run (loadOK_one (fun _=>by kernel_rfl) q3)) [(1, .int .i64 seg), (2, .int .i64 nv), (8, .pointer (some xA)), (19, .int .i64 nv), (24, .int .i64 x_2)] (ps (by kernel_rfl)) ?_
   refine N_run 3 [(1, .int .i64 seg), (2, .int .i64 nv), (8, .pointer (some xA)), (18, .bool (decide (nv > (IntKind.wrap .i64 (64 - x_2)))))] (fun _=>by kernel_rfl) ?_
   refine T_e ?_
   by_cases c4 : nv > (IntKind.wrap .i64 (64 - x_2))
   ·rw [if_pos c4] at h
    have b5 : (decide (nv > (IntKind.wrap .i64 (64 - x_2)))) = true := decide_eq_true c4
    refine S_env [(1, .int .i64 seg), (2, .int .i64 nv), (8, .pointer (some xA)), (18, .bool true)] (by simp only [b5, Bool.not_true, Bool.not_false]) ?_
    clear b5
    refine S_condT (.tmp 18) kk22 kk23 (by kernel_rfl) (by kernel_rfl) ?_
    refine T_sr 7 kk24 kk25 ?_
    refine N_run 2 [(6, .int .i64 0), (7, .int .i64 2)] (fun _=>by kernel_rfl) ?_
    refine T_e ?_
    refine S_ret (by kernel_rfl) ?_
    show At _ _ _ _ _ (Q .ret)
    exact S_done (fn := Tryz.f76) [.int .i64 0, .int .i64 2] hQ (show ResOK _ _ _ [.tmp 6, .tmp 7] _ from .tmp (by kernel_rfl) (.tmp (by kernel_rfl) (.nil))) h
   ·rw [if_neg c4] at h
    have b5 : (decide (nv > (IntKind.wrap .i64 (64 - x_2)))) = false := decide_eq_false c4
    refine S_env [(1, .int .i64 seg), (2, .int .i64 nv), (8, .pointer (some xA)), (18, .bool false)] (by simp only [b5, Bool.not_true, Bool.not_false]) ?_
    clear b5
    refine S_condF (.tmp 18) kk22 kk23 (by kernel_rfl) (by kernel_rfl) ?_
    refine S_skip (by kernel_rfl) ?_
    refine S_blockEnd ?_
    refine S_then ?_
    refine T_sr 8 kk26 kk27 ?_
    refine N_run 4 [(1, .int .i64 seg), (2, .int .i64 nv), (8, .pointer (some xA)), (27, .pointer (some xA)), (30, .pointer (some (xA.add 2)))] (fun _=>by kernel_rfl) ?_
    obtain ⟨x_3, q6, h⟩ := h
    refine N_val (some 31) (loadN 3 (.pointer (some (xA.add 2)))) (.int .i64 x_3) (fun _=>by kernel_rfl) (loadN_run (loadOK_one (fun _=>by kernel_rfl) q6)) [(1, .int .i64 seg), (2, .int .i64 nv), (8, .pointer (some xA)), (27, .pointer (some xA)), (31, .int .i64 x_3)] (ps (by kernel_rfl)) ?_
    refine N_run 5 [(1, .int .i64 seg), (2, .int .i64 nv), (8, .pointer (some xA)), (33, .int .i64 (IntKind.wrap .i64 (x_3 + nv))), (36, .pointer (some (xA.add 2)))] (fun _=>by kernel_rfl) ?_
    obtain ⟨q8, h⟩ := h
    refine N_skipop none (storeN 3 (.pointer (some (xA.add 2))) (.int .i64 (IntKind.wrap .i64 (x_3 + nv)))) (fun Hz => Hz = hputs H1 (xA.add 2) [.int .i64 (IntKind.wrap .i64 (x_3 + nv))] 0) (fun _=>by kernel_rfl) (ss_store [.int .i64 (IntKind.wrap .i64 (x_3 + nv))] 1 (by kernel_rfl) (by kernel_rfl) (fun _=>by kernel_rfl) (by kernel_rfl) q8) ?_
    intro H2 e7
    replace h := h H2 e7
    refine ⟨[(1, .int .i64 seg), (2, .int .i64 nv), (8, .pointer (some xA))], ps (by kernel_rfl), ?_⟩
    refine T_e ?_
    refine T_sr 9 kk28 kk29 ?_
    refine N_run 6 [(2, .int .i64 nv), (38, .int .i64 (IntKind.wrap .i64 (seg * 64))), (42, .pointer (some (xA.add 2)))] (fun _=>by kernel_rfl) ?_
    obtain ⟨x_4, q9, h⟩ := h
    refine N_val (some 43) (loadN 3 (.pointer (some (xA.add 2)))) (.int .i64 x_4) (fun _=>by kernel_rfl) (loadN_run (loadOK_one (fun _=>by kernel_rfl) q9)) [(2, .int .i64 nv), (38, .int .i64 (IntKind.wrap .i64 (seg * 64))), (43, .int .i64 x_4)] (ps (by kernel_rfl)) ?_
    refine N_run 5 [(6, .int .i64 (IntKind.wrap .i64 ((IntKind.wrap .i64 ((IntKind.wrap .i64 (seg * 64)) + x_4)) - nv))), (7, .int .i64 0)] (fun _=>by kernel_rfl) ?_
    refine T_e ?_
    refine S_ret (by kernel_rfl) ?_
    show At _ _ _ _ _ (Q .ret)
    exact S_done (fn := Tryz.f76) [.int .i64 (IntKind.wrap .i64 ((IntKind.wrap .i64 ((IntKind.wrap .i64 (seg * 64)) + x_4)) - nv)), .int .i64 0] hQ (show ResOK _ _ _ [.tmp 6, .tmp 7] _ from .tmp (by kernel_rfl) (.tmp (by kernel_rfl) (.nil))) h
end seg_Mem_Bump

/-! (*moraine/seg.Mem).Take -/
namespace seg_Mem_Take
def kk0 := Func.code Tryz.f77
def kk1 := Code.fa kk0
def kk2 := Code.fb kk0
def kk3 := Code.fa kk2
def kk4 := Code.fb kk2
def kk5 := Code.fa kk3
def kk6 := Code.fa kk5
def kk7 := Code.fb kk5
def kk8 := Code.fa kk7
def kk9 := Code.fb kk7
def kk10 := Code.fa kk8
def kk11 := Code.fb kk8
def kk12 := Code.fa kk9
def kk13 := Code.fb kk9
def kk14 := Code.fa kk13
def kk15 := Code.fb kk13
def kk16 := Code.fa kk14
def kk17 := Code.fb kk14
def kk18 := Code.fa kk4
def kk19 := Code.fb kk4
def kk20 := Code.fa kk19
def kk21 := Code.fb kk19
def kk22 := Code.fa kk20
def kk23 := Code.fa kk22
def kk24 := Code.fa kk23
def kk25 := Code.fb kk23
def kk26 := Code.fa kk24
def kk27 := Code.fb kk24
def kk28 := Code.fa kk27
def kk29 := Code.fb kk27
def kk30 := Code.fa kk25
def kk31 := Code.fa kk21
def kk32 := Code.fb kk21
def kk33 := Code.fa kk32
def kk34 := Code.fb kk32
def kk35 := Code.fa kk34
def kk36 := Code.fb kk34
def kk37 := Code.fa kk36
def kk38 := Code.fb kk36
end seg_Mem_Take
def seg_Mem_Take.pt (m : Option Addr) (gen : Int) (kind : Int) (H : Array Obj) (R : Value → Array Obj → Prop) : Prop :=
 onPtr m (
 R (.tuple #[.int .i64 0, .int .i64 1]) H) (fun mA =>
 if gen < 0 then (
 R (.tuple #[.int .i64 0, .int .i64 1]) H)
 else
 if gen > 4 then (
 R (.tuple #[.int .i64 0, .int .i64 1]) H)
 else
 if kind < 0 then (
 R (.tuple #[.int .i64 0, .int .i64 1]) H)
 else
 if kind > 3 then (
 R (.tuple #[.int .i64 0, .int .i64 1]) H)
 else
 ∃ xB : Option Addr, ∃ xN : Nat, ∃ xC : Nat, hat H mA = some (.slice xB xN xC) ∧
 if (xN : Int) = 0 then (
 R (.tuple #[.int .i64 0, .int .i64 1]) H)
 else
 ∃ x : Int, hat H (mA.add 2) = some (.int .i64 x) ∧
 if x = 0 then (
 R (.tuple #[.int .i64 0, .int .i64 2]) H)
 else
 ∃ (I24 : Int → Array Obj → Prop) (m24 : Int → Array Obj → Nat), I24 0 H ∧ ∀ (k : Int) (H1 : Array Obj), I24 k H1 →
 ∃ xB_2 : Option Addr, ∃ xN_2 : Nat, ∃ xC_2 : Nat, hat H1 mA = some (.slice xB_2 xN_2 xC_2) ∧
 ∃ xB2A : Addr, xB_2 = some xB2A ∧
 ((0 : Int) ≤ k ∧ k < (xN_2 : Int)) ∧
 ∃ x_2 : Int, hat H1 ((xB2A.add (Int.toNat k * 72)).add 7) = some (.int .i64 x_2) ∧
 if x_2 > 0 then (
 (I24 (IntKind.wrap .i64 (k + 1)) H1 ∧ m24 (IntKind.wrap .i64 (k + 1)) H1 < m24 k H1))
 else
 ∃ x_3 : Int, hat H1 (mA.add 1) = some (.int .i64 x_3) ∧
 (CanPuts H1 (mA.add 1) 0 1) ∧ ∀ H2 : Array Obj, H2 = hputs H1 (mA.add 1) [.int .i64 (IntKind.wrap .i64 (x_3 + 1))] 0 →
 ∃ x_4 : Int, hat H2 (mA.add 2) = some (.int .i64 x_4) ∧
 (CanPuts H2 (mA.add 2) 0 1) ∧ ∀ H3 : Array Obj, H3 = hputs H2 (mA.add 2) [.int .i64 (IntKind.wrap .i64 (x_4 - 1))] 0 →
 ∃ xB_3 : Option Addr, ∃ xN_3 : Nat, ∃ xC_3 : Nat, hat H3 mA = some (.slice xB_3 xN_3 xC_3) ∧
 ∃ x_5 : Int, hat H3 (mA.add 1) = some (.int .i64 x_5) ∧
 ∃ xB3A : Addr, xB_3 = some xB3A ∧
 ((0 : Int) ≤ k ∧ k < (xN_3 : Int)) ∧
 (CanPuts H3 (xB3A.add (Int.toNat k * 72)) 0 72) ∧ ∀ H4 : Array Obj, H4 = hputs H3 (xB3A.add (Int.toNat k * 72)) ([.int .i64 gen, .int .i64 kind, .int .i64 0, .int .i64 5, .int .i64 5, .int .i64 5, .int .i64 5, .int .i64 x_5] ++ List.replicate 64 (.int .u64 0) : List Value) 0 → 
 R (.tuple #[.int .i64 k, .int .i64 0]) H4)
namespace seg_Mem_Take
set_option maxRecDepth 100000 in
theorem link {m : Option Addr} {gen : Int} {kind : Int} {H : Array Obj} {R : Value → Array Obj → Prop} (h : pt m gen kind H R) : C m gen kind H R := by
 refine S_enter (fn := Tryz.f77) (c := kk0) 83 Tryz.func77 (by kernel_rfl) (by kernel_rfl) (Nat.le_of_ble_eq_true (by kernel_rfl)) ?_
 intro w0 Q hQ
 unfold pt at h
 refine S_sub [(0, .pointer m), (1, .int .i64 gen), (2, .int .i64 kind)] (sb (by kernel_rfl)) ?_
 refine T_sr 0 kk1 kk2 ?_
 refine N_run 2 [(0, .pointer m), (1, .int .i64 gen), (2, .int .i64 kind)] (fun _=>by kernel_rfl) ?_
 refine T_e ?_
 refine S_seq kk3 kk4 (by kernel_rfl) ?_
 refine S_block 0 kk5 (by kernel_rfl) ?_
 refine T_sr 1 kk6 kk7 ?_
 refine N_run 1 [(0, .pointer m), (1, .int .i64 gen), (2, .int .i64 kind), (10, .pointer m)] (fun _=>by kernel_rfl) ?_
 rcases m with _ | mA
 ·rw [onPtr_none] at h
  refine N_run 26 [(0, .pointer none), (1, .int .i64 gen), (2, .int .i64 kind), (9, .bool true)] (fun _=>by kernel_rfl) ?_
  refine T_e ?_
  refine S_condT (.tmp 9) kk8 kk9 (by kernel_rfl) (by kernel_rfl) ?_
  refine T_sr 2 kk10 kk11 ?_
  refine N_run 2 [(6, .int .i64 0), (7, .int .i64 1)] (fun _=>by kernel_rfl) ?_
  refine T_e ?_
  refine S_ret (by kernel_rfl) ?_
  show At _ _ _ _ _ (Q .ret)
  exact S_done (fn := Tryz.f77) [.int .i64 0, .int .i64 1] hQ (show ResOK _ _ _ [.tmp 6, .tmp 7] _ from .tmp (by kernel_rfl) (.tmp (by kernel_rfl) (.nil))) h
 ·rw [onPtr_some] at h
  refine N_run 6 [(0, .pointer (some mA)), (1, .int .i64 gen), (2, .int .i64 kind), (16, .bool (decide (gen < 0)))] (fun _=>by kernel_rfl) ?_
  by_cases c1 : gen < 0
  ·rw [if_pos c1] at h
   have b2 : (decide (gen < 0)) = true := decide_eq_true c1
   refine N_env [(0, .pointer (some mA)), (1, .int .i64 gen), (2, .int .i64 kind), (16, .bool true)] (by simp only [b2, Bool.not_true, Bool.not_false]) ?_
   clear b2
   refine N_run 20 [(0, .pointer (some mA)), (1, .int .i64 gen), (2, .int .i64 kind), (9, .bool true)] (fun _=>by kernel_rfl) ?_
   refine T_e ?_
   refine S_condT (.tmp 9) kk8 kk9 (by kernel_rfl) (by kernel_rfl) ?_
   refine T_sr 2 kk10 kk11 ?_
   refine N_run 2 [(6, .int .i64 0), (7, .int .i64 1)] (fun _=>by kernel_rfl) ?_
   refine T_e ?_
   refine S_ret (by kernel_rfl) ?_
   show At _ _ _ _ _ (Q .ret)
   exact S_done (fn := Tryz.f77) [.int .i64 0, .int .i64 1] hQ (show ResOK _ _ _ [.tmp 6, .tmp 7] _ from .tmp (by kernel_rfl) (.tmp (by kernel_rfl) (.nil))) h
  ·rw [if_neg c1] at h
   have b2 : (decide (gen < 0)) = false := decide_eq_false c1
   refine N_env [(0, .pointer (some mA)), (1, .int .i64 gen), (2, .int .i64 kind), (16, .bool false)] (by simp only [b2, Bool.not_true, Bool.not_false]) ?_
   clear b2
   refine N_run 4 [(0, .pointer (some mA)), (1, .int .i64 gen), (2, .int .i64 kind), (20, .bool (decide (gen > 4)))] (fun _=>by kernel_rfl) ?_
   by_cases c3 : gen > 4
   ·rw [if_pos c3] at h
    have b4 : (decide (gen > 4)) = true := decide_eq_true c3
    refine N_env [(0, .pointer (some mA)), (1, .int .i64 gen), (2, .int .i64 kind), (20, .bool true)] (by simp only [b4, Bool.not_true, Bool.not_false]) ?_
    clear b4
    refine N_run 16 [(0, .pointer (some mA)), (1, .int .i64 gen), (2, .int .i64 kind), (9, .bool true)] (fun _=>by kernel_rfl) ?_
    refine T_e ?_
    refine S_condT (.tmp 9) kk8 kk9 (by kernel_rfl) (by kernel_rfl) ?_
    refine T_sr 2 kk10 kk11 ?_
    refine N_run 2 [(6, .int .i64 0), (7, .int .i64 1)] (fun _=>by kernel_rfl) ?_
    refine T_e ?_
    refine S_ret (by kernel_rfl) ?_
    show At _ _ _ _ _ (Q .ret)
    exact S_done (fn := Tryz.f77) [.int .i64 0, .int .i64 1] hQ (show ResOK _ _ _ [.tmp 6, .tmp 7] _ from .tmp (by kernel_rfl) (.tmp (by kernel_rfl) (.nil))) h
   ·rw [if_neg c3] at h
    have b4 : (decide (gen > 4)) = false := decide_eq_false c3
    refine N_env [(0, .pointer (some mA)), (1, .int .i64 gen), (2, .int .i64 kind), (20, .bool false)] (by simp only [b4, Bool.not_true, Bool.not_false]) ?_
    clear b4
    refine N_run 4 [(0, .pointer (some mA)), (1, .int .i64 gen), (2, .int .i64 kind), (24, .bool (decide (kind < 0)))] (fun _=>by kernel_rfl) ?_
    by_cases c5 : kind < 0
    ·rw [if_pos c5] at h
     have b6 : (decide (kind < 0)) = true := decide_eq_true c5
     refine N_env [(0, .pointer (some mA)), (1, .int .i64 gen), (2, .int .i64 kind), (24, .bool true)] (by simp only [b6, Bool.not_true, Bool.not_false]) ?_
     clear b6
     refine N_run 12 [(0, .pointer (some mA)), (1, .int .i64 gen), (2, .int .i64 kind), (9, .bool true)] (fun _=>by kernel_rfl) ?_
     refine T_e ?_
     refine S_condT (.tmp 9) kk8 kk9 (by kernel_rfl) (by kernel_rfl) ?_
     refine T_sr 2 kk10 kk11 ?_
     refine N_run 2 [(6, .int .i64 0), (7, .int .i64 1)] (fun _=>by kernel_rfl) ?_
     refine T_e ?_
     refine S_ret (by kernel_rfl) ?_
     show At _ _ _ _ _ (Q .ret)
     exact S_done (fn := Tryz.f77) [.int .i64 0, .int .i64 1] hQ (show ResOK _ _ _ [.tmp 6, .tmp 7] _ from .tmp (by kernel_rfl) (.tmp (by kernel_rfl) (.nil))) h
    ·rw [if_neg c5] at h
     have b6 : (decide (kind < 0)) = false := decide_eq_false c5
     refine N_env [(0, .pointer (some mA)), (1, .int .i64 gen), (2, .int .i64 kind), (24, .bool false)] (by simp only [b6, Bool.not_true, Bool.not_false]) ?_
     clear b6
     refine N_run 4 [(0, .pointer (some mA)), (1, .int .i64 gen), (2, .int .i64 kind), (28, .bool (decide (kind > 3)))] (fun _=>by kernel_rfl) ?_
     by_cases c7 : kind > 3
     ·rw [if_pos c7] at h
      have b8 : (decide (kind > 3)) = true := decide_eq_true c7
      refine N_env [(0, .pointer (some mA)), (1, .int .i64 gen), (2, .int .i64 kind), (28, .bool true)] (by simp only [b8, Bool.not_true, Bool.not_false]) ?_
      clear b8
      refine N_run 8 [(0, .pointer (some mA)), (1, .int .i64 gen), (2, .int .i64 kind), (9, .bool true)] (fun _=>by kernel_rfl) ?_
      refine T_e ?_
      refine S_condT (.tmp 9) kk8 kk9 (by kernel_rfl) (by kernel_rfl) ?_
      refine T_sr 2 kk10 kk11 ?_
      refine N_run 2 [(6, .int .i64 0), (7, .int .i64 1)] (fun _=>by kernel_rfl) ?_
      refine T_e ?_
      refine S_ret (by kernel_rfl) ?_
      show At _ _ _ _ _ (Q .ret)
      exact S_done (fn := Tryz.f77) [.int .i64 0, .int .i64 1] hQ (show ResOK _ _ _ [.tmp 6, .tmp 7] _ from .tmp (by kernel_rfl) (.tmp (by kernel_rfl) (.nil))) h
     ·rw [if_neg c7] at h
      have b8 : (decide (kind > 3)) = false := decide_eq_false c7
      refine N_env [(0, .pointer (some mA)), (1, .int .i64 gen), (2, .int .i64 kind), (28, .bool false)] (by simp only [b8, Bool.not_true, Bool.not_false]) ?_
      clear b8
      refine N_run 3 [(0, .pointer (some mA)), (1, .int .i64 gen), (2, .int .i64 kind), (28, .bool false), (31, .pointer (some mA))] (fun _=>by kernel_rfl) ?_
      obtain ⟨xB, xN, xC, q9, h⟩ := h
      refine N_val (some 32) (loadN 101 (.pointer (some mA))) (.slice xB xN xC) (fun _=>by kernel_rfl) (loadN_run (loadOK_one (fun _=>by kernel_rfl) q9)) [(0, .pointer (some mA)), (1, .int .i64 gen), (2, .int .i64 kind), (28, .bool false), (32, .slice xB xN xC)] (ps (by kernel_rfl)) ?_
      refine N_run 4 [(0, .pointer (some mA)), (1, .int .i64 gen), (2, .int .i64 kind), (9, .bool ((xN : Int) == 0))] (fun _=>by kernel_rfl) ?_
      refine T_e ?_
      by_cases c10 : (xN : Int) = 0
      ·rw [if_pos c10] at h
       have b11 : ((xN : Int) == 0) = true := beq_iff_eq.mpr c10
       refine S_env [(0, .pointer (some mA)), (1, .int .i64 gen), (2, .int .i64 kind), (9, .bool true)] (by simp only [b11, Bool.not_true, Bool.not_false]) ?_
       clear b11
       refine S_condT (.tmp 9) kk8 kk9 (by kernel_rfl) (by kernel_rfl) ?_
       refine T_sr 2 kk10 kk11 ?_
       refine N_run 2 [(6, .int .i64 0), (7, .int .i64 1)] (fun _=>by kernel_rfl) ?_
       refine T_e ?_
       refine S_ret (by kernel_rfl) ?_
       show At _ _ _ _ _ (Q .ret)
       exact S_done (fn := Tryz.f77) [.int .i64 0, .int .i64 1] hQ (show ResOK _ _ _ [.tmp 6, .tmp 7] _ from .tmp (by kernel_rfl) (.tmp (by kernel_rfl) (.nil))) h
      ·rw [if_neg c10] at h
       have b11 : ((xN : Int) == 0) = false := beq_eq_false_iff_ne.mpr c10
       refine S_env [(0, .pointer (some mA)), (1, .int .i64 gen), (2, .int .i64 kind), (9, .bool false)] (by simp only [b11, Bool.not_true, Bool.not_false]) ?_
       clear b11
       refine S_condF (.tmp 9) kk8 kk9 (by kernel_rfl) (by kernel_rfl) ?_
       refine T_sr 3 kk12 kk13 ?_
       refine N_run 3 [(0, .pointer (some mA)), (1, .int .i64 gen), (2, .int .i64 kind), (39, .pointer (some (mA.add 2)))] (fun _=>by kernel_rfl) ?_
       obtain ⟨x, q12, h⟩ := h
       refine N_val (some 40) (loadN 3 (.pointer (some (mA.add 2)))) (.int .i64 x) (fun _=>by kernel_rfl) (loadN_run (loadOK_one (fun _=>by kernel_rfl) q12)) [(0, .pointer (some mA)), (1, .int .i64 gen), (2, .int .i64 kind), (40, .int .i64 x)] (ps (by kernel_rfl)) ?_
       refine N_run 2 [(0, .pointer (some mA)), (1, .int .i64 gen), (2, .int .i64 kind), (36, .bool (x == 0))] (fun _=>by kernel_rfl) ?_
       refine T_e ?_
       by_cases c13 : x = 0
       ·rw [if_pos c13] at h
        have b14 : (x == 0) = true := beq_iff_eq.mpr c13
        refine S_env [(0, .pointer (some mA)), (1, .int .i64 gen), (2, .int .i64 kind), (36, .bool true)] (by simp only [b14, Bool.not_true, Bool.not_false]) ?_
        clear b14
        refine S_condT (.tmp 36) kk14 kk15 (by kernel_rfl) (by kernel_rfl) ?_
        refine T_sr 4 kk16 kk17 ?_
        refine N_run 2 [(6, .int .i64 0), (7, .int .i64 2)] (fun _=>by kernel_rfl) ?_
        refine T_e ?_
        refine S_ret (by kernel_rfl) ?_
        show At _ _ _ _ _ (Q .ret)
        exact S_done (fn := Tryz.f77) [.int .i64 0, .int .i64 2] hQ (show ResOK _ _ _ [.tmp 6, .tmp 7] _ from .tmp (by kernel_rfl) (.tmp (by kernel_rfl) (.nil))) h
       ·rw [if_neg c13] at h
        have b14 : (x == 0) = false := beq_eq_false_iff_ne.mpr c13
        refine S_env [(0, .pointer (some mA)), (1, .int .i64 gen), (2, .int .i64 kind), (36, .bool false)] (by simp only [b14, Bool.not_true, Bool.not_false]) ?_
        clear b14
        refine S_condF (.tmp 36) kk14 kk15 (by kernel_rfl) (by kernel_rfl) ?_
        refine S_skip (by kernel_rfl) ?_
        refine S_blockEnd ?_
        refine S_then ?_
        refine T_sr 5 kk18 kk19 ?_
        refine N_run 1 [(0, .pointer (some mA)), (1, .int .i64 gen), (2, .int .i64 kind), (8, .int .i64 0)] (fun _=>by kernel_rfl) ?_
        refine T_e ?_
        refine S_seq kk20 kk21 (by kernel_rfl) ?_
        refine S_block 1 kk22 (by kernel_rfl) ?_
        obtain ⟨I24, m24, i15, i16⟩ := h
        refine S_loop (x := kk23) (σ := Int) (fun s_ => [(0, .pointer (some mA)), (1, .int .i64 gen), (2, .int .i64 kind), (8, .int .i64 s_)]) (fun s_ H => I24 s_ H) (fun s_ H => m24 s_ H) (0 : Int) (by kernel_rfl) i15 (sb (by kernel_rfl)) ?_
        rintro k H1 i17
        have h := i16 k H1 i17
        refine S_sub [(0, .pointer (some mA)), (1, .int .i64 gen), (2, .int .i64 kind), (8, .int .i64 k)] (sb (by kernel_rfl)) ?_
        refine S_seq kk24 kk25 (by kernel_rfl) ?_
        refine T_sr 6 kk26 kk27 ?_
        refine N_run 3 [(0, .pointer (some mA)), (1, .int .i64 gen), (2, .int .i64 kind), (8, .int .i64 k), (44, .pointer (some mA))] (fun _=>by kernel_rfl) ?_
        obtain ⟨xB_2, xN_2, xC_2, q18, h⟩ := h
        refine N_val (some 45) (loadN 101 (.pointer (some mA))) (.slice xB_2 xN_2 xC_2) (fun _=>by kernel_rfl) (loadN_run (loadOK_one (fun _=>by kernel_rfl) q18)) [(0, .pointer (some mA)), (1, .int .i64 gen), (2, .int .i64 kind), (8, .int .i64 k), (45, .slice xB_2 xN_2 xC_2)] (ps (by kernel_rfl)) ?_
        refine N_run 1 [(0, .pointer (some mA)), (1, .int .i64 gen), (2, .int .i64 kind), (8, .int .i64 k), (45, .slice xB_2 xN_2 xC_2), (46, .int .i64 k)] (fun _=>by kernel_rfl) ?_
        obtain ⟨xB2A, rfl, h⟩ := h
        obtain ⟨q19, h⟩ := h
        refine N_val (some 47) (indexAtN 101 (.slice (some xB2A) xN_2 xC_2) (.int .i64 k)) (.pointer (some (xB2A.add (Int.toNat k * 72)))) (fun _=>by kernel_rfl) (fun w _ => indexAt_run (P := Tryz.prog) (t := 101) (elem := 107) (sz := 72) (a := xB2A) (len := xN_2) (cap := xC_2) (k := .i64) (i := k) Tryz.underlying101 (fun _=>by kernel_rfl) q19.1 q19.2 w) [(0, .pointer (some mA)), (1, .int .i64 gen), (2, .int .i64 kind), (8, .int .i64 k), (47, .pointer (some (xB2A.add (Int.toNat k * 72))))] (ps (by kernel_rfl)) ?_
        refine N_run 1 [(0, .pointer (some mA)), (1, .int .i64 gen), (2, .int .i64 kind), (8, .int .i64 k), (48, .pointer (some ((xB2A.add (Int.toNat k * 72)).add 7)))] (fun _=>by kernel_rfl) ?_
        obtain ⟨x_2, q20, h⟩ := h
        refine N_val (some 49) (loadN 3 (.pointer (some ((xB2A.add (Int.toNat k * 72)).add 7)))) (.int .i64 x_2) (fun _=>by kernel_rfl) (loadN_run (loadOK_one (fun _=>by kernel_rfl) q20)) [(0, .pointer (some mA)), (1, .int .i64 gen), (2, .int .i64 kind), (8, .int .i64 k), (49, .int .i64 x_2)] (ps (by kernel_rfl)) ?_
        refine N_run 1 [(0, .pointer (some mA)), (1, .int .i64 gen), (2, .int .i64 kind), (8, .int .i64 k), (50, .bool (decide (x_2 > 0)))] (fun _=>by kernel_rfl) ?_
        refine T_e ?_
        by_cases c21 : x_2 > 0
        ·rw [if_pos c21] at h
         have b22 : (decide (x_2 > 0)) = true := decide_eq_true c21
         refine S_env [(0, .pointer (some mA)), (1, .int .i64 gen), (2, .int .i64 kind), (8, .int .i64 k), (50, .bool true)] (by simp only [b22, Bool.not_true, Bool.not_false]) ?_
         clear b22
         refine S_condT (.tmp 50) kk28 kk29 (by kernel_rfl) (by kernel_rfl) ?_
         refine S_skip (by kernel_rfl) ?_
         refine S_then ?_
         refine S_block 2 kk30 (by kernel_rfl) ?_
         refine S_region 7 (Code.ops kk30) (by kernel_rfl) ?_
         refine N_run 3 [(0, .pointer (some mA)), (1, .int .i64 gen), (2, .int .i64 kind), (8, .int .i64 (IntKind.wrap .i64 (k + 1)))] (fun _=>by kernel_rfl) ?_
         refine N_end (by kernel_rfl) ?_
         refine S_blockEnd ?_
         refine S_then ?_
         exact S_round ((IntKind.wrap .i64 (k + 1)) : Int) (sb (by kernel_rfl)) h
        ·rw [if_neg c21] at h
         have b22 : (decide (x_2 > 0)) = false := decide_eq_false c21
         refine S_env [(0, .pointer (some mA)), (1, .int .i64 gen), (2, .int .i64 kind), (8, .int .i64 k), (50, .bool false)] (by simp only [b22, Bool.not_true, Bool.not_false]) ?_
         clear b22
         refine S_condF (.tmp 50) kk28 kk29 (by kernel_rfl) (by kernel_rfl) ?_
         refine S_exit 1 (by kernel_rfl) ?_
         refine S_exitThen ?_
         refine S_exitThen ?_
         refine S_exitHere ?_
         refine S_then ?_
         refine T_sr 8 kk31 kk32 ?_
         refine N_run 3 [(0, .pointer (some mA)), (1, .int .i64 gen), (2, .int .i64 kind), (8, .int .i64 k), (53, .pointer (some mA)), (55, .pointer (some (mA.add 1)))] (fun _=>by kernel_rfl) ?_
         obtain ⟨x_3, q23, h⟩ := h
         refine N_val (some 56) (loadN 3 (.pointer (some (mA.add 1)))) (.int .i64 x_3) (fun _=>by kernel_rfl) (loadN_run (loadOK_one (fun _=>by kernel_rfl) q23)) [(0, .pointer (some mA)), (1, .int .i64 gen), (2, .int .i64 kind), (8, .int .i64 k), (53, .pointer (some mA)), (56, .int .i64 x_3)] (ps (by kernel_rfl)) ?_
         refine N_run 3 [(0, .pointer (some mA)), (1, .int .i64 gen), (2, .int .i64 kind), (8, .int .i64 k), (57, .int .i64 (IntKind.wrap .i64 (x_3 + 1))), (59, .pointer (some (mA.add 1)))] (fun _=>by kernel_rfl) ?_
         obtain ⟨q25, h⟩ := h
         refine N_skipop none (storeN 3 (.pointer (some (mA.add 1))) (.int .i64 (IntKind.wrap .i64 (x_3 + 1)))) (fun Hz => Hz = hputs H1 (mA.add 1) [.int .i64 (IntKind.wrap .i64 (x_3 + 1))] 0) (fun _=>by kernel_rfl) (ss_store [.int .i64 (IntKind.wrap .i64 (x_3 + 1))] 1 (by kernel_rfl) (by kernel_rfl) (fun _=>by kernel_rfl) (by kernel_rfl) q25) ?_
         intro H2 e24
         replace h := h H2 e24
         refine ⟨[(0, .pointer (some mA)), (1, .int .i64 gen), (2, .int .i64 kind), (8, .int .i64 k)], ps (by kernel_rfl), ?_⟩
         refine T_e ?_
         refine T_sr 9 kk33 kk34 ?_
         refine N_run 3 [(0, .pointer (some mA)), (1, .int .i64 gen), (2, .int .i64 kind), (8, .int .i64 k), (60, .pointer (some mA)), (62, .pointer (some (mA.add 2)))] (fun _=>by kernel_rfl) ?_
         obtain ⟨x_4, q26, h⟩ := h
         refine N_val (some 63) (loadN 3 (.pointer (some (mA.add 2)))) (.int .i64 x_4) (fun _=>by kernel_rfl) (loadN_run (loadOK_one (fun _=>by kernel_rfl) q26)) [(0, .pointer (some mA)), (1, .int .i64 gen), (2, .int .i64 kind), (8, .int .i64 k), (60, .pointer (some mA)), (63, .int .i64 x_4)] (ps (by kernel_rfl)) ?_
         refine N_run 3 [(0, .pointer (some mA)), (1, .int .i64 gen), (2, .int .i64 kind), (8, .int .i64 k), (64, .int .i64 (IntKind.wrap .i64 (x_4 - 1))), (66, .pointer (some (mA.add 2)))] (fun _=>by kernel_rfl) ?_
         obtain ⟨q28, h⟩ := h
         refine N_skipop none (storeN 3 (.pointer (some (mA.add 2))) (.int .i64 (IntKind.wrap .i64 (x_4 - 1)))) (fun Hz => Hz = hputs H2 (mA.add 2) [.int .i64 (IntKind.wrap .i64 (x_4 - 1))] 0) (fun _=>by kernel_rfl) (ss_store [.int .i64 (IntKind.wrap .i64 (x_4 - 1))] 1 (by kernel_rfl) (by kernel_rfl) (fun _=>by kernel_rfl) (by kernel_rfl) q28) ?_
         intro H3 e27
         replace h := h H3 e27
         refine ⟨[(0, .pointer (some mA)), (1, .int .i64 gen), (2, .int .i64 kind), (8, .int .i64 k)], ps (by kernel_rfl), ?_⟩
         refine T_e ?_
         refine S_seq kk35 kk36 (by kernel_rfl) ?_
         obtain ⟨xB_3, xN_3, xC_3, q29, h⟩ := h
         obtain ⟨x_5, q30, h⟩ := h
         obtain ⟨xB3A, rfl, h⟩ := h
         obtain ⟨q31, h⟩ := h
         refine S_regionG 10 (Code.ops kk35) [(15, mA, [.slice (some xB3A) xN_3 xC_3]), (15, (mA.add 1), [.int .i64 x_5])] 16 #[false, false, false, false, false, false, false, false, false, false, false, false, false, false, false, false] (by kernel_rfl) (by kernel_rfl) (by kernel_rfl) (by kernel_rfl) (by kernel_rfl) (show FactsAt _ _ _ from ⟨⟨q29, trivial⟩, ⟨q30, trivial⟩, trivial⟩) ?_
         refine G_take 0 (some 67) (.pointer (some mA)) #[true, false, false, false, false, false, false, false, false, false, false, false, false, false, false, false] [(0, .pointer (some mA)), (1, .int .i64 gen), (2, .int .i64 kind), (8, .int .i64 k), (67, .pointer (some mA))] ((pure (.value (.pointer (some mA))) : Sem Next)) (fun _=>by kernel_rfl) (fun _ _ _ _ _ => rfl) (by kernel_rfl) (by kernel_rfl) (by kernel_rfl) (by kernel_rfl) (by kernel_rfl) (by kernel_rfl) (ps (by kernel_rfl)) ?_
         refine G_take 1 (some 68) (.pointer (some mA)) #[true, true, false, false, false, false, false, false, false, false, false, false, false, false, false, false] [(0, .pointer (some mA)), (1, .int .i64 gen), (2, .int .i64 kind), (8, .int .i64 k), (68, .pointer (some mA))] ((pure (.value (.pointer (some mA))) : Sem Next)) (fun _=>by kernel_rfl) (fun _ _ _ _ _ => rfl) (by kernel_rfl) (by kernel_rfl) (by kernel_rfl) (by kernel_rfl) (by kernel_rfl) (by kernel_rfl) (ps (by kernel_rfl)) ?_
         refine G_take 2 (some 69) (.pointer (some mA)) #[true, true, true, false, false, false, false, false, false, false, false, false, false, false, false, false] [(0, .pointer (some mA)), (1, .int .i64 gen), (2, .int .i64 kind), (8, .int .i64 k), (69, .pointer (some mA))] ((pure (.value (.pointer (some mA))) : Sem Next)) (fun _=>by kernel_rfl) (fun _ _ _ _ _ => rfl) (by kernel_rfl) (by kernel_rfl) (by kernel_rfl) (by kernel_rfl) (by kernel_rfl) (by kernel_rfl) (ps (by kernel_rfl)) ?_
         refine G_take 3 (some 70) (.slice (some xB3A) xN_3 xC_3) #[true, true, true, true, false, false, false, false, false, false, false, false, false, false, false, false] [(0, .pointer (some mA)), (1, .int .i64 gen), (2, .int .i64 kind), (8, .int .i64 k), (70, .slice (some xB3A) xN_3 xC_3)] (loadN 101 (.pointer (some mA))) (fun _=>by kernel_rfl) (held_one 15 (fun _=>by kernel_rfl) (List.Mem.head _) (.inl (by kernel_rfl))) (by kernel_rfl) (by kernel_rfl) (by kernel_rfl) (by kernel_rfl) (by kernel_rfl) (by kernel_rfl) (ps (by kernel_rfl)) ?_
         refine G_take 4 (some 71) (.int .i64 k) #[true, true, true, true, true, false, false, false, false, false, false, false, false, false, false, false] [(0, .pointer (some mA)), (1, .int .i64 gen), (2, .int .i64 kind), (8, .int .i64 k), (70, .slice (some xB3A) xN_3 xC_3), (71, .int .i64 k)] ((pure (.value (.int .i64 k)) : Sem Next)) (fun _=>by kernel_rfl) (fun _ _ _ _ _ => rfl) (by kernel_rfl) (by kernel_rfl) (by kernel_rfl) (by kernel_rfl) (by kernel_rfl) (by kernel_rfl) (ps (by kernel_rfl)) ?_
         refine G_take 5 (some 72) (.int .i64 gen) #[true, true, true, true, true, true, false, false, false, false, false, false, false, false, false, false] [(0, .pointer (some mA)), (2, .int .i64 kind), (8, .int .i64 k), (70, .slice (some xB3A) xN_3 xC_3), (71, .int .i64 k), (72, .int .i64 gen)] ((pure (.value (.int .i64 gen)) : Sem Next)) (fun _=>by kernel_rfl) (fun _ _ _ _ _ => rfl) (by kernel_rfl) (by kernel_rfl) (by kernel_rfl) (by kernel_rfl) (by kernel_rfl) (by kernel_rfl) (ps (by kernel_rfl)) ?_
         refine G_take 6 (some 73) (.int .i64 kind) #[true, true, true, true, true, true, true, false, false, false, false, false, false, false, false, false] [(0, .pointer (some mA)), (8, .int .i64 k), (70, .slice (some xB3A) xN_3 xC_3), (71, .int .i64 k), (72, .int .i64 gen), (73, .int .i64 kind)] ((pure (.value (.int .i64 kind)) : Sem Next)) (fun _=>by kernel_rfl) (fun _ _ _ _ _ => rfl) (by kernel_rfl) (by kernel_rfl) (by kernel_rfl) (by kernel_rfl) (by kernel_rfl) (by kernel_rfl) (ps (by kernel_rfl)) ?_
         refine G_take 7 (some 74) (.agg #[.int .i64 5, .int .i64 5, .int .i64 5, .int .i64 5]) #[true, true, true, true, true, true, true, true, false, false, false, false, false, false, false, false] [(0, .pointer (some mA)), (8, .int .i64 k), (70, .slice (some xB3A) xN_3 xC_3), (71, .int .i64 k), (72, .int .i64 gen), (73, .int .i64 kind), (74, .agg #[.int .i64 5, .int .i64 5, .int .i64 5, .int .i64 5])] ((pure (.value (.agg #[.int .i64 5, .int .i64 5, .int .i64 5, .int .i64 5])) : Sem Next)) (fun _=>by kernel_rfl) (fun _ _ _ _ _ => rfl) (by kernel_rfl) (by kernel_rfl) (by kernel_rfl) (by kernel_rfl) (by kernel_rfl) (by kernel_rfl) (ps (by kernel_rfl)) ?_
         refine G_take 8 (some 75) (.agg #[.int .i64 gen, .int .i64 kind, .int .i64 0, .int .i64 5, .int .i64 5, .int .i64 5, .int .i64 5]) #[true, true, true, true, true, true, true, true, true, false, false, false, false, false, false, false] [(0, .pointer (some mA)), (8, .int .i64 k), (70, .slice (some xB3A) xN_3 xC_3), (71, .int .i64 k), (75, .agg #[.int .i64 gen, .int .i64 kind, .int .i64 0, .int .i64 5, .int .i64 5, .int .i64 5, .int .i64 5])] ((pure (.value (.agg #[.int .i64 gen, .int .i64 kind, .int .i64 0, .int .i64 5, .int .i64 5, .int .i64 5, .int .i64 5])) : Sem Next)) (fun _=>by kernel_rfl) (fun _ _ _ _ _ => rfl) (by kernel_rfl) (by kernel_rfl) (by kernel_rfl) (by kernel_rfl) (by kernel_rfl) (by kernel_rfl) (ps (by kernel_rfl)) ?_
         refine G_take 9 (some 76) (.pointer (some mA)) #[true, true, true, true, true, true, true, true, true, true, false, false, false, false, false, false] [(8, .int .i64 k), (70, .slice (some xB3A) xN_3 xC_3), (71, .int .i64 k), (75, .agg #[.int .i64 gen, .int .i64 kind, .int .i64 0, .int .i64 5, .int .i64 5, .int .i64 5, .int .i64 5]), (76, .pointer (some mA))] ((pure (.value (.pointer (some mA))) : Sem Next)) (fun _=>by kernel_rfl) (fun _ _ _ _ _ => rfl) (by kernel_rfl) (by kernel_rfl) (by kernel_rfl) (by kernel_rfl) (by kernel_rfl) (by kernel_rfl) (ps (by kernel_rfl)) ?_
         refine G_take 10 (some 77) (.pointer (some mA)) #[true, true, true, true, true, true, true, true, true, true, true, false, false, false, false, false] [(8, .int .i64 k), (70, .slice (some xB3A) xN_3 xC_3), (71, .int .i64 k), (75, .agg #[.int .i64 gen, .int .i64 kind, .int .i64 0, .int .i64 5, .int .i64 5, .int .i64 5, .int .i64 5]), (77, .pointer (some mA))] ((pure (.value (.pointer (some mA))) : Sem Next)) (fun _=>by kernel_rfl) (fun _ _ _ _ _ => rfl) (by kernel_rfl) (by kernel_rfl) (by kernel_rfl) (by kernel_rfl) (by kernel_rfl) (by kernel_rfl) (ps (by kernel_rfl)) ?_
         refine G_take 11 (some 78) (.pointer (some (mA.add 1))) #[true, true, true, true, true, true, true, true, true, true, true, true, false, false, false, false] [(8, .int .i64 k), (70, .slice (some xB3A) xN_3 xC_3), (71, .int .i64 k), (75, .agg #[.int .i64 gen, .int .i64 kind, .int .i64 0, .int .i64 5, .int .i64 5, .int .i64 5, .int .i64 5]), (78, .pointer (some (mA.add 1)))] ((pure (.value (.pointer (some (mA.add 1)))) : Sem Next)) (fun _=>by kernel_rfl) (fun _ _ _ _ _ => rfl) (by kernel_rfl) (by kernel_rfl) (by kernel_rfl) (by kernel_rfl) (by kernel_rfl) (by kernel_rfl) (ps (by kernel_rfl)) ?_
         refine G_take 12 (some 79) (.int .i64 x_5) #[true, true, true, true, true, true, true, true, true, true, true, true, true, false, false, false] [(8, .int .i64 k), (70, .slice (some xB3A) xN_3 xC_3), (71, .int .i64 k), (75, .agg #[.int .i64 gen, .int .i64 kind, .int .i64 0, .int .i64 5, .int .i64 5, .int .i64 5, .int .i64 5]), (79, .int .i64 x_5)] (loadN 3 (.pointer (some (mA.add 1)))) (fun _=>by kernel_rfl) (held_one 15 (fun _=>by kernel_rfl) (List.Mem.tail _ (List.Mem.head _)) (.inl (by kernel_rfl))) (by kernel_rfl) (by kernel_rfl) (by kernel_rfl) (by kernel_rfl) (by kernel_rfl) (by kernel_rfl) (ps (by kernel_rfl)) ?_
         refine G_take 13 (some 80) (.agg ([.int .i64 gen, .int .i64 kind, .int .i64 0, .int .i64 5, .int .i64 5, .int .i64 5, .int .i64 5, .int .i64 x_5] ++ List.replicate 64 (.int .u64 0) : List Value).toArray) #[true, true, true, true, true, true, true, true, true, true, true, true, true, true, false, false] [(8, .int .i64 k), (70, .slice (some xB3A) xN_3 xC_3), (71, .int .i64 k), (80, .agg ([.int .i64 gen, .int .i64 kind, .int .i64 0, .int .i64 5, .int .i64 5, .int .i64 5, .int .i64 5, .int .i64 x_5] ++ List.replicate 64 (.int .u64 0) : List Value).toArray)] ((pure (.value (.agg ([.int .i64 gen, .int .i64 kind, .int .i64 0, .int .i64 5, .int .i64 5, .int .i64 5, .int .i64 5, .int .i64 x_5] ++ List.replicate 64 (.int .u64 0) : List Value).toArray)) : Sem Next)) (fun _=>by kernel_rfl) (fun _ _ _ _ _ => rfl) (by kernel_rfl) (by kernel_rfl) (by kernel_rfl) (by kernel_rfl) (by kernel_rfl) (by kernel_rfl) (ps (by kernel_rfl)) ?_
         refine G_take 14 (some 81) (.pointer (some (xB3A.add (Int.toNat k * 72)))) #[true, true, true, true, true, true, true, true, true, true, true, true, true, true, true, false] [(8, .int .i64 k), (80, .agg ([.int .i64 gen, .int .i64 kind, .int .i64 0, .int .i64 5, .int .i64 5, .int .i64 5, .int .i64 5, .int .i64 x_5] ++ List.replicate 64 (.int .u64 0) : List Value).toArray), (81, .pointer (some (xB3A.add (Int.toNat k * 72))))] (indexAtN 101 (.slice (some xB3A) xN_3 xC_3) (.int .i64 k)) (fun _=>by kernel_rfl) (fun _ w _ _ _ => indexAt_run (P := Tryz.prog) (t := 101) (elem := 107) (sz := 72) (a := xB3A) (len := xN_3) (cap := xC_3) (k := .i64) (i := k) Tryz.underlying101 (fun _=>by kernel_rfl) q31.1 q31.2 w) (by kernel_rfl) (by kernel_rfl) (by kernel_rfl) (by kernel_rfl) (by kernel_rfl) (by kernel_rfl) (ps (by kernel_rfl)) ?_
         obtain ⟨q33, h⟩ := h
         refine G_onlyskip 15 none #[true, true, true, true, true, true, true, true, true, true, true, true, true, true, true, true] (storeN 107 (.pointer (some (xB3A.add (Int.toNat k * 72)))) (.agg ([.int .i64 gen, .int .i64 kind, .int .i64 0, .int .i64 5, .int .i64 5, .int .i64 5, .int .i64 5, .int .i64 x_5] ++ List.replicate 64 (.int .u64 0) : List Value).toArray)) (fun Hz => Hz = hputs H3 (xB3A.add (Int.toNat k * 72)) ([.int .i64 gen, .int .i64 kind, .int .i64 0, .int .i64 5, .int .i64 5, .int .i64 5, .int .i64 5, .int .i64 x_5] ++ List.replicate 64 (.int .u64 0) : List Value) 0) (by kernel_rfl) (fun _=>by kernel_rfl) (by intro w hw; obtain ⟨w1, g1, g2, g3⟩ := ss_store (P := Tryz.prog) (H := H3) (t := 107) (a := (xB3A.add (Int.toNat k * 72))) (v := (.agg ([.int .i64 gen, .int .i64 kind, .int .i64 0, .int .i64 5, .int .i64 5, .int .i64 5, .int .i64 5, .int .i64 x_5] ++ List.replicate 64 (.int .u64 0) : List Value).toArray)) ([.int .i64 gen, .int .i64 kind, .int .i64 0, .int .i64 5, .int .i64 5, .int .i64 5, .int .i64 5, .int .i64 x_5] ++ List.replicate 64 (.int .u64 0) : List Value) 72 (by kernel_rfl) (by kernel_rfl) (fun _=>by kernel_rfl) (by kernel_rfl) q33 w hw; exact ⟨w1, g1, g2, g3⟩) (by kernel_rfl) ?_
         intro H4 e32
         replace h := h H4 e32
         refine ⟨[(8, .int .i64 k)], ps (by kernel_rfl), (show FactsAt _ _ _ from ⟨trivial, trivial, trivial⟩), ?_⟩
         refine G_sub [(8, .int .i64 k)] (sb (by kernel_rfl)) ?_
         refine G_end (by kernel_rfl) ?_
         refine S_then ?_
         refine T_sr 11 kk37 kk38 ?_
         refine N_run 3 [(6, .int .i64 k), (7, .int .i64 0)] (fun _=>by kernel_rfl) ?_
         refine T_e ?_
         refine S_ret (by kernel_rfl) ?_
         show At _ _ _ _ _ (Q .ret)
         exact S_done (fn := Tryz.f77) [.int .i64 k, .int .i64 0] hQ (show ResOK _ _ _ [.tmp 6, .tmp 7] _ from .tmp (by kernel_rfl) (.tmp (by kernel_rfl) (.nil))) h
end seg_Mem_Take

/-! (*moraine/seg.Mem).Mark -/
end Go.Proofs.YthlohokmnajpoaaGreat
