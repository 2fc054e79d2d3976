/-
  Written by a program of mine (gen.py): for functions of this translation a predicate transformer over heaps (.pt), and the proof that it is sound for the call (.link).
-/
import Derived.Test.YtfohlkiikppefaaFnsC
set_option linter.unusedSimpArgs false
set_option linter.unusedVariables false
set_option maxHeartbeats 1000000
namespace Go.Proofs.Ytfohlkiikppefaa
open Go
/-! (*moraine/seg.Mem).Take -/
noncomputable def seg_Mem_Take.k0 : Code := Func.code Try.f110
noncomputable def seg_Mem_Take.k1 : Code := Code.fa seg_Mem_Take.k0
noncomputable def seg_Mem_Take.k2 : Code := Code.fb seg_Mem_Take.k0
noncomputable def seg_Mem_Take.k3 : Code := Code.fa seg_Mem_Take.k2
noncomputable def seg_Mem_Take.k4 : Code := Code.fb seg_Mem_Take.k2
noncomputable def seg_Mem_Take.k5 : Code := Code.fa seg_Mem_Take.k3
noncomputable def seg_Mem_Take.k6 : Code := Code.fa seg_Mem_Take.k5
noncomputable def seg_Mem_Take.k7 : Code := Code.fb seg_Mem_Take.k5
noncomputable def seg_Mem_Take.k8 : Code := Code.fa seg_Mem_Take.k7
noncomputable def seg_Mem_Take.k9 : Code := Code.fb seg_Mem_Take.k7
noncomputable def seg_Mem_Take.k10 : Code := Code.fa seg_Mem_Take.k8
noncomputable def seg_Mem_Take.k11 : Code := Code.fb seg_Mem_Take.k8
noncomputable def seg_Mem_Take.k12 : Code := Code.fa seg_Mem_Take.k9
noncomputable def seg_Mem_Take.k13 : Code := Code.fb seg_Mem_Take.k9
noncomputable def seg_Mem_Take.k14 : Code := Code.fa seg_Mem_Take.k13
noncomputable def seg_Mem_Take.k15 : Code := Code.fb seg_Mem_Take.k13
noncomputable def seg_Mem_Take.k16 : Code := Code.fa seg_Mem_Take.k14
noncomputable def seg_Mem_Take.k17 : Code := Code.fb seg_Mem_Take.k14
noncomputable def seg_Mem_Take.k18 : Code := Code.fa seg_Mem_Take.k4
noncomputable def seg_Mem_Take.k19 : Code := Code.fb seg_Mem_Take.k4
noncomputable def seg_Mem_Take.k20 : Code := Code.fa seg_Mem_Take.k19
noncomputable def seg_Mem_Take.k21 : Code := Code.fb seg_Mem_Take.k19
noncomputable def seg_Mem_Take.k22 : Code := Code.fa seg_Mem_Take.k20
noncomputable def seg_Mem_Take.k23 : Code := Code.fa seg_Mem_Take.k22
noncomputable def seg_Mem_Take.k24 : Code := Code.fa seg_Mem_Take.k23
noncomputable def seg_Mem_Take.k25 : Code := Code.fb seg_Mem_Take.k23
noncomputable def seg_Mem_Take.k26 : Code := Code.fa seg_Mem_Take.k24
noncomputable def seg_Mem_Take.k27 : Code := Code.fb seg_Mem_Take.k24
noncomputable def seg_Mem_Take.k28 : Code := Code.fa seg_Mem_Take.k27
noncomputable def seg_Mem_Take.k29 : Code := Code.fb seg_Mem_Take.k27
noncomputable def seg_Mem_Take.k30 : Code := Code.fa seg_Mem_Take.k25
noncomputable def seg_Mem_Take.k31 : Code := Code.fa seg_Mem_Take.k21
noncomputable def seg_Mem_Take.k32 : Code := Code.fb seg_Mem_Take.k21
noncomputable def seg_Mem_Take.k33 : Code := Code.fa seg_Mem_Take.k32
noncomputable def seg_Mem_Take.k34 : Code := Code.fb seg_Mem_Take.k32
noncomputable def seg_Mem_Take.k35 : Code := Code.fa seg_Mem_Take.k34
noncomputable def seg_Mem_Take.k36 : Code := Code.fb seg_Mem_Take.k34
noncomputable def seg_Mem_Take.k37 : Code := Code.fa seg_Mem_Take.k36
noncomputable def seg_Mem_Take.k38 : Code := Code.fb seg_Mem_Take.k36
def seg_Mem_Take.pt (m : Option Addr) (gen : Int) (kind : Int) (H : Array Obj) (R : Value → Array Obj → Prop) : Prop :=
 onPtr m (
  R (.tuple #[.int .i64 0, .int .i64 1]) H) (fun mA =>
  if gen < 0 then (
   R (.tuple #[.int .i64 0, .int .i64 1]) H)
  else
  if gen > 4 then (
   R (.tuple #[.int .i64 0, .int .i64 1]) H)
  else
  if kind < 0 then (
   R (.tuple #[.int .i64 0, .int .i64 1]) H)
  else
  if kind > 3 then (
   R (.tuple #[.int .i64 0, .int .i64 1]) H)
  else
  ∃ xB : Option Addr, ∃ xN : Nat, ∃ xC : Nat, hat H mA = some (.slice xB xN xC) ∧
  if (xN : Int) = 0 then (
   R (.tuple #[.int .i64 0, .int .i64 1]) H)
  else
  ∃ x : Int, hat H (mA.add 2) = some (.int .i64 x) ∧
  if x = 0 then (
   R (.tuple #[.int .i64 0, .int .i64 2]) H)
  else
  ∃ (I24 : Int → Array Obj → Prop) (m24 : Int → Array Obj → Nat), I24 0 H ∧ ∀ (k : Int) (H1 : Array Obj), I24 k H1 →
  ∃ xB_2 : Option Addr, ∃ xN_2 : Nat, ∃ xC_2 : Nat, hat H1 mA = some (.slice xB_2 xN_2 xC_2) ∧
  ∃ xB2A : Addr, xB_2 = some xB2A ∧
  ((0 : Int) ≤ k ∧ k < (xN_2 : Int)) ∧
  ∃ x_2 : Int, hat H1 ((xB2A.add (Int.toNat k * 72)).add 7) = some (.int .i64 x_2) ∧
  if x_2 > 0 then (
   (I24 (IntKind.wrap .i64 (k + 1)) H1 ∧ m24 (IntKind.wrap .i64 (k + 1)) H1 < m24 k H1))
  else
  ∃ x_3 : Int, hat H1 (mA.add 1) = some (.int .i64 x_3) ∧
  (CanPuts H1 (mA.add 1) 0 1) ∧ ∀ H2 : Array Obj, H2 = hputs H1 (mA.add 1) [.int .i64 (IntKind.wrap .i64 (x_3 + 1))] 0 →
  ∃ x_4 : Int, hat H2 (mA.add 2) = some (.int .i64 x_4) ∧
  (CanPuts H2 (mA.add 2) 0 1) ∧ ∀ H3 : Array Obj, H3 = hputs H2 (mA.add 2) [.int .i64 (IntKind.wrap .i64 (x_4 - 1))] 0 →
  ∃ xB_3 : Option Addr, ∃ xN_3 : Nat, ∃ xC_3 : Nat, hat H3 mA = some (.slice xB_3 xN_3 xC_3) ∧
  ∃ x_5 : Int, hat H3 (mA.add 1) = some (.int .i64 x_5) ∧
  ∃ xB3A : Addr, xB_3 = some xB3A ∧
  ((0 : Int) ≤ k ∧ k < (xN_3 : Int)) ∧
  (CanPuts H3 (xB3A.add (Int.toNat k * 72)) 0 72) ∧ ∀ H4 : Array Obj, H4 = hputs H3 (xB3A.add (Int.toNat k * 72)) ([.int .i64 gen, .int .i64 kind, .int .i64 0, .int .i64 5, .int .i64 5, .int .i64 5, .int .i64 5, .int .i64 x_5] ++ List.replicate 64 (.int .u64 0) : List Value) 0 → 
  R (.tuple #[.int .i64 k, .int .i64 0]) H4)
set_option maxRecDepth 100000 in
theorem seg_Mem_Take.link {m : Option Addr} {gen : Int} {kind : Int} {H : Array Obj} {R : Value → Array Obj → Prop} (h : seg_Mem_Take.pt m gen kind H R) : seg_Mem_Take.C m gen kind H R := by
  refine S_enter (fn := Try.f110) (c := seg_Mem_Take.k0) 83 Try.func110 (by kernel_rfl) (by kernel_rfl) (Nat.le_of_ble_eq_true (by kernel_rfl)) ?_
  intro w0 Q hQ
  unfold seg_Mem_Take.pt at h
  refine S_sub [(0, .pointer m), (1, .int .i64 gen), (2, .int .i64 kind)] (sb (by kernel_rfl)) ?_
  refine S_seq seg_Mem_Take.k1 seg_Mem_Take.k2 (by kernel_rfl) ?_
  refine S_region 0 (Code.ops seg_Mem_Take.k1) (by kernel_rfl) ?_
  refine N_run 2 [(0, .pointer m), (1, .int .i64 gen), (2, .int .i64 kind)] (fun w => by kernel_rfl) ?_
  refine N_end (by kernel_rfl) ?_
  refine S_then ?_
  refine S_seq seg_Mem_Take.k3 seg_Mem_Take.k4 (by kernel_rfl) ?_
  refine S_block 0 seg_Mem_Take.k5 (by kernel_rfl) ?_
  refine S_seq seg_Mem_Take.k6 seg_Mem_Take.k7 (by kernel_rfl) ?_
  refine S_region 1 (Code.ops seg_Mem_Take.k6) (by kernel_rfl) ?_
  refine N_run 1 [(0, .pointer m), (1, .int .i64 gen), (2, .int .i64 kind), (10, .pointer m)] (fun w => by kernel_rfl) ?_
  rcases m with _ | mA
  · rw [onPtr_none] at h
    refine N_run 26 [(0, .pointer none), (1, .int .i64 gen), (2, .int .i64 kind), (9, .bool true)] (fun w => by kernel_rfl) ?_
    refine N_end (by kernel_rfl) ?_
    refine S_then ?_
    refine S_condT (.tmp 9) seg_Mem_Take.k8 seg_Mem_Take.k9 (by kernel_rfl) (by kernel_rfl) ?_
    refine S_seq seg_Mem_Take.k10 seg_Mem_Take.k11 (by kernel_rfl) ?_
    refine S_region 2 (Code.ops seg_Mem_Take.k10) (by kernel_rfl) ?_
    refine N_run 2 [(6, .int .i64 0), (7, .int .i64 1)] (fun w => by kernel_rfl) ?_
    refine N_end (by kernel_rfl) ?_
    refine S_then ?_
    refine S_ret (by kernel_rfl) ?_
    show At _ _ _ _ (Q .ret)
    exact S_done (fn := Try.f110) [.int .i64 0, .int .i64 1] hQ (show ResOK _ _ _ [.tmp 6, .tmp 7] _ from .tmp (by kernel_rfl) (.tmp (by kernel_rfl) (.nil))) h
  · rw [onPtr_some] at h
    refine N_run 6 [(0, .pointer (some mA)), (1, .int .i64 gen), (2, .int .i64 kind), (16, .bool (decide (gen < 0)))] (fun w => by kernel_rfl) ?_
    by_cases c1 : gen < 0
    · rw [if_pos c1] at h
      have b2 : (decide (gen < 0)) = true := decide_eq_true c1
      refine N_env [(0, .pointer (some mA)), (1, .int .i64 gen), (2, .int .i64 kind), (16, .bool true)] (by simp only [b2, Bool.not_true, Bool.not_false]) ?_
      clear b2
      refine N_run 20 [(0, .pointer (some mA)), (1, .int .i64 gen), (2, .int .i64 kind), (9, .bool true)] (fun w => by kernel_rfl) ?_
      refine N_end (by kernel_rfl) ?_
      refine S_then ?_
      refine S_condT (.tmp 9) seg_Mem_Take.k8 seg_Mem_Take.k9 (by kernel_rfl) (by kernel_rfl) ?_
      refine S_seq seg_Mem_Take.k10 seg_Mem_Take.k11 (by kernel_rfl) ?_
      refine S_region 2 (Code.ops seg_Mem_Take.k10) (by kernel_rfl) ?_
      refine N_run 2 [(6, .int .i64 0), (7, .int .i64 1)] (fun w => by kernel_rfl) ?_
      refine N_end (by kernel_rfl) ?_
      refine S_then ?_
      refine S_ret (by kernel_rfl) ?_
      show At _ _ _ _ (Q .ret)
      exact S_done (fn := Try.f110) [.int .i64 0, .int .i64 1] hQ (show ResOK _ _ _ [.tmp 6, .tmp 7] _ from .tmp (by kernel_rfl) (.tmp (by kernel_rfl) (.nil))) h
    · rw [if_neg c1] at h
      have b2 : (decide (gen < 0)) = false := decide_eq_false c1
      refine N_env [(0, .pointer (some mA)), (1, .int .i64 gen), (2, .int .i64 kind), (16, .bool false)] (by simp only [b2, Bool.not_true, Bool.not_false]) ?_
      clear b2
      refine N_run 4 [(0, .pointer (some mA)), (1, .int .i64 gen), (2, .int .i64 kind), (20, .bool (decide (gen > 4)))] (fun w => by kernel_rfl) ?_
      by_cases c3 : gen > 4
      · rw [if_pos c3] at h
        have b4 : (decide (gen > 4)) = true := decide_eq_true c3
        refine N_env [(0, .pointer (some mA)), (1, .int .i64 gen), (2, .int .i64 kind), (20, .bool true)] (by simp only [b4, Bool.not_true, Bool.not_false]) ?_
        clear b4
        refine N_run 16 [(0, .pointer (some mA)), (1, .int .i64 gen), (2, .int .i64 kind), (9, .bool true)] (fun w => by kernel_rfl) ?_
        refine N_end (by kernel_rfl) ?_
        refine S_then ?_
        refine S_condT (.tmp 9) seg_Mem_Take.k8 seg_Mem_Take.k9 (by kernel_rfl) (by kernel_rfl) ?_
        refine S_seq seg_Mem_Take.k10 seg_Mem_Take.k11 (by kernel_rfl) ?_
        refine S_region 2 (Code.ops seg_Mem_Take.k10) (by kernel_rfl) ?_
        refine N_run 2 [(6, .int .i64 0), (7, .int .i64 1)] (fun w => by kernel_rfl) ?_
        refine N_end (by kernel_rfl) ?_
        refine S_then ?_
        refine S_ret (by kernel_rfl) ?_
        show At _ _ _ _ (Q .ret)
        exact S_done (fn := Try.f110) [.int .i64 0, .int .i64 1] hQ (show ResOK _ _ _ [.tmp 6, .tmp 7] _ from .tmp (by kernel_rfl) (.tmp (by kernel_rfl) (.nil))) h
      · rw [if_neg c3] at h
        have b4 : (decide (gen > 4)) = false := decide_eq_false c3
        refine N_env [(0, .pointer (some mA)), (1, .int .i64 gen), (2, .int .i64 kind), (20, .bool false)] (by simp only [b4, Bool.not_true, Bool.not_false]) ?_
        clear b4
        refine N_run 4 [(0, .pointer (some mA)), (1, .int .i64 gen), (2, .int .i64 kind), (24, .bool (decide (kind < 0)))] (fun w => by kernel_rfl) ?_
        by_cases c5 : kind < 0
        · rw [if_pos c5] at h
          have b6 : (decide (kind < 0)) = true := decide_eq_true c5
          refine N_env [(0, .pointer (some mA)), (1, .int .i64 gen), (2, .int .i64 kind), (24, .bool true)] (by simp only [b6, Bool.not_true, Bool.not_false]) ?_
          clear b6
          refine N_run 12 [(0, .pointer (some mA)), (1, .int .i64 gen), (2, .int .i64 kind), (9, .bool true)] (fun w => by kernel_rfl) ?_
          refine N_end (by kernel_rfl) ?_
          refine S_then ?_
          refine S_condT (.tmp 9) seg_Mem_Take.k8 seg_Mem_Take.k9 (by kernel_rfl) (by kernel_rfl) ?_
          refine S_seq seg_Mem_Take.k10 seg_Mem_Take.k11 (by kernel_rfl) ?_
          refine S_region 2 (Code.ops seg_Mem_Take.k10) (by kernel_rfl) ?_
          refine N_run 2 [(6, .int .i64 0), (7, .int .i64 1)] (fun w => by kernel_rfl) ?_
          refine N_end (by kernel_rfl) ?_
          refine S_then ?_
          refine S_ret (by kernel_rfl) ?_
          show At _ _ _ _ (Q .ret)
          exact S_done (fn := Try.f110) [.int .i64 0, .int .i64 1] hQ (show ResOK _ _ _ [.tmp 6, .tmp 7] _ from .tmp (by kernel_rfl) (.tmp (by kernel_rfl) (.nil))) h
        · rw [if_neg c5] at h
          have b6 : (decide (kind < 0)) = false := decide_eq_false c5
          refine N_env [(0, .pointer (some mA)), (1, .int .i64 gen), (2, .int .i64 kind), (24, .bool false)] (by simp only [b6, Bool.not_true, Bool.not_false]) ?_
          clear b6
          refine N_run 4 [(0, .pointer (some mA)), (1, .int .i64 gen), (2, .int .i64 kind), (28, .bool (decide (kind > 3)))] (fun w => by kernel_rfl) ?_
          by_cases c7 : kind > 3
          · rw [if_pos c7] at h
            have b8 : (decide (kind > 3)) = true := decide_eq_true c7
            refine N_env [(0, .pointer (some mA)), (1, .int .i64 gen), (2, .int .i64 kind), (28, .bool true)] (by simp only [b8, Bool.not_true, Bool.not_false]) ?_
            clear b8
            refine N_run 8 [(0, .pointer (some mA)), (1, .int .i64 gen), (2, .int .i64 kind), (9, .bool true)] (fun w => by kernel_rfl) ?_
            refine N_end (by kernel_rfl) ?_
            refine S_then ?_
            refine S_condT (.tmp 9) seg_Mem_Take.k8 seg_Mem_Take.k9 (by kernel_rfl) (by kernel_rfl) ?_
            refine S_seq seg_Mem_Take.k10 seg_Mem_Take.k11 (by kernel_rfl) ?_
            refine S_region 2 (Code.ops seg_Mem_Take.k10) (by kernel_rfl) ?_
            refine N_run 2 [(6, .int .i64 0), (7, .int .i64 1)] (fun w => by kernel_rfl) ?_
            refine N_end (by kernel_rfl) ?_
            refine S_then ?_
            refine S_ret (by kernel_rfl) ?_
            show At _ _ _ _ (Q .ret)
            exact S_done (fn := Try.f110) [.int .i64 0, .int .i64 1] hQ (show ResOK _ _ _ [.tmp 6, .tmp 7] _ from .tmp (by kernel_rfl) (.tmp (by kernel_rfl) (.nil))) h
          · rw [if_neg c7] at h
            have b8 : (decide (kind > 3)) = false := decide_eq_false c7
            refine N_env [(0, .pointer (some mA)), (1, .int .i64 gen), (2, .int .i64 kind), (28, .bool false)] (by simp only [b8, Bool.not_true, Bool.not_false]) ?_
            clear b8
            refine N_run 3 [(0, .pointer (some mA)), (1, .int .i64 gen), (2, .int .i64 kind), (28, .bool false), (31, .pointer (some mA))] (fun w => by kernel_rfl) ?_
            obtain ⟨xB, xN, xC, q9, h⟩ := h
            refine N_val (some 32) (loadN 169 (.pointer (some mA))) (.slice xB xN xC) (fun w => by kernel_rfl) (loadN_run (loadOK_one (fun w => by kernel_rfl) q9)) [(0, .pointer (some mA)), (1, .int .i64 gen), (2, .int .i64 kind), (28, .bool false), (32, .slice xB xN xC)] (ps (by kernel_rfl)) ?_
            refine N_run 4 [(0, .pointer (some mA)), (1, .int .i64 gen), (2, .int .i64 kind), (9, .bool ((xN : Int) == 0))] (fun w => by kernel_rfl) ?_
            refine N_end (by kernel_rfl) ?_
            refine S_then ?_
            by_cases c10 : (xN : Int) = 0
            · rw [if_pos c10] at h
              have b11 : ((xN : Int) == 0) = true := beq_iff_eq.mpr c10
              refine S_env [(0, .pointer (some mA)), (1, .int .i64 gen), (2, .int .i64 kind), (9, .bool true)] (by simp only [b11, Bool.not_true, Bool.not_false]) ?_
              clear b11
              refine S_condT (.tmp 9) seg_Mem_Take.k8 seg_Mem_Take.k9 (by kernel_rfl) (by kernel_rfl) ?_
              refine S_seq seg_Mem_Take.k10 seg_Mem_Take.k11 (by kernel_rfl) ?_
              refine S_region 2 (Code.ops seg_Mem_Take.k10) (by kernel_rfl) ?_
              refine N_run 2 [(6, .int .i64 0), (7, .int .i64 1)] (fun w => by kernel_rfl) ?_
              refine N_end (by kernel_rfl) ?_
              refine S_then ?_
              refine S_ret (by kernel_rfl) ?_
              show At _ _ _ _ (Q .ret)
              exact S_done (fn := Try.f110) [.int .i64 0, .int .i64 1] hQ (show ResOK _ _ _ [.tmp 6, .tmp 7] _ from .tmp (by kernel_rfl) (.tmp (by kernel_rfl) (.nil))) h
            · rw [if_neg c10] at h
              have b11 : ((xN : Int) == 0) = false := beq_eq_false_iff_ne.mpr c10
              refine S_env [(0, .pointer (some mA)), (1, .int .i64 gen), (2, .int .i64 kind), (9, .bool false)] (by simp only [b11, Bool.not_true, Bool.not_false]) ?_
              clear b11
              refine S_condF (.tmp 9) seg_Mem_Take.k8 seg_Mem_Take.k9 (by kernel_rfl) (by kernel_rfl) ?_
              refine S_seq seg_Mem_Take.k12 seg_Mem_Take.k13 (by kernel_rfl) ?_
              refine S_region 3 (Code.ops seg_Mem_Take.k12) (by kernel_rfl) ?_
              refine N_run 3 [(0, .pointer (some mA)), (1, .int .i64 gen), (2, .int .i64 kind), (39, .pointer (some (mA.add 2)))] (fun w => by kernel_rfl) ?_
              obtain ⟨x, q12, h⟩ := h
              refine N_val (some 40) (loadN 3 (.pointer (some (mA.add 2)))) (.int .i64 x) (fun w => by kernel_rfl) (loadN_run (loadOK_one (fun w => by kernel_rfl) q12)) [(0, .pointer (some mA)), (1, .int .i64 gen), (2, .int .i64 kind), (40, .int .i64 x)] (ps (by kernel_rfl)) ?_
              refine N_run 2 [(0, .pointer (some mA)), (1, .int .i64 gen), (2, .int .i64 kind), (36, .bool (x == 0))] (fun w => by kernel_rfl) ?_
              refine N_end (by kernel_rfl) ?_
              refine S_then ?_
              by_cases c13 : x = 0
              · rw [if_pos c13] at h
                have b14 : (x == 0) = true := beq_iff_eq.mpr c13
                refine S_env [(0, .pointer (some mA)), (1, .int .i64 gen), (2, .int .i64 kind), (36, .bool true)] (by simp only [b14, Bool.not_true, Bool.not_false]) ?_
                clear b14
                refine S_condT (.tmp 36) seg_Mem_Take.k14 seg_Mem_Take.k15 (by kernel_rfl) (by kernel_rfl) ?_
                refine S_seq seg_Mem_Take.k16 seg_Mem_Take.k17 (by kernel_rfl) ?_
                refine S_region 4 (Code.ops seg_Mem_Take.k16) (by kernel_rfl) ?_
                refine N_run 2 [(6, .int .i64 0), (7, .int .i64 2)] (fun w => by kernel_rfl) ?_
                refine N_end (by kernel_rfl) ?_
                refine S_then ?_
                refine S_ret (by kernel_rfl) ?_
                show At _ _ _ _ (Q .ret)
                exact S_done (fn := Try.f110) [.int .i64 0, .int .i64 2] hQ (show ResOK _ _ _ [.tmp 6, .tmp 7] _ from .tmp (by kernel_rfl) (.tmp (by kernel_rfl) (.nil))) h
              · rw [if_neg c13] at h
                have b14 : (x == 0) = false := beq_eq_false_iff_ne.mpr c13
                refine S_env [(0, .pointer (some mA)), (1, .int .i64 gen), (2, .int .i64 kind), (36, .bool false)] (by simp only [b14, Bool.not_true, Bool.not_false]) ?_
                clear b14
                refine S_condF (.tmp 36) seg_Mem_Take.k14 seg_Mem_Take.k15 (by kernel_rfl) (by kernel_rfl) ?_
                refine S_skip (by kernel_rfl) ?_
                refine S_blockEnd ?_
                refine S_then ?_
                refine S_seq seg_Mem_Take.k18 seg_Mem_Take.k19 (by kernel_rfl) ?_
                refine S_region 5 (Code.ops seg_Mem_Take.k18) (by kernel_rfl) ?_
                refine N_run 1 [(0, .pointer (some mA)), (1, .int .i64 gen), (2, .int .i64 kind), (8, .int .i64 0)] (fun w => by kernel_rfl) ?_
                refine N_end (by kernel_rfl) ?_
                refine S_then ?_
                refine S_seq seg_Mem_Take.k20 seg_Mem_Take.k21 (by kernel_rfl) ?_
                refine S_block 1 seg_Mem_Take.k22 (by kernel_rfl) ?_
                obtain ⟨I24, m24, i15, i16⟩ := h
                refine S_loop (x := seg_Mem_Take.k23) (σ := Int) (fun s_ => [(0, .pointer (some mA)), (1, .int .i64 gen), (2, .int .i64 kind), (8, .int .i64 s_)]) (fun s_ H => I24 s_ H) (fun s_ H => m24 s_ H) (0 : Int) (by kernel_rfl) i15 (sb (by kernel_rfl)) ?_
                rintro k H1 i17
                have h := i16 k H1 i17
                refine S_sub [(0, .pointer (some mA)), (1, .int .i64 gen), (2, .int .i64 kind), (8, .int .i64 k)] (sb (by kernel_rfl)) ?_
                refine S_seq seg_Mem_Take.k24 seg_Mem_Take.k25 (by kernel_rfl) ?_
                refine S_seq seg_Mem_Take.k26 seg_Mem_Take.k27 (by kernel_rfl) ?_
                refine S_region 6 (Code.ops seg_Mem_Take.k26) (by kernel_rfl) ?_
                refine N_run 3 [(0, .pointer (some mA)), (1, .int .i64 gen), (2, .int .i64 kind), (8, .int .i64 k), (44, .pointer (some mA))] (fun w => by kernel_rfl) ?_
                obtain ⟨xB_2, xN_2, xC_2, q18, h⟩ := h
                refine N_val (some 45) (loadN 169 (.pointer (some mA))) (.slice xB_2 xN_2 xC_2) (fun w => by kernel_rfl) (loadN_run (loadOK_one (fun w => by kernel_rfl) q18)) [(0, .pointer (some mA)), (1, .int .i64 gen), (2, .int .i64 kind), (8, .int .i64 k), (45, .slice xB_2 xN_2 xC_2)] (ps (by kernel_rfl)) ?_
                refine N_run 1 [(0, .pointer (some mA)), (1, .int .i64 gen), (2, .int .i64 kind), (8, .int .i64 k), (45, .slice xB_2 xN_2 xC_2), (46, .int .i64 k)] (fun w => by kernel_rfl) ?_
                obtain ⟨xB2A, rfl, h⟩ := h
                obtain ⟨q19, h⟩ := h
                refine N_val (some 47) (indexAtN 169 (.slice (some xB2A) xN_2 xC_2) (.int .i64 k)) (.pointer (some (xB2A.add (Int.toNat k * 72)))) (fun w => by kernel_rfl) (fun w _ => indexAt_run (P := Try.prog) (t := 169) (elem := 168) (sz := 72) (a := xB2A) (len := xN_2) (cap := xC_2) (k := .i64) (i := k) Try.underlying169 (fun w => by kernel_rfl) q19.1 q19.2 w) [(0, .pointer (some mA)), (1, .int .i64 gen), (2, .int .i64 kind), (8, .int .i64 k), (47, .pointer (some (xB2A.add (Int.toNat k * 72))))] (ps (by kernel_rfl)) ?_
                refine N_run 1 [(0, .pointer (some mA)), (1, .int .i64 gen), (2, .int .i64 kind), (8, .int .i64 k), (48, .pointer (some ((xB2A.add (Int.toNat k * 72)).add 7)))] (fun w => by kernel_rfl) ?_
                obtain ⟨x_2, q20, h⟩ := h
                refine N_val (some 49) (loadN 3 (.pointer (some ((xB2A.add (Int.toNat k * 72)).add 7)))) (.int .i64 x_2) (fun w => by kernel_rfl) (loadN_run (loadOK_one (fun w => by kernel_rfl) q20)) [(0, .pointer (some mA)), (1, .int .i64 gen), (2, .int .i64 kind), (8, .int .i64 k), (49, .int .i64 x_2)] (ps (by kernel_rfl)) ?_
                refine N_run 1 [(0, .pointer (some mA)), (1, .int .i64 gen), (2, .int .i64 kind), (8, .int .i64 k), (50, .bool (decide (x_2 > 0)))] (fun w => by kernel_rfl) ?_
                refine N_end (by kernel_rfl) ?_
                refine S_then ?_
                by_cases c21 : x_2 > 0
                · rw [if_pos c21] at h
                  have b22 : (decide (x_2 > 0)) = true := decide_eq_true c21
                  refine S_env [(0, .pointer (some mA)), (1, .int .i64 gen), (2, .int .i64 kind), (8, .int .i64 k), (50, .bool true)] (by simp only [b22, Bool.not_true, Bool.not_false]) ?_
                  clear b22
                  refine S_condT (.tmp 50) seg_Mem_Take.k28 seg_Mem_Take.k29 (by kernel_rfl) (by kernel_rfl) ?_
                  refine S_skip (by kernel_rfl) ?_
                  refine S_then ?_
                  refine S_block 2 seg_Mem_Take.k30 (by kernel_rfl) ?_
                  refine S_region 7 (Code.ops seg_Mem_Take.k30) (by kernel_rfl) ?_
                  refine N_run 3 [(0, .pointer (some mA)), (1, .int .i64 gen), (2, .int .i64 kind), (8, .int .i64 (IntKind.wrap .i64 (k + 1)))] (fun w => by kernel_rfl) ?_
                  refine N_end (by kernel_rfl) ?_
                  refine S_blockEnd ?_
                  refine S_then ?_
                  exact S_round ((IntKind.wrap .i64 (k + 1)) : Int) (sb (by kernel_rfl)) h
                · rw [if_neg c21] at h
                  have b22 : (decide (x_2 > 0)) = false := decide_eq_false c21
                  refine S_env [(0, .pointer (some mA)), (1, .int .i64 gen), (2, .int .i64 kind), (8, .int .i64 k), (50, .bool false)] (by simp only [b22, Bool.not_true, Bool.not_false]) ?_
                  clear b22
                  refine S_condF (.tmp 50) seg_Mem_Take.k28 seg_Mem_Take.k29 (by kernel_rfl) (by kernel_rfl) ?_
                  refine S_exit 1 (by kernel_rfl) ?_
                  refine S_exitThen ?_
                  refine S_exitThen ?_
                  refine S_exitHere ?_
                  refine S_then ?_
                  refine S_seq seg_Mem_Take.k31 seg_Mem_Take.k32 (by kernel_rfl) ?_
                  refine S_region 8 (Code.ops seg_Mem_Take.k31) (by kernel_rfl) ?_
                  refine N_run 3 [(0, .pointer (some mA)), (1, .int .i64 gen), (2, .int .i64 kind), (8, .int .i64 k), (53, .pointer (some mA)), (55, .pointer (some (mA.add 1)))] (fun w => by kernel_rfl) ?_
                  obtain ⟨x_3, q23, h⟩ := h
                  refine N_val (some 56) (loadN 3 (.pointer (some (mA.add 1)))) (.int .i64 x_3) (fun w => by kernel_rfl) (loadN_run (loadOK_one (fun w => by kernel_rfl) q23)) [(0, .pointer (some mA)), (1, .int .i64 gen), (2, .int .i64 kind), (8, .int .i64 k), (53, .pointer (some mA)), (56, .int .i64 x_3)] (ps (by kernel_rfl)) ?_
                  refine N_run 3 [(0, .pointer (some mA)), (1, .int .i64 gen), (2, .int .i64 kind), (8, .int .i64 k), (57, .int .i64 (IntKind.wrap .i64 (x_3 + 1))), (59, .pointer (some (mA.add 1)))] (fun w => by kernel_rfl) ?_
                  obtain ⟨q25, h⟩ := h
                  refine N_skipop none (storeN 3 (.pointer (some (mA.add 1))) (.int .i64 (IntKind.wrap .i64 (x_3 + 1)))) (fun Hz => Hz = hputs H1 (mA.add 1) [.int .i64 (IntKind.wrap .i64 (x_3 + 1))] 0) (fun w => by kernel_rfl) (ss_store [.int .i64 (IntKind.wrap .i64 (x_3 + 1))] 1 (by kernel_rfl) (by kernel_rfl) (fun w => by kernel_rfl) (by kernel_rfl) q25) ?_
                  intro H2 e24
                  replace h := h H2 e24
                  refine ⟨[(0, .pointer (some mA)), (1, .int .i64 gen), (2, .int .i64 kind), (8, .int .i64 k)], ps (by kernel_rfl), ?_⟩
                  refine N_end (by kernel_rfl) ?_
                  refine S_then ?_
                  refine S_seq seg_Mem_Take.k33 seg_Mem_Take.k34 (by kernel_rfl) ?_
                  refine S_region 9 (Code.ops seg_Mem_Take.k33) (by kernel_rfl) ?_
                  refine N_run 3 [(0, .pointer (some mA)), (1, .int .i64 gen), (2, .int .i64 kind), (8, .int .i64 k), (60, .pointer (some mA)), (62, .pointer (some (mA.add 2)))] (fun w => by kernel_rfl) ?_
                  obtain ⟨x_4, q26, h⟩ := h
                  refine N_val (some 63) (loadN 3 (.pointer (some (mA.add 2)))) (.int .i64 x_4) (fun w => by kernel_rfl) (loadN_run (loadOK_one (fun w => by kernel_rfl) q26)) [(0, .pointer (some mA)), (1, .int .i64 gen), (2, .int .i64 kind), (8, .int .i64 k), (60, .pointer (some mA)), (63, .int .i64 x_4)] (ps (by kernel_rfl)) ?_
                  refine N_run 3 [(0, .pointer (some mA)), (1, .int .i64 gen), (2, .int .i64 kind), (8, .int .i64 k), (64, .int .i64 (IntKind.wrap .i64 (x_4 - 1))), (66, .pointer (some (mA.add 2)))] (fun w => by kernel_rfl) ?_
                  obtain ⟨q28, h⟩ := h
                  refine N_skipop none (storeN 3 (.pointer (some (mA.add 2))) (.int .i64 (IntKind.wrap .i64 (x_4 - 1)))) (fun Hz => Hz = hputs H2 (mA.add 2) [.int .i64 (IntKind.wrap .i64 (x_4 - 1))] 0) (fun w => by kernel_rfl) (ss_store [.int .i64 (IntKind.wrap .i64 (x_4 - 1))] 1 (by kernel_rfl) (by kernel_rfl) (fun w => by kernel_rfl) (by kernel_rfl) q28) ?_
                  intro H3 e27
                  replace h := h H3 e27
                  refine ⟨[(0, .pointer (some mA)), (1, .int .i64 gen), (2, .int .i64 kind), (8, .int .i64 k)], ps (by kernel_rfl), ?_⟩
                  refine N_end (by kernel_rfl) ?_
                  refine S_then ?_
                  refine S_seq seg_Mem_Take.k35 seg_Mem_Take.k36 (by kernel_rfl) ?_
                  obtain ⟨xB_3, xN_3, xC_3, q29, h⟩ := h
                  obtain ⟨x_5, q30, h⟩ := h
                  obtain ⟨xB3A, rfl, h⟩ := h
                  obtain ⟨q31, h⟩ := h
                  refine S_regionG 10 (Code.ops seg_Mem_Take.k35) [(15, mA, [.slice (some xB3A) xN_3 xC_3]), (15, (mA.add 1), [.int .i64 x_5])] 16 #[false, false, false, false, false, false, false, false, false, false, false, false, false, false, false, false] (by kernel_rfl) (by kernel_rfl) (by kernel_rfl) (by kernel_rfl) (by kernel_rfl) (show FactsAt _ _ _ from ⟨⟨q29, trivial⟩, ⟨q30, trivial⟩, trivial⟩) ?_
                  refine G_take 0 (some 67) (.pointer (some mA)) #[true, false, false, false, false, false, false, false, false, false, false, false, false, false, false, false] [(0, .pointer (some mA)), (1, .int .i64 gen), (2, .int .i64 kind), (8, .int .i64 k), (67, .pointer (some mA))] ((pure (.value (.pointer (some mA))) : Sem Next)) (fun w => by kernel_rfl) (fun _ _ _ _ _ => rfl) (by kernel_rfl) (by kernel_rfl) (by kernel_rfl) (by kernel_rfl) (by kernel_rfl) (ps (by kernel_rfl)) ?_
                  refine G_take 1 (some 68) (.pointer (some mA)) #[true, true, false, false, false, false, false, false, false, false, false, false, false, false, false, false] [(0, .pointer (some mA)), (1, .int .i64 gen), (2, .int .i64 kind), (8, .int .i64 k), (68, .pointer (some mA))] ((pure (.value (.pointer (some mA))) : Sem Next)) (fun w => by kernel_rfl) (fun _ _ _ _ _ => rfl) (by kernel_rfl) (by kernel_rfl) (by kernel_rfl) (by kernel_rfl) (by kernel_rfl) (ps (by kernel_rfl)) ?_
                  refine G_take 2 (some 69) (.pointer (some mA)) #[true, true, true, false, false, false, false, false, false, false, false, false, false, false, false, false] [(0, .pointer (some mA)), (1, .int .i64 gen), (2, .int .i64 kind), (8, .int .i64 k), (69, .pointer (some mA))] ((pure (.value (.pointer (some mA))) : Sem Next)) (fun w => by kernel_rfl) (fun _ _ _ _ _ => rfl) (by kernel_rfl) (by kernel_rfl) (by kernel_rfl) (by kernel_rfl) (by kernel_rfl) (ps (by kernel_rfl)) ?_
                  refine G_take 3 (some 70) (.slice (some xB3A) xN_3 xC_3) #[true, true, true, true, false, false, false, false, false, false, false, false, false, false, false, false] [(0, .pointer (some mA)), (1, .int .i64 gen), (2, .int .i64 kind), (8, .int .i64 k), (70, .slice (some xB3A) xN_3 xC_3)] (loadN 169 (.pointer (some mA))) (fun w => by kernel_rfl) (held_one 15 (fun w => by kernel_rfl) (List.Mem.head _) (.inl (by kernel_rfl))) (by kernel_rfl) (by kernel_rfl) (by kernel_rfl) (by kernel_rfl) (by kernel_rfl) (ps (by kernel_rfl)) ?_
                  refine G_take 4 (some 71) (.int .i64 k) #[true, true, true, true, true, false, false, false, false, false, false, false, false, false, false, false] [(0, .pointer (some mA)), (1, .int .i64 gen), (2, .int .i64 kind), (8, .int .i64 k), (70, .slice (some xB3A) xN_3 xC_3), (71, .int .i64 k)] ((pure (.value (.int .i64 k)) : Sem Next)) (fun w => by kernel_rfl) (fun _ _ _ _ _ => rfl) (by kernel_rfl) (by kernel_rfl) (by kernel_rfl) (by kernel_rfl) (by kernel_rfl) (ps (by kernel_rfl)) ?_
                  refine G_take 5 (some 72) (.int .i64 gen) #[true, true, true, true, true, true, false, false, false, false, false, false, false, false, false, false] [(0, .pointer (some mA)), (2, .int .i64 kind), (8, .int .i64 k), (70, .slice (some xB3A) xN_3 xC_3), (71, .int .i64 k), (72, .int .i64 gen)] ((pure (.value (.int .i64 gen)) : Sem Next)) (fun w => by kernel_rfl) (fun _ _ _ _ _ => rfl) (by kernel_rfl) (by kernel_rfl) (by kernel_rfl) (by kernel_rfl) (by kernel_rfl) (ps (by kernel_rfl)) ?_
                  refine G_take 6 (some 73) (.int .i64 kind) #[true, true, true, true, true, true, true, false, false, false, false, false, false, false, false, false] [(0, .pointer (some mA)), (8, .int .i64 k), (70, .slice (some xB3A) xN_3 xC_3), (71, .int .i64 k), (72, .int .i64 gen), (73, .int .i64 kind)] ((pure (.value (.int .i64 kind)) : Sem Next)) (fun w => by kernel_rfl) (fun _ _ _ _ _ => rfl) (by kernel_rfl) (by kernel_rfl) (by kernel_rfl) (by kernel_rfl) (by kernel_rfl) (ps (by kernel_rfl)) ?_
                  refine G_take 7 (some 74) (.agg #[.int .i64 5, .int .i64 5, .int .i64 5, .int .i64 5]) #[true, true, true, true, true, true, true, true, false, false, false, false, false, false, false, false] [(0, .pointer (some mA)), (8, .int .i64 k), (70, .slice (some xB3A) xN_3 xC_3), (71, .int .i64 k), (72, .int .i64 gen), (73, .int .i64 kind), (74, .agg #[.int .i64 5, .int .i64 5, .int .i64 5, .int .i64 5])] ((pure (.value (.agg #[.int .i64 5, .int .i64 5, .int .i64 5, .int .i64 5])) : Sem Next)) (fun w => by kernel_rfl) (fun _ _ _ _ _ => rfl) (by kernel_rfl) (by kernel_rfl) (by kernel_rfl) (by kernel_rfl) (by kernel_rfl) (ps (by kernel_rfl)) ?_
                  refine G_take 8 (some 75) (.agg #[.int .i64 gen, .int .i64 kind, .int .i64 0, .int .i64 5, .int .i64 5, .int .i64 5, .int .i64 5]) #[true, true, true, true, true, true, true, true, true, false, false, false, false, false, false, false] [(0, .pointer (some mA)), (8, .int .i64 k), (70, .slice (some xB3A) xN_3 xC_3), (71, .int .i64 k), (75, .agg #[.int .i64 gen, .int .i64 kind, .int .i64 0, .int .i64 5, .int .i64 5, .int .i64 5, .int .i64 5])] ((pure (.value (.agg #[.int .i64 gen, .int .i64 kind, .int .i64 0, .int .i64 5, .int .i64 5, .int .i64 5, .int .i64 5])) : Sem Next)) (fun w => by kernel_rfl) (fun _ _ _ _ _ => rfl) (by kernel_rfl) (by kernel_rfl) (by kernel_rfl) (by kernel_rfl) (by kernel_rfl) (ps (by kernel_rfl)) ?_
                  refine G_take 9 (some 76) (.pointer (some mA)) #[true, true, true, true, true, true, true, true, true, true, false, false, false, false, false, false] [(8, .int .i64 k), (70, .slice (some xB3A) xN_3 xC_3), (71, .int .i64 k), (75, .agg #[.int .i64 gen, .int .i64 kind, .int .i64 0, .int .i64 5, .int .i64 5, .int .i64 5, .int .i64 5]), (76, .pointer (some mA))] ((pure (.value (.pointer (some mA))) : Sem Next)) (fun w => by kernel_rfl) (fun _ _ _ _ _ => rfl) (by kernel_rfl) (by kernel_rfl) (by kernel_rfl) (by kernel_rfl) (by kernel_rfl) (ps (by kernel_rfl)) ?_
                  refine G_take 10 (some 77) (.pointer (some mA)) #[true, true, true, true, true, true, true, true, true, true, true, false, false, false, false, false] [(8, .int .i64 k), (70, .slice (some xB3A) xN_3 xC_3), (71, .int .i64 k), (75, .agg #[.int .i64 gen, .int .i64 kind, .int .i64 0, .int .i64 5, .int .i64 5, .int .i64 5, .int .i64 5]), (77, .pointer (some mA))] ((pure (.value (.pointer (some mA))) : Sem Next)) (fun w => by kernel_rfl) (fun _ _ _ _ _ => rfl) (by kernel_rfl) (by kernel_rfl) (by kernel_rfl) (by kernel_rfl) (by kernel_rfl) (ps (by kernel_rfl)) ?_
                  refine G_take 11 (some 78) (.pointer (some (mA.add 1))) #[true, true, true, true, true, true, true, true, true, true, true, true, false, false, false, false] [(8, .int .i64 k), (70, .slice (some xB3A) xN_3 xC_3), (71, .int .i64 k), (75, .agg #[.int .i64 gen, .int .i64 kind, .int .i64 0, .int .i64 5, .int .i64 5, .int .i64 5, .int .i64 5]), (78, .pointer (some (mA.add 1)))] ((pure (.value (.pointer (some (mA.add 1)))) : Sem Next)) (fun w => by kernel_rfl) (fun _ _ _ _ _ => rfl) (by kernel_rfl) (by kernel_rfl) (by kernel_rfl) (by kernel_rfl) (by kernel_rfl) (ps (by kernel_rfl)) ?_
                  refine G_take 12 (some 79) (.int .i64 x_5) #[true, true, true, true, true, true, true, true, true, true, true, true, true, false, false, false] [(8, .int .i64 k), (70, .slice (some xB3A) xN_3 xC_3), (71, .int .i64 k), (75, .agg #[.int .i64 gen, .int .i64 kind, .int .i64 0, .int .i64 5, .int .i64 5, .int .i64 5, .int .i64 5]), (79, .int .i64 x_5)] (loadN 3 (.pointer (some (mA.add 1)))) (fun w => by kernel_rfl) (held_one 15 (fun w => by kernel_rfl) (List.Mem.tail _ (List.Mem.head _)) (.inl (by kernel_rfl))) (by kernel_rfl) (by kernel_rfl) (by kernel_rfl) (by kernel_rfl) (by kernel_rfl) (ps (by kernel_rfl)) ?_
                  refine G_take 13 (some 80) (.agg ([.int .i64 gen, .int .i64 kind, .int .i64 0, .int .i64 5, .int .i64 5, .int .i64 5, .int .i64 5, .int .i64 x_5] ++ List.replicate 64 (.int .u64 0) : List Value).toArray) #[true, true, true, true, true, true, true, true, true, true, true, true, true, true, false, false] [(8, .int .i64 k), (70, .slice (some xB3A) xN_3 xC_3), (71, .int .i64 k), (80, .agg ([.int .i64 gen, .int .i64 kind, .int .i64 0, .int .i64 5, .int .i64 5, .int .i64 5, .int .i64 5, .int .i64 x_5] ++ List.replicate 64 (.int .u64 0) : List Value).toArray)] ((pure (.value (.agg ([.int .i64 gen, .int .i64 kind, .int .i64 0, .int .i64 5, .int .i64 5, .int .i64 5, .int .i64 5, .int .i64 x_5] ++ List.replicate 64 (.int .u64 0) : List Value).toArray)) : Sem Next)) (fun w => by kernel_rfl) (fun _ _ _ _ _ => rfl) (by kernel_rfl) (by kernel_rfl) (by kernel_rfl) (by kernel_rfl) (by kernel_rfl) (ps (by kernel_rfl)) ?_
                  refine G_take 14 (some 81) (.pointer (some (xB3A.add (Int.toNat k * 72)))) #[true, true, true, true, true, true, true, true, true, true, true, true, true, true, true, false] [(8, .int .i64 k), (80, .agg ([.int .i64 gen, .int .i64 kind, .int .i64 0, .int .i64 5, .int .i64 5, .int .i64 5, .int .i64 5, .int .i64 x_5] ++ List.replicate 64 (.int .u64 0) : List Value).toArray), (81, .pointer (some (xB3A.add (Int.toNat k * 72))))] (indexAtN 169 (.slice (some xB3A) xN_3 xC_3) (.int .i64 k)) (fun w => by kernel_rfl) (fun _ w _ _ _ => indexAt_run (P := Try.prog) (t := 169) (elem := 168) (sz := 72) (a := xB3A) (len := xN_3) (cap := xC_3) (k := .i64) (i := k) Try.underlying169 (fun w => by kernel_rfl) q31.1 q31.2 w) (by kernel_rfl) (by kernel_rfl) (by kernel_rfl) (by kernel_rfl) (by kernel_rfl) (ps (by kernel_rfl)) ?_
                  obtain ⟨q33, h⟩ := h
                  refine G_onlyskip 15 none #[true, true, true, true, true, true, true, true, true, true, true, true, true, true, true, true] (storeN 168 (.pointer (some (xB3A.add (Int.toNat k * 72)))) (.agg ([.int .i64 gen, .int .i64 kind, .int .i64 0, .int .i64 5, .int .i64 5, .int .i64 5, .int .i64 5, .int .i64 x_5] ++ List.replicate 64 (.int .u64 0) : List Value).toArray)) (fun Hz => Hz = hputs H3 (xB3A.add (Int.toNat k * 72)) ([.int .i64 gen, .int .i64 kind, .int .i64 0, .int .i64 5, .int .i64 5, .int .i64 5, .int .i64 5, .int .i64 x_5] ++ List.replicate 64 (.int .u64 0) : List Value) 0) (by kernel_rfl) (fun w => by kernel_rfl) (by intro w hw; obtain ⟨w1, g1, g2, g3⟩ := ss_store (P := Try.prog) (H := H3) (t := 168) (a := (xB3A.add (Int.toNat k * 72))) (v := (.agg ([.int .i64 gen, .int .i64 kind, .int .i64 0, .int .i64 5, .int .i64 5, .int .i64 5, .int .i64 5, .int .i64 x_5] ++ List.replicate 64 (.int .u64 0) : List Value).toArray)) ([.int .i64 gen, .int .i64 kind, .int .i64 0, .int .i64 5, .int .i64 5, .int .i64 5, .int .i64 5, .int .i64 x_5] ++ List.replicate 64 (.int .u64 0) : List Value) 72 (by kernel_rfl) (by kernel_rfl) (fun w => by kernel_rfl) (by kernel_rfl) q33 w hw; exact ⟨w1, g1, g2, g3⟩) (by kernel_rfl) ?_
                  intro H4 e32
                  replace h := h H4 e32
                  refine ⟨[(8, .int .i64 k)], ps (by kernel_rfl), (show FactsAt _ _ _ from ⟨trivial, trivial, trivial⟩), ?_⟩
                  refine G_sub [(8, .int .i64 k)] (sb (by kernel_rfl)) ?_
                  refine G_end (by kernel_rfl) ?_
                  refine S_then ?_
                  refine S_seq seg_Mem_Take.k37 seg_Mem_Take.k38 (by kernel_rfl) ?_
                  refine S_region 11 (Code.ops seg_Mem_Take.k37) (by kernel_rfl) ?_
                  refine N_run 3 [(6, .int .i64 k), (7, .int .i64 0)] (fun w => by kernel_rfl) ?_
                  refine N_end (by kernel_rfl) ?_
                  refine S_then ?_
                  refine S_ret (by kernel_rfl) ?_
                  show At _ _ _ _ (Q .ret)
                  exact S_done (fn := Try.f110) [.int .i64 k, .int .i64 0] hQ (show ResOK _ _ _ [.tmp 6, .tmp 7] _ from .tmp (by kernel_rfl) (.tmp (by kernel_rfl) (.nil))) h

/-! (*moraine/seg.Mem).Copy -/
noncomputable def seg_Mem_Copy.k0 : Code := Func.code Try.f114
noncomputable def seg_Mem_Copy.k1 : Code := Code.fa seg_Mem_Copy.k0
noncomputable def seg_Mem_Copy.k2 : Code := Code.fb seg_Mem_Copy.k0
noncomputable def seg_Mem_Copy.k3 : Code := Code.fa seg_Mem_Copy.k2
noncomputable def seg_Mem_Copy.k4 : Code := Code.fb seg_Mem_Copy.k2
noncomputable def seg_Mem_Copy.k5 : Code := Code.fa seg_Mem_Copy.k3
noncomputable def seg_Mem_Copy.k6 : Code := Code.fb seg_Mem_Copy.k3
noncomputable def seg_Mem_Copy.k7 : Code := Code.fa seg_Mem_Copy.k6
noncomputable def seg_Mem_Copy.k8 : Code := Code.fb seg_Mem_Copy.k6
noncomputable def seg_Mem_Copy.k9 : Code := Code.fa seg_Mem_Copy.k7
noncomputable def seg_Mem_Copy.k10 : Code := Code.fb seg_Mem_Copy.k7
noncomputable def seg_Mem_Copy.k11 : Code := Code.fa seg_Mem_Copy.k4
noncomputable def seg_Mem_Copy.k12 : Code := Code.fb seg_Mem_Copy.k4
def seg_Mem_Copy.pt (m : Option Addr) (H : Array Obj) (R : Value → Array Obj → Prop) : Prop :=
 onPtr m (
  R (.pointer none) H) (fun mA =>
  ∃ xB : Option Addr, ∃ xN : Nat, ∃ xC : Nat, hat H mA = some (.slice xB xN xC) ∧
  ∃ x : Int, hat H (mA.add 1) = some (.int .i64 x) ∧
  ∃ x_2 : Int, hat H (mA.add 2) = some (.int .i64 x_2) ∧
  slices_Clone_seg_segment_seg_segment.C xB xN xC H (fun v H1 => ∃ xB_2 : Option Addr, ∃ xN_2 : Nat, ∃ xC_2 : Nat, v = .slice xB_2 xN_2 xC_2 ∧ RowAt H1 (mA.add 1) 0 [.int .i64 x] ∧ RowAt H1 (mA.add 2) 0 [.int .i64 x_2] ∧ 
   ∀ (b : Nat) (H2 : Array Obj), b = H1.size → H2 = H1.push (.cells #[.slice xB_2 xN_2 xC_2, .int .i64 x, .int .i64 x_2] 171) → 
   R (.pointer (some (Addr.mk b 0 none))) H2))
set_option maxRecDepth 100000 in
theorem seg_Mem_Copy.link {m : Option Addr} {H : Array Obj} {R : Value → Array Obj → Prop} (h : seg_Mem_Copy.pt m H R) : seg_Mem_Copy.C m H R := by
  refine S_enter (fn := Try.f114) (c := seg_Mem_Copy.k0) 20 Try.func114 (by kernel_rfl) (by kernel_rfl) (Nat.le_of_ble_eq_true (by kernel_rfl)) ?_
  intro w0 Q hQ
  unfold seg_Mem_Copy.pt at h
  refine S_sub [(0, .pointer m)] (sb (by kernel_rfl)) ?_
  refine S_seq seg_Mem_Copy.k1 seg_Mem_Copy.k2 (by kernel_rfl) ?_
  refine S_region 0 (Code.ops seg_Mem_Copy.k1) (by kernel_rfl) ?_
  refine N_run 1 [(0, .pointer m)] (fun w => by kernel_rfl) ?_
  refine N_end (by kernel_rfl) ?_
  refine S_then ?_
  refine S_seq seg_Mem_Copy.k3 seg_Mem_Copy.k4 (by kernel_rfl) ?_
  refine S_seq seg_Mem_Copy.k5 seg_Mem_Copy.k6 (by kernel_rfl) ?_
  refine S_region 1 (Code.ops seg_Mem_Copy.k5) (by kernel_rfl) ?_
  refine N_run 1 [(0, .pointer m), (3, .pointer m)] (fun w => by kernel_rfl) ?_
  rcases m with _ | mA
  · rw [onPtr_none] at h
    refine N_run 1 [(0, .pointer none), (4, .bool true)] (fun w => by kernel_rfl) ?_
    refine N_end (by kernel_rfl) ?_
    refine S_then ?_
    refine S_condT (.tmp 4) seg_Mem_Copy.k7 seg_Mem_Copy.k8 (by kernel_rfl) (by kernel_rfl) ?_
    refine S_seq seg_Mem_Copy.k9 seg_Mem_Copy.k10 (by kernel_rfl) ?_
    refine S_region 2 (Code.ops seg_Mem_Copy.k9) (by kernel_rfl) ?_
    refine N_run 1 [(2, .pointer none)] (fun w => by kernel_rfl) ?_
    refine N_end (by kernel_rfl) ?_
    refine S_then ?_
    refine S_ret (by kernel_rfl) ?_
    show At _ _ _ _ (Q .ret)
    exact S_done (fn := Try.f114) [.pointer none] hQ (show ResOK _ _ _ [.tmp 2] _ from .tmp (by kernel_rfl) (.nil)) h
  · rw [onPtr_some] at h
    refine N_run 1 [(0, .pointer (some mA)), (4, .bool false)] (fun w => by kernel_rfl) ?_
    refine N_end (by kernel_rfl) ?_
    refine S_then ?_
    refine S_condF (.tmp 4) seg_Mem_Copy.k7 seg_Mem_Copy.k8 (by kernel_rfl) (by kernel_rfl) ?_
    refine S_skip (by kernel_rfl) ?_
    refine S_then ?_
    refine S_seq seg_Mem_Copy.k11 seg_Mem_Copy.k12 (by kernel_rfl) ?_
    obtain ⟨xB, xN, xC, q1, h⟩ := h
    obtain ⟨x, q2, h⟩ := h
    obtain ⟨x_2, q3, h⟩ := h
    refine S_regionG 3 (Code.ops seg_Mem_Copy.k11) [(4, mA, [.slice xB xN xC]), (14, (mA.add 1), [.int .i64 x]), (14, (mA.add 2), [.int .i64 x_2])] 16 #[false, false, false, false, false, false, false, false, false, false, false, false, false, false, false, false] (by kernel_rfl) (by kernel_rfl) (by kernel_rfl) (by kernel_rfl) (by kernel_rfl) (show FactsAt _ _ _ from ⟨⟨q1, trivial⟩, ⟨q2, trivial⟩, ⟨q3, trivial⟩, trivial⟩) ?_
    refine G_take 0 (some 5) (.pointer (some mA)) #[true, false, false, false, false, false, false, false, false, false, false, false, false, false, false, false] [(0, .pointer (some mA)), (5, .pointer (some mA))] ((pure (.value (.pointer (some mA))) : Sem Next)) (fun w => by kernel_rfl) (fun _ _ _ _ _ => rfl) (by kernel_rfl) (by kernel_rfl) (by kernel_rfl) (by kernel_rfl) (by kernel_rfl) (ps (by kernel_rfl)) ?_
    refine G_take 1 (some 6) (.pointer (some mA)) #[true, true, false, false, false, false, false, false, false, false, false, false, false, false, false, false] [(0, .pointer (some mA)), (6, .pointer (some mA))] ((pure (.value (.pointer (some mA))) : Sem Next)) (fun w => by kernel_rfl) (fun _ _ _ _ _ => rfl) (by kernel_rfl) (by kernel_rfl) (by kernel_rfl) (by kernel_rfl) (by kernel_rfl) (ps (by kernel_rfl)) ?_
    refine G_take 2 (some 7) (.pointer (some mA)) #[true, true, true, false, false, false, false, false, false, false, false, false, false, false, false, false] [(0, .pointer (some mA)), (7, .pointer (some mA))] ((pure (.value (.pointer (some mA))) : Sem Next)) (fun w => by kernel_rfl) (fun _ _ _ _ _ => rfl) (by kernel_rfl) (by kernel_rfl) (by kernel_rfl) (by kernel_rfl) (by kernel_rfl) (ps (by kernel_rfl)) ?_
    refine G_take 3 (some 8) (.slice xB xN xC) #[true, true, true, true, false, false, false, false, false, false, false, false, false, false, false, false] [(0, .pointer (some mA)), (8, .slice xB xN xC)] (loadN 169 (.pointer (some mA))) (fun w => by kernel_rfl) (held_one 4 (fun w => by kernel_rfl) (List.Mem.head _) (.inl (by kernel_rfl))) (by kernel_rfl) (by kernel_rfl) (by kernel_rfl) (by kernel_rfl) (by kernel_rfl) (ps (by kernel_rfl)) ?_
    refine G_take 5 (some 10) (.pointer (some mA)) #[true, true, true, true, false, true, false, false, false, false, false, false, false, false, false, false] [(0, .pointer (some mA)), (8, .slice xB xN xC), (10, .pointer (some mA))] ((pure (.value (.pointer (some mA))) : Sem Next)) (fun w => by kernel_rfl) (fun _ _ _ _ _ => rfl) (by kernel_rfl) (by kernel_rfl) (by kernel_rfl) (by kernel_rfl) (by kernel_rfl) (ps (by kernel_rfl)) ?_
    refine G_take 6 (some 11) (.pointer (some mA)) #[true, true, true, true, false, true, true, false, false, false, false, false, false, false, false, false] [(0, .pointer (some mA)), (8, .slice xB xN xC), (11, .pointer (some mA))] ((pure (.value (.pointer (some mA))) : Sem Next)) (fun w => by kernel_rfl) (fun _ _ _ _ _ => rfl) (by kernel_rfl) (by kernel_rfl) (by kernel_rfl) (by kernel_rfl) (by kernel_rfl) (ps (by kernel_rfl)) ?_
    refine G_take 7 (some 12) (.pointer (some (mA.add 1))) #[true, true, true, true, false, true, true, true, false, false, false, false, false, false, false, false] [(0, .pointer (some mA)), (8, .slice xB xN xC), (12, .pointer (some (mA.add 1)))] ((pure (.value (.pointer (some (mA.add 1)))) : Sem Next)) (fun w => by kernel_rfl) (fun _ _ _ _ _ => rfl) (by kernel_rfl) (by kernel_rfl) (by kernel_rfl) (by kernel_rfl) (by kernel_rfl) (ps (by kernel_rfl)) ?_
    refine G_take 8 (some 13) (.int .i64 x) #[true, true, true, true, false, true, true, true, true, false, false, false, false, false, false, false] [(0, .pointer (some mA)), (8, .slice xB xN xC), (13, .int .i64 x)] (loadN 3 (.pointer (some (mA.add 1)))) (fun w => by kernel_rfl) (held_one 14 (fun w => by kernel_rfl) (List.Mem.tail _ (List.Mem.head _)) (.inl (by kernel_rfl))) (by kernel_rfl) (by kernel_rfl) (by kernel_rfl) (by kernel_rfl) (by kernel_rfl) (ps (by kernel_rfl)) ?_
    refine G_take 9 (some 14) (.pointer (some mA)) #[true, true, true, true, false, true, true, true, true, true, false, false, false, false, false, false] [(8, .slice xB xN xC), (13, .int .i64 x), (14, .pointer (some mA))] ((pure (.value (.pointer (some mA))) : Sem Next)) (fun w => by kernel_rfl) (fun _ _ _ _ _ => rfl) (by kernel_rfl) (by kernel_rfl) (by kernel_rfl) (by kernel_rfl) (by kernel_rfl) (ps (by kernel_rfl)) ?_
    refine G_take 10 (some 15) (.pointer (some mA)) #[true, true, true, true, false, true, true, true, true, true, true, false, false, false, false, false] [(8, .slice xB xN xC), (13, .int .i64 x), (15, .pointer (some mA))] ((pure (.value (.pointer (some mA))) : Sem Next)) (fun w => by kernel_rfl) (fun _ _ _ _ _ => rfl) (by kernel_rfl) (by kernel_rfl) (by kernel_rfl) (by kernel_rfl) (by kernel_rfl) (ps (by kernel_rfl)) ?_
    refine G_take 11 (some 16) (.pointer (some (mA.add 2))) #[true, true, true, true, false, true, true, true, true, true, true, true, false, false, false, false] [(8, .slice xB xN xC), (13, .int .i64 x), (16, .pointer (some (mA.add 2)))] ((pure (.value (.pointer (some (mA.add 2)))) : Sem Next)) (fun w => by kernel_rfl) (fun _ _ _ _ _ => rfl) (by kernel_rfl) (by kernel_rfl) (by kernel_rfl) (by kernel_rfl) (by kernel_rfl) (ps (by kernel_rfl)) ?_
    refine G_take 12 (some 17) (.int .i64 x_2) #[true, true, true, true, false, true, true, true, true, true, true, true, true, false, false, false] [(8, .slice xB xN xC), (13, .int .i64 x), (17, .int .i64 x_2)] (loadN 3 (.pointer (some (mA.add 2)))) (fun w => by kernel_rfl) (held_one 14 (fun w => by kernel_rfl) (List.Mem.tail _ (List.Mem.tail _ (List.Mem.head _))) (.inl (by kernel_rfl))) (by kernel_rfl) (by kernel_rfl) (by kernel_rfl) (by kernel_rfl) (by kernel_rfl) (ps (by kernel_rfl)) ?_
    refine G_call 4 (some 9) #[true, true, true, true, true, true, true, true, true, true, true, true, true, false, false, false] 121 #[.slice xB xN xC] (by kernel_rfl) (fun w => by kernel_rfl) h (by kernel_rfl) ?_; clear h
    rintro v H1 ⟨xB_2, xN_2, xC_2, rfl, h⟩
    obtain ⟨f4, f5, h⟩ := h
    refine ⟨[(9, .slice xB_2 xN_2 xC_2), (13, .int .i64 x), (17, .int .i64 x_2)], ps (by kernel_rfl), (show FactsAt _ _ _ from ⟨trivial, f4, f5, trivial⟩), ?_⟩
    refine G_take 13 (some 18) (.agg #[.slice xB_2 xN_2 xC_2, .int .i64 x, .int .i64 x_2]) #[true, true, true, true, true, true, true, true, true, true, true, true, true, true, false, false] [(18, .agg #[.slice xB_2 xN_2 xC_2, .int .i64 x, .int .i64 x_2])] (pure (.value (.agg #[.slice xB_2 xN_2 xC_2, .int .i64 x, .int .i64 x_2])) : Sem Next) (fun w => by kernel_rfl) (fun _ _ _ _ _ => rfl) (by kernel_rfl) (by kernel_rfl) (by kernel_rfl) (by kernel_rfl) (by kernel_rfl) (ps (by kernel_rfl)) ?_
    refine G_new 14 (some 19) #[true, true, true, true, true, true, true, true, true, true, true, true, true, true, true, false] (fun b => .pointer (some (Addr.mk b 0 none))) (.cells #[.slice xB_2 xN_2 xC_2, .int .i64 x, .int .i64 x_2] 171) (by kernel_rfl) (fun w => by kernel_rfl) (by kernel_rfl) ?_
    intro b H2 e6 e7
    replace h := h b H2 e6 e7
    refine ⟨[(19, .pointer (some (Addr.mk b 0 none)))], ps (by kernel_rfl), (show FactsAt _ _ _ from ⟨trivial, trivial, trivial, trivial⟩), ?_⟩
    refine G_take 15 (some 2) (.pointer (some (Addr.mk b 0 none))) #[true, true, true, true, true, true, true, true, true, true, true, true, true, true, true, true] [(2, .pointer (some (Addr.mk b 0 none)))] (pure (.value (.pointer (some (Addr.mk b 0 none)))) : Sem Next) (fun w => by kernel_rfl) (fun _ _ _ _ _ => rfl) (by kernel_rfl) (by kernel_rfl) (by kernel_rfl) (by kernel_rfl) (by kernel_rfl) (ps (by kernel_rfl)) ?_
    refine G_sub [(2, .pointer (some (Addr.mk b 0 none)))] (sb (by kernel_rfl)) ?_
    refine G_end (by kernel_rfl) ?_
    refine S_then ?_
    refine S_ret (by kernel_rfl) ?_
    show At _ _ _ _ (Q .ret)
    exact S_done (fn := Try.f114) [.pointer (some (Addr.mk b 0 none))] hQ (show ResOK _ _ _ [.tmp 2] _ from .tmp (by kernel_rfl) (.nil)) h

end Go.Proofs.Ytfohlkiikppefaa
