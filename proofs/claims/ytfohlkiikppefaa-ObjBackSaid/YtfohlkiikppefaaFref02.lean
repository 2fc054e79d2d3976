/-
  Written by a program of mine (gen.py): for functions of this translation a predicate transformer over heaps (.pt), and the proof that it is sound for the call (.link).
-/
import Derived.Test.YtfohlkiikppefaaFnsC
set_option linter.unusedSimpArgs false
set_option linter.unusedVariables false
set_option maxHeartbeats 1000000
noncomputable section
namespace Go.Proofs.Ytfohlkiikppefaa
open Go
/-! moraine/moraineref02.Same -/
namespace moraineref02_Same
def kk0 := Func.code Try.f45
def kk1 := Code.fa kk0
def kk2 := Code.fb kk0
def kk3 := Code.fa kk2
def kk4 := Code.fb kk2
def kk5 := Code.fa kk3
def kk6 := Code.fb kk3
def kk7 := Code.fa kk6
def kk8 := Code.fb kk6
def kk9 := Code.fa kk4
def kk10 := Code.fb kk4
def kk11 := Code.fa kk9
def kk12 := Code.fb kk9
def kk13 := Code.fa kk12
def kk14 := Code.fa kk13
def kk15 := Code.fa kk14
def kk16 := Code.fb kk14
def kk17 := Code.fa kk15
def kk18 := Code.fb kk15
def kk19 := Code.fa kk18
def kk20 := Code.fb kk18
def kk21 := Code.fa kk16
def kk22 := Code.fb kk16
def kk23 := Code.fa kk21
def kk24 := Code.fa kk23
def kk25 := Code.fb kk23
def kk26 := Code.fa kk25
def kk27 := Code.fb kk25
def kk28 := Code.fa kk26
def kk29 := Code.fb kk26
def kk30 := Code.fa kk10
def kk31 := Code.fb kk10
def kk32 := Code.fa kk7
def kk33 := Code.fb kk7
end moraineref02_Same
def moraineref02_Same.pt (aNeg : Bool) (aMagB : Option Addr) (aMagN : Nat) (aMagC : Nat) (bNeg : Bool) (bMagB : Option Addr) (bMagN : Nat) (bMagC : Nat) (H : Array Obj) (R : Value → Array Obj → Prop) : Prop :=
 ∀ (b : Nat) (H1 : Array Obj), b = H.size → H1 = H.push (.cells #[.bool aNeg, .slice aMagB aMagN aMagC] 70) →
 ∀ (b_2 : Nat) (H2 : Array Obj), b_2 = H1.size → H2 = H1.push (.cells #[.bool bNeg, .slice bMagB bMagN bMagC] 70) →
 ∃ x : Bool, hat H2 (Addr.mk b 0 none) = some (.bool x) ∧
 ∃ x_2 : Bool, hat H2 (Addr.mk b_2 0 none) = some (.bool x_2) ∧
 if x = x_2 then (
  ∃ xB : Option Addr, ∃ xN : Nat, ∃ xC : Nat, hat H2 ((Addr.mk b 0 none).add 1) = some (.slice xB xN xC) ∧
  ∃ xB_2 : Option Addr, ∃ xN_2 : Nat, ∃ xC_2 : Nat, hat H2 ((Addr.mk b_2 0 none).add 1) = some (.slice xB_2 xN_2 xC_2) ∧
  if (xN : Int) = (xN_2 : Int) then (
   ∃ (I15 : Int → Array Obj → Prop) (m15 : Int → Array Obj → Nat), I15 0 H2 ∧ ∀ (i : Int) (H3 : Array Obj), I15 i H3 →
   ∃ xB_3 : Option Addr, ∃ xN_3 : Nat, ∃ xC_3 : Nat, hat H3 ((Addr.mk b 0 none).add 1) = some (.slice xB_3 xN_3 xC_3) ∧
   if i < (xN_3 : Int) then (
    ∃ xB_4 : Option Addr, ∃ xN_4 : Nat, ∃ xC_4 : Nat, hat H3 ((Addr.mk b 0 none).add 1) = some (.slice xB_4 xN_4 xC_4) ∧
    ∃ xB4A : Addr, xB_4 = some xB4A ∧
    ((0 : Int) ≤ i ∧ i < (xN_4 : Int)) ∧
    ∃ x_3 : Int, hat H3 (xB4A.add (Int.toNat i * 1)) = some (.int .u32 x_3) ∧
    ∃ xB_5 : Option Addr, ∃ xN_5 : Nat, ∃ xC_5 : Nat, hat H3 ((Addr.mk b_2 0 none).add 1) = some (.slice xB_5 xN_5 xC_5) ∧
    ∃ xB5A : Addr, xB_5 = some xB5A ∧
    ((0 : Int) ≤ i ∧ i < (xN_5 : Int)) ∧
    ∃ x_4 : Int, hat H3 (xB5A.add (Int.toNat i * 1)) = some (.int .u32 x_4) ∧
    if x_3 = x_4 then (
     (I15 (IntKind.wrap .i64 (i + 1)) H3 ∧ m15 (IntKind.wrap .i64 (i + 1)) H3 < m15 i H3))
    else
    R (.bool false) H3)
   else
   R (.bool true) H3)
  else
  R (.bool false) H2)
 else
 R (.bool false) H2
namespace moraineref02_Same
set_option maxRecDepth 100000 in
theorem link {aNeg : Bool} {aMagB : Option Addr} {aMagN : Nat} {aMagC : Nat} {bNeg : Bool} {bMagB : Option Addr} {bMagN : Nat} {bMagC : Nat} {H : Array Obj} {R : Value → Array Obj → Prop} (h : pt aNeg aMagB aMagN aMagC bNeg bMagB bMagN bMagC H R) : C aNeg aMagB aMagN aMagC bNeg bMagB bMagN bMagC H R := by
  refine S_enter (fn := Try.f45) (c := kk0) 38 Try.func45 (by kernel_rfl) (by kernel_rfl) (Nat.le_of_ble_eq_true (by kernel_rfl)) ?_
  intro w0 Q hQ
  unfold pt at h
  refine S_sub [(0, .agg #[.bool aNeg, .slice aMagB aMagN aMagC]), (1, .agg #[.bool bNeg, .slice bMagB bMagN bMagC])] (sb (by kernel_rfl)) ?_
  refine S_seq kk1 kk2 (by kernel_rfl) ?_
  refine S_region 0 (Code.ops kk1) (by kernel_rfl) ?_
  refine N_new (some 2) (fun b => .pointer (some (Addr.mk b 0 none))) (.cells #[.bool aNeg, .slice aMagB aMagN aMagC] 70) (fun w => by kernel_rfl) ?_
  intro b H1 e1 e2
  replace h := h b H1 e1 e2
  refine ⟨[(1, .agg #[.bool bNeg, .slice bMagB bMagN bMagC]), (2, .pointer (some (Addr.mk b 0 none)))], ps (by kernel_rfl), ?_⟩
  refine N_new (some 3) (fun b => .pointer (some (Addr.mk b 0 none))) (.cells #[.bool bNeg, .slice bMagB bMagN bMagC] 70) (fun w => by kernel_rfl) ?_
  intro b_2 H2 e3 e4
  replace h := h b_2 H2 e3 e4
  refine ⟨[(2, .pointer (some (Addr.mk b 0 none))), (3, .pointer (some (Addr.mk b_2 0 none)))], ps (by kernel_rfl), ?_⟩
  refine N_run 1 [(2, .pointer (some (Addr.mk b 0 none))), (3, .pointer (some (Addr.mk b_2 0 none)))] (fun w => by kernel_rfl) ?_
  refine N_end (by kernel_rfl) ?_
  refine S_then ?_
  refine S_seq kk3 kk4 (by kernel_rfl) ?_
  refine S_seq kk5 kk6 (by kernel_rfl) ?_
  refine S_region 1 (Code.ops kk5) (by kernel_rfl) ?_
  refine N_run 1 [(2, .pointer (some (Addr.mk b 0 none))), (3, .pointer (some (Addr.mk b_2 0 none))), (6, .pointer (some (Addr.mk b 0 none)))] (fun w => by kernel_rfl) ?_
  obtain ⟨x, q5, h⟩ := h
  refine N_val (some 7) (loadN 4 (.pointer (some (Addr.mk b 0 none)))) (.bool x) (fun w => by kernel_rfl) (loadN_run (loadOK_one (fun w => by kernel_rfl) q5)) [(2, .pointer (some (Addr.mk b 0 none))), (3, .pointer (some (Addr.mk b_2 0 none))), (7, .bool x)] (ps (by kernel_rfl)) ?_
  refine N_run 1 [(2, .pointer (some (Addr.mk b 0 none))), (3, .pointer (some (Addr.mk b_2 0 none))), (7, .bool x), (8, .pointer (some (Addr.mk b_2 0 none)))] (fun w => by kernel_rfl) ?_
  obtain ⟨x_2, q6, h⟩ := h
  refine N_val (some 9) (loadN 4 (.pointer (some (Addr.mk b_2 0 none)))) (.bool x_2) (fun w => by kernel_rfl) (loadN_run (loadOK_one (fun w => by kernel_rfl) q6)) [(2, .pointer (some (Addr.mk b 0 none))), (3, .pointer (some (Addr.mk b_2 0 none))), (7, .bool x), (9, .bool x_2)] (ps (by kernel_rfl)) ?_
  refine N_run 2 [(2, .pointer (some (Addr.mk b 0 none))), (3, .pointer (some (Addr.mk b_2 0 none))), (11, .bool (!(x == x_2)))] (fun w => by kernel_rfl) ?_
  by_cases c7 : x = x_2
  · rw [if_pos c7] at h
    have b8 : (!(x == x_2)) = false := congrArg Bool.not (beq_iff_eq.mpr c7)
    refine N_env [(2, .pointer (some (Addr.mk b 0 none))), (3, .pointer (some (Addr.mk b_2 0 none))), (11, .bool false)] (by simp only [b8, Bool.not_true, Bool.not_false]) ?_
    clear b8
    refine N_run 1 [(2, .pointer (some (Addr.mk b 0 none))), (3, .pointer (some (Addr.mk b_2 0 none))), (11, .bool false), (12, .pointer (some ((Addr.mk b 0 none).add 1)))] (fun w => by kernel_rfl) ?_
    obtain ⟨xB, xN, xC, q9, h⟩ := h
    refine N_val (some 13) (loadN 40 (.pointer (some ((Addr.mk b 0 none).add 1)))) (.slice xB xN xC) (fun w => by kernel_rfl) (loadN_run (loadOK_one (fun w => by kernel_rfl) q9)) [(2, .pointer (some (Addr.mk b 0 none))), (3, .pointer (some (Addr.mk b_2 0 none))), (11, .bool false), (13, .slice xB xN xC)] (ps (by kernel_rfl)) ?_
    refine N_run 2 [(2, .pointer (some (Addr.mk b 0 none))), (3, .pointer (some (Addr.mk b_2 0 none))), (11, .bool false), (14, .int .i64 (xN : Int)), (15, .pointer (some ((Addr.mk b_2 0 none).add 1)))] (fun w => by kernel_rfl) ?_
    obtain ⟨xB_2, xN_2, xC_2, q10, h⟩ := h
    refine N_val (some 16) (loadN 40 (.pointer (some ((Addr.mk b_2 0 none).add 1)))) (.slice xB_2 xN_2 xC_2) (fun w => by kernel_rfl) (loadN_run (loadOK_one (fun w => by kernel_rfl) q10)) [(2, .pointer (some (Addr.mk b 0 none))), (3, .pointer (some (Addr.mk b_2 0 none))), (11, .bool false), (14, .int .i64 (xN : Int)), (16, .slice xB_2 xN_2 xC_2)] (ps (by kernel_rfl)) ?_
    refine N_run 3 [(2, .pointer (some (Addr.mk b 0 none))), (3, .pointer (some (Addr.mk b_2 0 none))), (19, .bool ((xN : Int) != (xN_2 : Int)))] (fun w => by kernel_rfl) ?_
    refine N_end (by kernel_rfl) ?_
    refine S_then ?_
    by_cases c11 : (xN : Int) = (xN_2 : Int)
    · rw [if_pos c11] at h
      have b12 : ((xN : Int) != (xN_2 : Int)) = false := bne_eq_false_iff_eq.mpr c11
      refine S_env [(2, .pointer (some (Addr.mk b 0 none))), (3, .pointer (some (Addr.mk b_2 0 none))), (19, .bool false)] (by simp only [b12, Bool.not_true, Bool.not_false]) ?_
      clear b12
      refine S_condF (.tmp 19) kk7 kk8 (by kernel_rfl) (by kernel_rfl) ?_
      refine S_skip (by kernel_rfl) ?_
      refine S_then ?_
      refine S_seq kk9 kk10 (by kernel_rfl) ?_
      refine S_seq kk11 kk12 (by kernel_rfl) ?_
      refine S_region 3 (Code.ops kk11) (by kernel_rfl) ?_
      refine N_run 1 [(2, .pointer (some (Addr.mk b 0 none))), (3, .pointer (some (Addr.mk b_2 0 none))), (5, .int .i64 0)] (fun w => by kernel_rfl) ?_
      refine N_end (by kernel_rfl) ?_
      refine S_then ?_
      refine S_block 0 kk13 (by kernel_rfl) ?_
      obtain ⟨I15, m15, i13, i14⟩ := h
      refine S_loop (x := kk14) (σ := Int) (fun s_ => [(2, .pointer (some (Addr.mk b 0 none))), (3, .pointer (some (Addr.mk b_2 0 none))), (5, .int .i64 s_)]) (fun s_ H => I15 s_ H) (fun s_ H => m15 s_ H) (0 : Int) (by kernel_rfl) i13 (sb (by kernel_rfl)) ?_
      rintro i H3 i15
      have h := i14 i H3 i15
      refine S_sub [(2, .pointer (some (Addr.mk b 0 none))), (3, .pointer (some (Addr.mk b_2 0 none))), (5, .int .i64 i)] (sb (by kernel_rfl)) ?_
      refine S_seq kk15 kk16 (by kernel_rfl) ?_
      refine S_seq kk17 kk18 (by kernel_rfl) ?_
      refine S_region 4 (Code.ops kk17) (by kernel_rfl) ?_
      refine N_run 2 [(2, .pointer (some (Addr.mk b 0 none))), (3, .pointer (some (Addr.mk b_2 0 none))), (5, .int .i64 i), (20, .int .i64 i), (21, .pointer (some ((Addr.mk b 0 none).add 1)))] (fun w => by kernel_rfl) ?_
      obtain ⟨xB_3, xN_3, xC_3, q16, h⟩ := h
      refine N_val (some 22) (loadN 40 (.pointer (some ((Addr.mk b 0 none).add 1)))) (.slice xB_3 xN_3 xC_3) (fun w => by kernel_rfl) (loadN_run (loadOK_one (fun w => by kernel_rfl) q16)) [(2, .pointer (some (Addr.mk b 0 none))), (3, .pointer (some (Addr.mk b_2 0 none))), (5, .int .i64 i), (20, .int .i64 i), (22, .slice xB_3 xN_3 xC_3)] (ps (by kernel_rfl)) ?_
      refine N_run 2 [(2, .pointer (some (Addr.mk b 0 none))), (3, .pointer (some (Addr.mk b_2 0 none))), (5, .int .i64 i), (24, .bool (decide (i < (xN_3 : Int))))] (fun w => by kernel_rfl) ?_
      refine N_end (by kernel_rfl) ?_
      refine S_then ?_
      by_cases c17 : i < (xN_3 : Int)
      · rw [if_pos c17] at h
        have b18 : (decide (i < (xN_3 : Int))) = true := decide_eq_true c17
        refine S_env [(2, .pointer (some (Addr.mk b 0 none))), (3, .pointer (some (Addr.mk b_2 0 none))), (5, .int .i64 i), (24, .bool true)] (by simp only [b18, Bool.not_true, Bool.not_false]) ?_
        clear b18
        refine S_condT (.tmp 24) kk19 kk20 (by kernel_rfl) (by kernel_rfl) ?_
        refine S_skip (by kernel_rfl) ?_
        refine S_then ?_
        refine S_seq kk21 kk22 (by kernel_rfl) ?_
        refine S_block 1 kk23 (by kernel_rfl) ?_
        refine S_seq kk24 kk25 (by kernel_rfl) ?_
        refine S_regionQ 6 (Code.ops kk24) (by kernel_rfl) (by kernel_rfl) (by kernel_rfl) ?_
        refine Q_one (.pointer (some ((Addr.mk b 0 none).add 1))) [(2, .pointer (some (Addr.mk b 0 none))), (3, .pointer (some (Addr.mk b_2 0 none))), (5, .int .i64 i), (27, .pointer (some ((Addr.mk b 0 none).add 1)))] (some 27) (by kernel_rfl) (fun w => by kernel_rfl) (ps (by kernel_rfl)) ?_
        obtain ⟨xB_4, xN_4, xC_4, q19, h⟩ := h
        refine Q_op (some 28) (loadN 40 (.pointer (some ((Addr.mk b 0 none).add 1)))) (.slice xB_4 xN_4 xC_4) (fun w => by kernel_rfl) (loadN_run (loadOK_one (fun w => by kernel_rfl) q19)) [(2, .pointer (some (Addr.mk b 0 none))), (3, .pointer (some (Addr.mk b_2 0 none))), (5, .int .i64 i), (28, .slice xB_4 xN_4 xC_4)] (ps (by kernel_rfl)) ?_
        refine Q_one (.int .i64 i) [(2, .pointer (some (Addr.mk b 0 none))), (3, .pointer (some (Addr.mk b_2 0 none))), (5, .int .i64 i), (28, .slice xB_4 xN_4 xC_4), (29, .int .i64 i)] (some 29) (by kernel_rfl) (fun w => by kernel_rfl) (ps (by kernel_rfl)) ?_
        obtain ⟨xB4A, rfl, h⟩ := h
        obtain ⟨q20, h⟩ := h
        refine Q_op (some 30) (indexAtN 40 (.slice (some xB4A) xN_4 xC_4) (.int .i64 i)) (.pointer (some (xB4A.add (Int.toNat i * 1)))) (fun w => by kernel_rfl) (fun w _ => indexAt_run (P := Try.prog) (t := 40) (elem := 41) (sz := 1) (a := xB4A) (len := xN_4) (cap := xC_4) (k := .i64) (i := i) Try.underlying40 (fun w => by kernel_rfl) q20.1 q20.2 w) [(2, .pointer (some (Addr.mk b 0 none))), (3, .pointer (some (Addr.mk b_2 0 none))), (5, .int .i64 i), (30, .pointer (some (xB4A.add (Int.toNat i * 1))))] (ps (by kernel_rfl)) ?_
        obtain ⟨x_3, q21, h⟩ := h
        refine Q_op (some 31) (loadN 41 (.pointer (some (xB4A.add (Int.toNat i * 1))))) (.int .u32 x_3) (fun w => by kernel_rfl) (loadN_run (loadOK_one (fun w => by kernel_rfl) q21)) [(2, .pointer (some (Addr.mk b 0 none))), (3, .pointer (some (Addr.mk b_2 0 none))), (5, .int .i64 i), (31, .int .u32 x_3)] (ps (by kernel_rfl)) ?_
        refine Q_one (.pointer (some ((Addr.mk b_2 0 none).add 1))) [(2, .pointer (some (Addr.mk b 0 none))), (3, .pointer (some (Addr.mk b_2 0 none))), (5, .int .i64 i), (31, .int .u32 x_3), (32, .pointer (some ((Addr.mk b_2 0 none).add 1)))] (some 32) (by kernel_rfl) (fun w => by kernel_rfl) (ps (by kernel_rfl)) ?_
        obtain ⟨xB_5, xN_5, xC_5, q22, h⟩ := h
        refine Q_op (some 33) (loadN 40 (.pointer (some ((Addr.mk b_2 0 none).add 1)))) (.slice xB_5 xN_5 xC_5) (fun w => by kernel_rfl) (loadN_run (loadOK_one (fun w => by kernel_rfl) q22)) [(2, .pointer (some (Addr.mk b 0 none))), (3, .pointer (some (Addr.mk b_2 0 none))), (5, .int .i64 i), (31, .int .u32 x_3), (33, .slice xB_5 xN_5 xC_5)] (ps (by kernel_rfl)) ?_
        refine Q_one (.int .i64 i) [(2, .pointer (some (Addr.mk b 0 none))), (3, .pointer (some (Addr.mk b_2 0 none))), (5, .int .i64 i), (31, .int .u32 x_3), (33, .slice xB_5 xN_5 xC_5), (34, .int .i64 i)] (some 34) (by kernel_rfl) (fun w => by kernel_rfl) (ps (by kernel_rfl)) ?_
        obtain ⟨xB5A, rfl, h⟩ := h
        obtain ⟨q23, h⟩ := h
        refine Q_op (some 35) (indexAtN 40 (.slice (some xB5A) xN_5 xC_5) (.int .i64 i)) (.pointer (some (xB5A.add (Int.toNat i * 1)))) (fun w => by kernel_rfl) (fun w _ => indexAt_run (P := Try.prog) (t := 40) (elem := 41) (sz := 1) (a := xB5A) (len := xN_5) (cap := xC_5) (k := .i64) (i := i) Try.underlying40 (fun w => by kernel_rfl) q23.1 q23.2 w) [(2, .pointer (some (Addr.mk b 0 none))), (3, .pointer (some (Addr.mk b_2 0 none))), (5, .int .i64 i), (31, .int .u32 x_3), (35, .pointer (some (xB5A.add (Int.toNat i * 1))))] (ps (by kernel_rfl)) ?_
        obtain ⟨x_4, q24, h⟩ := h
        refine Q_op (some 36) (loadN 41 (.pointer (some (xB5A.add (Int.toNat i * 1))))) (.int .u32 x_4) (fun w => by kernel_rfl) (loadN_run (loadOK_one (fun w => by kernel_rfl) q24)) [(2, .pointer (some (Addr.mk b 0 none))), (3, .pointer (some (Addr.mk b_2 0 none))), (5, .int .i64 i), (31, .int .u32 x_3), (36, .int .u32 x_4)] (ps (by kernel_rfl)) ?_
        refine Q_one (.bool (x_3 != x_4)) [(2, .pointer (some (Addr.mk b 0 none))), (3, .pointer (some (Addr.mk b_2 0 none))), (5, .int .i64 i), (37, .bool (x_3 != x_4))] (some 37) (by kernel_rfl) (fun w => by kernel_rfl) (ps (by kernel_rfl)) ?_
        refine Q_sub [(2, .pointer (some (Addr.mk b 0 none))), (3, .pointer (some (Addr.mk b_2 0 none))), (5, .int .i64 i), (37, .bool (x_3 != x_4))] (sb (by kernel_rfl)) ?_
        refine Q_end (by kernel_rfl) ?_
        refine S_then ?_
        by_cases c25 : x_3 = x_4
        · rw [if_pos c25] at h
          have b26 : (x_3 != x_4) = false := bne_eq_false_iff_eq.mpr c25
          refine S_env [(2, .pointer (some (Addr.mk b 0 none))), (3, .pointer (some (Addr.mk b_2 0 none))), (5, .int .i64 i), (37, .bool false)] (by simp only [b26, Bool.not_true, Bool.not_false]) ?_
          clear b26
          refine S_condF (.tmp 37) kk26 kk27 (by kernel_rfl) (by kernel_rfl) ?_
          refine S_skip (by kernel_rfl) ?_
          refine S_blockEnd ?_
          refine S_then ?_
          refine S_region 5 (Code.ops kk22) (by kernel_rfl) ?_
          refine N_run 3 [(2, .pointer (some (Addr.mk b 0 none))), (3, .pointer (some (Addr.mk b_2 0 none))), (5, .int .i64 (IntKind.wrap .i64 (i + 1)))] (fun w => by kernel_rfl) ?_
          refine N_end (by kernel_rfl) ?_
          refine S_then ?_
          exact S_round ((IntKind.wrap .i64 (i + 1)) : Int) (sb (by kernel_rfl)) h
        · rw [if_neg c25] at h
          have b26 : (x_3 != x_4) = true := bne_iff_ne.mpr c25
          refine S_env [(2, .pointer (some (Addr.mk b 0 none))), (3, .pointer (some (Addr.mk b_2 0 none))), (5, .int .i64 i), (37, .bool true)] (by simp only [b26, Bool.not_true, Bool.not_false]) ?_
          clear b26
          refine S_condT (.tmp 37) kk26 kk27 (by kernel_rfl) (by kernel_rfl) ?_
          refine S_seq kk28 kk29 (by kernel_rfl) ?_
          refine S_region 7 (Code.ops kk28) (by kernel_rfl) ?_
          refine N_run 1 [(4, .bool false)] (fun w => by kernel_rfl) ?_
          refine N_end (by kernel_rfl) ?_
          refine S_then ?_
          refine S_ret (by kernel_rfl) ?_
          show At _ _ _ _ _ (Q .ret)
          exact S_done (fn := Try.f45) [.bool false] hQ (show ResOK _ _ _ [.tmp 4] _ from .tmp (by kernel_rfl) (.nil)) h
      · rw [if_neg c17] at h
        have b18 : (decide (i < (xN_3 : Int))) = false := decide_eq_false c17
        refine S_env [(2, .pointer (some (Addr.mk b 0 none))), (3, .pointer (some (Addr.mk b_2 0 none))), (5, .int .i64 i), (24, .bool false)] (by simp only [b18, Bool.not_true, Bool.not_false]) ?_
        clear b18
        refine S_condF (.tmp 24) kk19 kk20 (by kernel_rfl) (by kernel_rfl) ?_
        refine S_exit 0 (by kernel_rfl) ?_
        refine S_exitThen ?_
        refine S_exitThen ?_
        refine S_exitHere ?_
        refine S_then ?_
        refine S_seq kk30 kk31 (by kernel_rfl) ?_
        refine S_region 8 (Code.ops kk30) (by kernel_rfl) ?_
        refine N_run 1 [(4, .bool true)] (fun w => by kernel_rfl) ?_
        refine N_end (by kernel_rfl) ?_
        refine S_then ?_
        refine S_ret (by kernel_rfl) ?_
        show At _ _ _ _ _ (Q .ret)
        exact S_done (fn := Try.f45) [.bool true] hQ (show ResOK _ _ _ [.tmp 4] _ from .tmp (by kernel_rfl) (.nil)) h
    · rw [if_neg c11] at h
      have b12 : ((xN : Int) != (xN_2 : Int)) = true := bne_iff_ne.mpr c11
      refine S_env [(2, .pointer (some (Addr.mk b 0 none))), (3, .pointer (some (Addr.mk b_2 0 none))), (19, .bool true)] (by simp only [b12, Bool.not_true, Bool.not_false]) ?_
      clear b12
      refine S_condT (.tmp 19) kk7 kk8 (by kernel_rfl) (by kernel_rfl) ?_
      refine S_seq kk32 kk33 (by kernel_rfl) ?_
      refine S_region 2 (Code.ops kk32) (by kernel_rfl) ?_
      refine N_run 1 [(4, .bool false)] (fun w => by kernel_rfl) ?_
      refine N_end (by kernel_rfl) ?_
      refine S_then ?_
      refine S_ret (by kernel_rfl) ?_
      show At _ _ _ _ _ (Q .ret)
      exact S_done (fn := Try.f45) [.bool false] hQ (show ResOK _ _ _ [.tmp 4] _ from .tmp (by kernel_rfl) (.nil)) h
  · rw [if_neg c7] at h
    have b8 : (!(x == x_2)) = true := congrArg Bool.not (beq_eq_false_iff_ne.mpr c7)
    refine N_env [(2, .pointer (some (Addr.mk b 0 none))), (3, .pointer (some (Addr.mk b_2 0 none))), (11, .bool true)] (by simp only [b8, Bool.not_true, Bool.not_false]) ?_
    clear b8
    refine N_run 8 [(2, .pointer (some (Addr.mk b 0 none))), (3, .pointer (some (Addr.mk b_2 0 none))), (19, .bool true)] (fun w => by kernel_rfl) ?_
    refine N_end (by kernel_rfl) ?_
    refine S_then ?_
    refine S_condT (.tmp 19) kk7 kk8 (by kernel_rfl) (by kernel_rfl) ?_
    refine S_seq kk32 kk33 (by kernel_rfl) ?_
    refine S_region 2 (Code.ops kk32) (by kernel_rfl) ?_
    refine N_run 1 [(4, .bool false)] (fun w => by kernel_rfl) ?_
    refine N_end (by kernel_rfl) ?_
    refine S_then ?_
    refine S_ret (by kernel_rfl) ?_
    show At _ _ _ _ _ (Q .ret)
    exact S_done (fn := Try.f45) [.bool false] hQ (show ResOK _ _ _ [.tmp 4] _ from .tmp (by kernel_rfl) (.nil)) h
end moraineref02_Same

end Go.Proofs.Ytfohlkiikppefaa
