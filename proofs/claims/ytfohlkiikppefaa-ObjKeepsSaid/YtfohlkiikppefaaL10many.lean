/-
  Written by a program of mine (gen.py): for functions of this translation a predicate transformer over heaps (.pt), and the proof that it is sound for the call (.link).
-/
import Derived.Test.YtfohlkiikppefaaFnsC
set_option linter.unusedSimpArgs false
set_option linter.unusedVariables false
set_option maxHeartbeats 1000000
noncomputable section
namespace Go.Proofs.Ytfohlkiikppefaa
open Go
/-! moraine/morainelaw10.many -/
namespace morainelaw10_many
def kk0 := Func.code Try.f23
def kk1 := Code.fa kk0
def kk2 := Code.fb kk0
def kk3 := Code.fa kk2
def kk4 := Code.fb kk2
def kk5 := Code.fa kk3
def kk6 := Code.fb kk3
def kk7 := Code.fa kk6
def kk8 := Code.fb kk6
def kk9 := Code.fa kk7
def kk10 := Code.fb kk7
def kk11 := Code.fa kk4
def kk12 := Code.fb kk4
def kk13 := Code.fa kk11
def kk14 := Code.fb kk11
def kk15 := Code.fa kk14
def kk16 := Code.fa kk15
def kk17 := Code.fa kk16
def kk18 := Code.fb kk16
def kk19 := Code.fa kk17
def kk20 := Code.fb kk17
def kk21 := Code.fa kk20
def kk22 := Code.fb kk20
def kk23 := Code.fa kk18
def kk24 := Code.fb kk18
def kk25 := Code.fa kk23
def kk26 := Code.fa kk25
def kk27 := Code.fb kk25
def kk28 := Code.fa kk27
def kk29 := Code.fb kk27
def kk30 := Code.fa kk28
def kk31 := Code.fb kk28
def kk32 := Code.fa kk12
def kk33 := Code.fb kk12
end morainelaw10_many
def morainelaw10_many.pt (lB : Option Addr) (lN : Nat) (lC : Nat) (H : Array Obj) (R : Value → Array Obj → Prop) : Prop :=
 if (lN : Int) > 200 then (
  R (.bool true) H)
 else
 ∃ (I17 : Int → Array Obj → Prop) (m17 : Int → Array Obj → Nat), I17 0 H ∧ ∀ (i : Int) (H1 : Array Obj), I17 i H1 →
 if i < (lN : Int) then (
  ∃ lBA : Addr, lB = some lBA ∧
  ((0 : Int) ≤ i ∧ i < (lN : Int)) ∧
  ∃ xB : Option Addr, ∃ xN : Nat, ∃ xC : Nat, hat H1 ((lBA.add (Int.toNat i * 12)).add 8) = some (.slice xB xN xC) ∧
  if (xN : Int) > 200 then (
   R (.bool true) H1)
  else
  ((0 : Int) ≤ i ∧ i < (lN : Int)) ∧
  ∃ x : ByteArray, hat H1 ((lBA.add (Int.toNat i * 12)).add 9) = some (.string x) ∧
  if (x.size : Int) > 1000 then (
   R (.bool true) H1)
  else
  ((0 : Int) ≤ i ∧ i < (lN : Int)) ∧
  ∃ xB_2 : Option Addr, ∃ xN_2 : Nat, ∃ xC_2 : Nat, hat H1 (((lBA.add (Int.toNat i * 12)).add 10).add 1) = some (.slice xB_2 xN_2 xC_2) ∧
  if (xN_2 : Int) > 60 then (
   R (.bool true) H1)
  else
  (I17 (IntKind.wrap .i64 (i + 1)) H1 ∧ m17 (IntKind.wrap .i64 (i + 1)) H1 < m17 i H1))
 else
 R (.bool false) H1
namespace morainelaw10_many
set_option maxRecDepth 100000 in
theorem link {lB : Option Addr} {lN : Nat} {lC : Nat} {H : Array Obj} {R : Value → Array Obj → Prop} (h : pt lB lN lC H R) : C lB lN lC H R := by
  refine S_enter (fn := Try.f23) (c := kk0) 39 Try.func23 (by kernel_rfl) (by kernel_rfl) (Nat.le_of_ble_eq_true (by kernel_rfl)) ?_
  intro w0 Q hQ
  unfold pt at h
  refine S_sub [(0, .slice lB lN lC)] (sb (by kernel_rfl)) ?_
  refine S_seq kk1 kk2 (by kernel_rfl) ?_
  refine S_region 0 (Code.ops kk1) (by kernel_rfl) ?_
  refine N_run 1 [(0, .slice lB lN lC)] (fun w => by kernel_rfl) ?_
  refine N_end (by kernel_rfl) ?_
  refine S_then ?_
  refine S_seq kk3 kk4 (by kernel_rfl) ?_
  refine S_seq kk5 kk6 (by kernel_rfl) ?_
  refine S_region 1 (Code.ops kk5) (by kernel_rfl) ?_
  refine N_run 3 [(0, .slice lB lN lC), (6, .bool (decide ((lN : Int) > 200)))] (fun w => by kernel_rfl) ?_
  refine N_end (by kernel_rfl) ?_
  refine S_then ?_
  by_cases c1 : (lN : Int) > 200
  · rw [if_pos c1] at h
    have b2 : (decide ((lN : Int) > 200)) = true := decide_eq_true c1
    refine S_env [(0, .slice lB lN lC), (6, .bool true)] (by simp only [b2, Bool.not_true, Bool.not_false]) ?_
    clear b2
    refine S_condT (.tmp 6) kk7 kk8 (by kernel_rfl) (by kernel_rfl) ?_
    refine S_seq kk9 kk10 (by kernel_rfl) ?_
    refine S_region 2 (Code.ops kk9) (by kernel_rfl) ?_
    refine N_run 1 [(2, .bool true)] (fun w => by kernel_rfl) ?_
    refine N_end (by kernel_rfl) ?_
    refine S_then ?_
    refine S_ret (by kernel_rfl) ?_
    show At _ _ _ _ _ (Q .ret)
    exact S_done (fn := Try.f23) [.bool true] hQ (show ResOK _ _ _ [.tmp 2] _ from .tmp (by kernel_rfl) (.nil)) h
  · rw [if_neg c1] at h
    have b2 : (decide ((lN : Int) > 200)) = false := decide_eq_false c1
    refine S_env [(0, .slice lB lN lC), (6, .bool false)] (by simp only [b2, Bool.not_true, Bool.not_false]) ?_
    clear b2
    refine S_condF (.tmp 6) kk7 kk8 (by kernel_rfl) (by kernel_rfl) ?_
    refine S_skip (by kernel_rfl) ?_
    refine S_then ?_
    refine S_seq kk11 kk12 (by kernel_rfl) ?_
    refine S_seq kk13 kk14 (by kernel_rfl) ?_
    refine S_region 3 (Code.ops kk13) (by kernel_rfl) ?_
    refine N_run 1 [(0, .slice lB lN lC), (3, .int .i64 0)] (fun w => by kernel_rfl) ?_
    refine N_end (by kernel_rfl) ?_
    refine S_then ?_
    refine S_block 0 kk15 (by kernel_rfl) ?_
    obtain ⟨I17, m17, i3, i4⟩ := h
    refine S_loop (x := kk16) (σ := Int) (fun s_ => [(0, .slice lB lN lC), (3, .int .i64 s_)]) (fun s_ H => I17 s_ H) (fun s_ H => m17 s_ H) (0 : Int) (by kernel_rfl) i3 (sb (by kernel_rfl)) ?_
    rintro i H1 i5
    have h := i4 i H1 i5
    refine S_sub [(0, .slice lB lN lC), (3, .int .i64 i)] (sb (by kernel_rfl)) ?_
    refine S_seq kk17 kk18 (by kernel_rfl) ?_
    refine S_seq kk19 kk20 (by kernel_rfl) ?_
    refine S_region 4 (Code.ops kk19) (by kernel_rfl) ?_
    refine N_run 4 [(0, .slice lB lN lC), (3, .int .i64 i), (10, .bool (decide (i < (lN : Int))))] (fun w => by kernel_rfl) ?_
    refine N_end (by kernel_rfl) ?_
    refine S_then ?_
    by_cases c6 : i < (lN : Int)
    · rw [if_pos c6] at h
      have b7 : (decide (i < (lN : Int))) = true := decide_eq_true c6
      refine S_env [(0, .slice lB lN lC), (3, .int .i64 i), (10, .bool true)] (by simp only [b7, Bool.not_true, Bool.not_false]) ?_
      clear b7
      refine S_condT (.tmp 10) kk21 kk22 (by kernel_rfl) (by kernel_rfl) ?_
      refine S_skip (by kernel_rfl) ?_
      refine S_then ?_
      refine S_seq kk23 kk24 (by kernel_rfl) ?_
      refine S_block 1 kk25 (by kernel_rfl) ?_
      refine S_seq kk26 kk27 (by kernel_rfl) ?_
      refine S_region 6 (Code.ops kk26) (by kernel_rfl) ?_
      refine N_run 2 [(0, .slice lB lN lC), (3, .int .i64 i), (13, .slice lB lN lC), (14, .int .i64 i)] (fun w => by kernel_rfl) ?_
      obtain ⟨lBA, rfl, h⟩ := h
      obtain ⟨q8, h⟩ := h
      refine N_val (some 15) (indexAtN 63 (.slice (some lBA) lN lC) (.int .i64 i)) (.pointer (some (lBA.add (Int.toNat i * 12)))) (fun w => by kernel_rfl) (fun w _ => indexAt_run (P := Try.prog) (t := 63) (elem := 72) (sz := 12) (a := lBA) (len := lN) (cap := lC) (k := .i64) (i := i) Try.underlying63 (fun w => by kernel_rfl) q8.1 q8.2 w) [(0, .slice (some lBA) lN lC), (3, .int .i64 i), (15, .pointer (some (lBA.add (Int.toNat i * 12))))] (ps (by kernel_rfl)) ?_
      refine N_run 1 [(0, .slice (some lBA) lN lC), (3, .int .i64 i), (16, .pointer (some ((lBA.add (Int.toNat i * 12)).add 8)))] (fun w => by kernel_rfl) ?_
      obtain ⟨xB, xN, xC, q9, h⟩ := h
      refine N_val (some 17) (loadN 68 (.pointer (some ((lBA.add (Int.toNat i * 12)).add 8)))) (.slice xB xN xC) (fun w => by kernel_rfl) (loadN_run (loadOK_one (fun w => by kernel_rfl) q9)) [(0, .slice (some lBA) lN lC), (3, .int .i64 i), (17, .slice xB xN xC)] (ps (by kernel_rfl)) ?_
      refine N_run 3 [(0, .slice (some lBA) lN lC), (3, .int .i64 i), (20, .bool (decide ((xN : Int) > 200)))] (fun w => by kernel_rfl) ?_
      by_cases c10 : (xN : Int) > 200
      · rw [if_pos c10] at h
        have b11 : (decide ((xN : Int) > 200)) = true := decide_eq_true c10
        refine N_env [(0, .slice (some lBA) lN lC), (3, .int .i64 i), (20, .bool true)] (by simp only [b11, Bool.not_true, Bool.not_false]) ?_
        clear b11
        refine N_run 18 [(0, .slice (some lBA) lN lC), (3, .int .i64 i), (38, .bool true)] (fun w => by kernel_rfl) ?_
        refine N_end (by kernel_rfl) ?_
        refine S_then ?_
        refine S_condT (.tmp 38) kk28 kk29 (by kernel_rfl) (by kernel_rfl) ?_
        refine S_seq kk30 kk31 (by kernel_rfl) ?_
        refine S_region 7 (Code.ops kk30) (by kernel_rfl) ?_
        refine N_run 1 [(2, .bool true)] (fun w => by kernel_rfl) ?_
        refine N_end (by kernel_rfl) ?_
        refine S_then ?_
        refine S_ret (by kernel_rfl) ?_
        show At _ _ _ _ _ (Q .ret)
        exact S_done (fn := Try.f23) [.bool true] hQ (show ResOK _ _ _ [.tmp 2] _ from .tmp (by kernel_rfl) (.nil)) h
      · rw [if_neg c10] at h
        have b11 : (decide ((xN : Int) > 200)) = false := decide_eq_false c10
        refine N_env [(0, .slice (some lBA) lN lC), (3, .int .i64 i), (20, .bool false)] (by simp only [b11, Bool.not_true, Bool.not_false]) ?_
        clear b11
        refine N_run 2 [(0, .slice (some lBA) lN lC), (3, .int .i64 i), (20, .bool false), (21, .slice (some lBA) lN lC), (22, .int .i64 i)] (fun w => by kernel_rfl) ?_
        obtain ⟨q12, h⟩ := h
        refine N_val (some 23) (indexAtN 63 (.slice (some lBA) lN lC) (.int .i64 i)) (.pointer (some (lBA.add (Int.toNat i * 12)))) (fun w => by kernel_rfl) (fun w _ => indexAt_run (P := Try.prog) (t := 63) (elem := 72) (sz := 12) (a := lBA) (len := lN) (cap := lC) (k := .i64) (i := i) Try.underlying63 (fun w => by kernel_rfl) q12.1 q12.2 w) [(0, .slice (some lBA) lN lC), (3, .int .i64 i), (20, .bool false), (23, .pointer (some (lBA.add (Int.toNat i * 12))))] (ps (by kernel_rfl)) ?_
        refine N_run 1 [(0, .slice (some lBA) lN lC), (3, .int .i64 i), (20, .bool false), (24, .pointer (some ((lBA.add (Int.toNat i * 12)).add 9)))] (fun w => by kernel_rfl) ?_
        obtain ⟨x, q13, h⟩ := h
        refine N_val (some 25) (loadN 9 (.pointer (some ((lBA.add (Int.toNat i * 12)).add 9)))) (.string x) (fun w => by kernel_rfl) (loadN_run (loadOK_one (fun w => by kernel_rfl) q13)) [(0, .slice (some lBA) lN lC), (3, .int .i64 i), (20, .bool false), (25, .string x)] (ps (by kernel_rfl)) ?_
        refine N_run 4 [(0, .slice (some lBA) lN lC), (3, .int .i64 i), (29, .bool (decide ((x.size : Int) > 1000)))] (fun w => by kernel_rfl) ?_
        by_cases c14 : (x.size : Int) > 1000
        · rw [if_pos c14] at h
          have b15 : (decide ((x.size : Int) > 1000)) = true := decide_eq_true c14
          refine N_env [(0, .slice (some lBA) lN lC), (3, .int .i64 i), (29, .bool true)] (by simp only [b15, Bool.not_true, Bool.not_false]) ?_
          clear b15
          refine N_run 9 [(0, .slice (some lBA) lN lC), (3, .int .i64 i), (38, .bool true)] (fun w => by kernel_rfl) ?_
          refine N_end (by kernel_rfl) ?_
          refine S_then ?_
          refine S_condT (.tmp 38) kk28 kk29 (by kernel_rfl) (by kernel_rfl) ?_
          refine S_seq kk30 kk31 (by kernel_rfl) ?_
          refine S_region 7 (Code.ops kk30) (by kernel_rfl) ?_
          refine N_run 1 [(2, .bool true)] (fun w => by kernel_rfl) ?_
          refine N_end (by kernel_rfl) ?_
          refine S_then ?_
          refine S_ret (by kernel_rfl) ?_
          show At _ _ _ _ _ (Q .ret)
          exact S_done (fn := Try.f23) [.bool true] hQ (show ResOK _ _ _ [.tmp 2] _ from .tmp (by kernel_rfl) (.nil)) h
        · rw [if_neg c14] at h
          have b15 : (decide ((x.size : Int) > 1000)) = false := decide_eq_false c14
          refine N_env [(0, .slice (some lBA) lN lC), (3, .int .i64 i), (29, .bool false)] (by simp only [b15, Bool.not_true, Bool.not_false]) ?_
          clear b15
          refine N_run 2 [(0, .slice (some lBA) lN lC), (3, .int .i64 i), (29, .bool false), (30, .slice (some lBA) lN lC), (31, .int .i64 i)] (fun w => by kernel_rfl) ?_
          obtain ⟨q16, h⟩ := h
          refine N_val (some 32) (indexAtN 63 (.slice (some lBA) lN lC) (.int .i64 i)) (.pointer (some (lBA.add (Int.toNat i * 12)))) (fun w => by kernel_rfl) (fun w _ => indexAt_run (P := Try.prog) (t := 63) (elem := 72) (sz := 12) (a := lBA) (len := lN) (cap := lC) (k := .i64) (i := i) Try.underlying63 (fun w => by kernel_rfl) q16.1 q16.2 w) [(0, .slice (some lBA) lN lC), (3, .int .i64 i), (29, .bool false), (32, .pointer (some (lBA.add (Int.toNat i * 12))))] (ps (by kernel_rfl)) ?_
          refine N_run 2 [(0, .slice (some lBA) lN lC), (3, .int .i64 i), (29, .bool false), (34, .pointer (some (((lBA.add (Int.toNat i * 12)).add 10).add 1)))] (fun w => by kernel_rfl) ?_
          obtain ⟨xB_2, xN_2, xC_2, q17, h⟩ := h
          refine N_val (some 35) (loadN 40 (.pointer (some (((lBA.add (Int.toNat i * 12)).add 10).add 1)))) (.slice xB_2 xN_2 xC_2) (fun w => by kernel_rfl) (loadN_run (loadOK_one (fun w => by kernel_rfl) q17)) [(0, .slice (some lBA) lN lC), (3, .int .i64 i), (29, .bool false), (35, .slice xB_2 xN_2 xC_2)] (ps (by kernel_rfl)) ?_
          refine N_run 3 [(0, .slice (some lBA) lN lC), (3, .int .i64 i), (38, .bool (decide ((xN_2 : Int) > 60)))] (fun w => by kernel_rfl) ?_
          refine N_end (by kernel_rfl) ?_
          refine S_then ?_
          by_cases c18 : (xN_2 : Int) > 60
          · rw [if_pos c18] at h
            have b19 : (decide ((xN_2 : Int) > 60)) = true := decide_eq_true c18
            refine S_env [(0, .slice (some lBA) lN lC), (3, .int .i64 i), (38, .bool true)] (by simp only [b19, Bool.not_true, Bool.not_false]) ?_
            clear b19
            refine S_condT (.tmp 38) kk28 kk29 (by kernel_rfl) (by kernel_rfl) ?_
            refine S_seq kk30 kk31 (by kernel_rfl) ?_
            refine S_region 7 (Code.ops kk30) (by kernel_rfl) ?_
            refine N_run 1 [(2, .bool true)] (fun w => by kernel_rfl) ?_
            refine N_end (by kernel_rfl) ?_
            refine S_then ?_
            refine S_ret (by kernel_rfl) ?_
            show At _ _ _ _ _ (Q .ret)
            exact S_done (fn := Try.f23) [.bool true] hQ (show ResOK _ _ _ [.tmp 2] _ from .tmp (by kernel_rfl) (.nil)) h
          · rw [if_neg c18] at h
            have b19 : (decide ((xN_2 : Int) > 60)) = false := decide_eq_false c18
            refine S_env [(0, .slice (some lBA) lN lC), (3, .int .i64 i), (38, .bool false)] (by simp only [b19, Bool.not_true, Bool.not_false]) ?_
            clear b19
            refine S_condF (.tmp 38) kk28 kk29 (by kernel_rfl) (by kernel_rfl) ?_
            refine S_skip (by kernel_rfl) ?_
            refine S_blockEnd ?_
            refine S_then ?_
            refine S_region 5 (Code.ops kk24) (by kernel_rfl) ?_
            refine N_run 3 [(0, .slice (some lBA) lN lC), (3, .int .i64 (IntKind.wrap .i64 (i + 1)))] (fun w => by kernel_rfl) ?_
            refine N_end (by kernel_rfl) ?_
            refine S_then ?_
            exact S_round ((IntKind.wrap .i64 (i + 1)) : Int) (sb (by kernel_rfl)) h
    · rw [if_neg c6] at h
      have b7 : (decide (i < (lN : Int))) = false := decide_eq_false c6
      refine S_env [(0, .slice lB lN lC), (3, .int .i64 i), (10, .bool false)] (by simp only [b7, Bool.not_true, Bool.not_false]) ?_
      clear b7
      refine S_condF (.tmp 10) kk21 kk22 (by kernel_rfl) (by kernel_rfl) ?_
      refine S_exit 0 (by kernel_rfl) ?_
      refine S_exitThen ?_
      refine S_exitThen ?_
      refine S_exitHere ?_
      refine S_then ?_
      refine S_seq kk32 kk33 (by kernel_rfl) ?_
      refine S_region 8 (Code.ops kk32) (by kernel_rfl) ?_
      refine N_run 1 [(2, .bool false)] (fun w => by kernel_rfl) ?_
      refine N_end (by kernel_rfl) ?_
      refine S_then ?_
      refine S_ret (by kernel_rfl) ?_
      show At _ _ _ _ _ (Q .ret)
      exact S_done (fn := Try.f23) [.bool false] hQ (show ResOK _ _ _ [.tmp 2] _ from .tmp (by kernel_rfl) (.nil)) h
end morainelaw10_many

end Go.Proofs.Ytfohlkiikppefaa
