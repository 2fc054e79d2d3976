/-
  Written by a program of mine (gen.py): for functions of this translation a predicate transformer over heaps (.pt), and the proof that it is sound for the call (.link).
-/
import Derived.Test.YtfohlkiikppefaaFnsC
set_option linter.unusedSimpArgs false
set_option linter.unusedVariables false
set_option maxHeartbeats 1000000
noncomputable section
namespace Go.Proofs.Ytfohlkiikppefaa
open Go
/-! moraine/morainelaw10.there -/
namespace morainelaw10_there
def kk0 := Func.code Try.f26
def kk1 := Code.fa kk0
def kk2 := Code.fb kk0
def kk3 := Code.fa kk2
def kk4 := Code.fb kk2
def kk5 := Code.fa kk3
def kk6 := Code.fb kk3
def kk7 := Code.fa kk6
def kk8 := Code.fa kk7
def kk9 := Code.fa kk8
def kk10 := Code.fb kk8
def kk11 := Code.fa kk9
def kk12 := Code.fb kk9
def kk13 := Code.fa kk12
def kk14 := Code.fb kk12
def kk15 := Code.fa kk10
def kk16 := Code.fb kk10
def kk17 := Code.fa kk15
def kk18 := Code.fa kk17
def kk19 := Code.fb kk17
def kk20 := Code.fa kk19
def kk21 := Code.fb kk19
def kk22 := Code.fa kk20
def kk23 := Code.fb kk20
def kk24 := Code.fa kk4
def kk25 := Code.fb kk4
end morainelaw10_there
def morainelaw10_there.pt (lB : Option Addr) (lN : Nat) (lC : Nat) (wv : Int) (H : Array Obj) (R : Value → Array Obj → Prop) : Prop :=
 ∃ (I9 : Int → Array Obj → Prop) (m9 : Int → Array Obj → Nat), I9 0 H ∧ ∀ (i : Int) (H1 : Array Obj), I9 i H1 →
 if i < (lN : Int) then (
  ∃ lBA : Addr, lB = some lBA ∧
  ((0 : Int) ≤ i ∧ i < (lN : Int)) ∧
  ∃ x : Int, hat H1 (lBA.add (Int.toNat i * 3)) = some (.int .u64 x) ∧
  if x = wv then (
   R (.bool true) H1)
  else
  (I9 (IntKind.wrap .i64 (i + 1)) H1 ∧ m9 (IntKind.wrap .i64 (i + 1)) H1 < m9 i H1))
 else
 R (.bool false) H1
namespace morainelaw10_there
set_option maxRecDepth 100000 in
theorem link {lB : Option Addr} {lN : Nat} {lC : Nat} {wv : Int} {H : Array Obj} {R : Value → Array Obj → Prop} (h : pt lB lN lC wv H R) : C lB lN lC wv H R := by
  refine S_enter (fn := Try.f26) (c := kk0) 19 Try.func26 (by kernel_rfl) (by kernel_rfl) (Nat.le_of_ble_eq_true (by kernel_rfl)) ?_
  intro w0 Q hQ
  unfold pt at h
  refine S_sub [(0, .slice lB lN lC), (1, .int .u64 wv)] (sb (by kernel_rfl)) ?_
  refine S_seq kk1 kk2 (by kernel_rfl) ?_
  refine S_region 0 (Code.ops kk1) (by kernel_rfl) ?_
  refine N_run 1 [(0, .slice lB lN lC), (1, .int .u64 wv)] (fun w => by kernel_rfl) ?_
  refine N_end (by kernel_rfl) ?_
  refine S_then ?_
  refine S_seq kk3 kk4 (by kernel_rfl) ?_
  refine S_seq kk5 kk6 (by kernel_rfl) ?_
  refine S_region 1 (Code.ops kk5) (by kernel_rfl) ?_
  refine N_run 1 [(0, .slice lB lN lC), (1, .int .u64 wv), (5, .int .i64 0)] (fun w => by kernel_rfl) ?_
  refine N_end (by kernel_rfl) ?_
  refine S_then ?_
  refine S_block 0 kk7 (by kernel_rfl) ?_
  obtain ⟨I9, m9, i1, i2⟩ := h
  refine S_loop (x := kk8) (σ := Int) (fun s_ => [(0, .slice lB lN lC), (1, .int .u64 wv), (5, .int .i64 s_)]) (fun s_ H => I9 s_ H) (fun s_ H => m9 s_ H) (0 : Int) (by kernel_rfl) i1 (sb (by kernel_rfl)) ?_
  rintro i H1 i3
  have h := i2 i H1 i3
  refine S_sub [(0, .slice lB lN lC), (1, .int .u64 wv), (5, .int .i64 i)] (sb (by kernel_rfl)) ?_
  refine S_seq kk9 kk10 (by kernel_rfl) ?_
  refine S_seq kk11 kk12 (by kernel_rfl) ?_
  refine S_region 2 (Code.ops kk11) (by kernel_rfl) ?_
  refine N_run 4 [(0, .slice lB lN lC), (1, .int .u64 wv), (5, .int .i64 i), (9, .bool (decide (i < (lN : Int))))] (fun w => by kernel_rfl) ?_
  refine N_end (by kernel_rfl) ?_
  refine S_then ?_
  by_cases c4 : i < (lN : Int)
  · rw [if_pos c4] at h
    have b5 : (decide (i < (lN : Int))) = true := decide_eq_true c4
    refine S_env [(0, .slice lB lN lC), (1, .int .u64 wv), (5, .int .i64 i), (9, .bool true)] (by simp only [b5, Bool.not_true, Bool.not_false]) ?_
    clear b5
    refine S_condT (.tmp 9) kk13 kk14 (by kernel_rfl) (by kernel_rfl) ?_
    refine S_skip (by kernel_rfl) ?_
    refine S_then ?_
    refine S_seq kk15 kk16 (by kernel_rfl) ?_
    refine S_block 1 kk17 (by kernel_rfl) ?_
    refine S_seq kk18 kk19 (by kernel_rfl) ?_
    refine S_region 4 (Code.ops kk18) (by kernel_rfl) ?_
    refine N_run 2 [(0, .slice lB lN lC), (1, .int .u64 wv), (5, .int .i64 i), (12, .slice lB lN lC), (13, .int .i64 i)] (fun w => by kernel_rfl) ?_
    obtain ⟨lBA, rfl, h⟩ := h
    obtain ⟨q6, h⟩ := h
    refine N_val (some 14) (indexAtN 65 (.slice (some lBA) lN lC) (.int .i64 i)) (.pointer (some (lBA.add (Int.toNat i * 3)))) (fun w => by kernel_rfl) (fun w _ => indexAt_run (P := Try.prog) (t := 65) (elem := 75) (sz := 3) (a := lBA) (len := lN) (cap := lC) (k := .i64) (i := i) Try.underlying65 (fun w => by kernel_rfl) q6.1 q6.2 w) [(0, .slice (some lBA) lN lC), (1, .int .u64 wv), (5, .int .i64 i), (14, .pointer (some (lBA.add (Int.toNat i * 3))))] (ps (by kernel_rfl)) ?_
    refine N_run 1 [(0, .slice (some lBA) lN lC), (1, .int .u64 wv), (5, .int .i64 i), (15, .pointer (some (lBA.add (Int.toNat i * 3))))] (fun w => by kernel_rfl) ?_
    obtain ⟨x, q7, h⟩ := h
    refine N_val (some 16) (loadN 29 (.pointer (some (lBA.add (Int.toNat i * 3))))) (.int .u64 x) (fun w => by kernel_rfl) (loadN_run (loadOK_one (fun w => by kernel_rfl) q7)) [(0, .slice (some lBA) lN lC), (1, .int .u64 wv), (5, .int .i64 i), (16, .int .u64 x)] (ps (by kernel_rfl)) ?_
    refine N_run 2 [(0, .slice (some lBA) lN lC), (1, .int .u64 wv), (5, .int .i64 i), (18, .bool (x == wv))] (fun w => by kernel_rfl) ?_
    refine N_end (by kernel_rfl) ?_
    refine S_then ?_
    by_cases c8 : x = wv
    · rw [if_pos c8] at h
      have b9 : (x == wv) = true := beq_iff_eq.mpr c8
      refine S_env [(0, .slice (some lBA) lN lC), (1, .int .u64 wv), (5, .int .i64 i), (18, .bool true)] (by simp only [b9, Bool.not_true, Bool.not_false]) ?_
      clear b9
      refine S_condT (.tmp 18) kk20 kk21 (by kernel_rfl) (by kernel_rfl) ?_
      refine S_seq kk22 kk23 (by kernel_rfl) ?_
      refine S_region 5 (Code.ops kk22) (by kernel_rfl) ?_
      refine N_run 1 [(4, .bool true)] (fun w => by kernel_rfl) ?_
      refine N_end (by kernel_rfl) ?_
      refine S_then ?_
      refine S_ret (by kernel_rfl) ?_
      show At _ _ _ _ _ (Q .ret)
      exact S_done (fn := Try.f26) [.bool true] hQ (show ResOK _ _ _ [.tmp 4] _ from .tmp (by kernel_rfl) (.nil)) h
    · rw [if_neg c8] at h
      have b9 : (x == wv) = false := beq_eq_false_iff_ne.mpr c8
      refine S_env [(0, .slice (some lBA) lN lC), (1, .int .u64 wv), (5, .int .i64 i), (18, .bool false)] (by simp only [b9, Bool.not_true, Bool.not_false]) ?_
      clear b9
      refine S_condF (.tmp 18) kk20 kk21 (by kernel_rfl) (by kernel_rfl) ?_
      refine S_skip (by kernel_rfl) ?_
      refine S_blockEnd ?_
      refine S_then ?_
      refine S_region 3 (Code.ops kk16) (by kernel_rfl) ?_
      refine N_run 3 [(0, .slice (some lBA) lN lC), (1, .int .u64 wv), (5, .int .i64 (IntKind.wrap .i64 (i + 1)))] (fun w => by kernel_rfl) ?_
      refine N_end (by kernel_rfl) ?_
      refine S_then ?_
      exact S_round ((IntKind.wrap .i64 (i + 1)) : Int) (sb (by kernel_rfl)) h
  · rw [if_neg c4] at h
    have b5 : (decide (i < (lN : Int))) = false := decide_eq_false c4
    refine S_env [(0, .slice lB lN lC), (1, .int .u64 wv), (5, .int .i64 i), (9, .bool false)] (by simp only [b5, Bool.not_true, Bool.not_false]) ?_
    clear b5
    refine S_condF (.tmp 9) kk13 kk14 (by kernel_rfl) (by kernel_rfl) ?_
    refine S_exit 0 (by kernel_rfl) ?_
    refine S_exitThen ?_
    refine S_exitThen ?_
    refine S_exitHere ?_
    refine S_then ?_
    refine S_seq kk24 kk25 (by kernel_rfl) ?_
    refine S_region 6 (Code.ops kk24) (by kernel_rfl) ?_
    refine N_run 1 [(4, .bool false)] (fun w => by kernel_rfl) ?_
    refine N_end (by kernel_rfl) ?_
    refine S_then ?_
    refine S_ret (by kernel_rfl) ?_
    show At _ _ _ _ _ (Q .ret)
    exact S_done (fn := Try.f26) [.bool false] hQ (show ResOK _ _ _ [.tmp 4] _ from .tmp (by kernel_rfl) (.nil)) h
end morainelaw10_there

end Go.Proofs.Ytfohlkiikppefaa
