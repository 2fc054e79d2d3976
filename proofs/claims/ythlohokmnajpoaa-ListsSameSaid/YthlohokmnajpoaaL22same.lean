/-
 Written by a program of mine (gen.py): for functions of this translation a predicate transformer over heaps (.pt), and the proof that it is sound for the call (.link).
-/
import Derived.Test.YthlohokmnajpoaaFnsC
set_option linter.unusedSimpArgs false
set_option linter.unusedVariables false
set_option maxHeartbeats 1000000
noncomputable section
namespace Go.Proofs.Ythlohokmnajpoaa
open Go
/-! moraine/morainelaw22.same -/
namespace morainelaw22_same
def kk0 := Func.code Try.f12
def kk1 := Code.fa kk0
def kk2 := Code.fb kk0
def kk3 := Code.fa kk2
def kk4 := Code.fb kk2
def kk5 := Code.fa kk3
def kk6 := Code.fb kk3
def kk7 := Code.fa kk6
def kk8 := Code.fb kk6
def kk9 := Code.fa kk4
def kk10 := Code.fb kk4
def kk11 := Code.fa kk9
def kk12 := Code.fb kk9
def kk13 := Code.fa kk12
def kk14 := Code.fa kk13
def kk15 := Code.fa kk14
def kk16 := Code.fb kk14
def kk17 := Code.fa kk15
def kk18 := Code.fb kk15
def kk19 := Code.fa kk18
def kk20 := Code.fb kk18
def kk21 := Code.fa kk16
def kk22 := Code.fb kk16
def kk23 := Code.fa kk21
def kk24 := Code.fa kk23
def kk25 := Code.fb kk23
def kk26 := Code.fa kk25
def kk27 := Code.fb kk25
def kk28 := Code.fa kk26
def kk29 := Code.fb kk26
def kk30 := Code.fa kk10
def kk31 := Code.fb kk10
def kk32 := Code.fa kk7
def kk33 := Code.fb kk7
end morainelaw22_same
def morainelaw22_same.pt (aB : Option Addr) (aN : Nat) (aC : Nat) (bB : Option Addr) (bN : Nat) (bC : Nat) (H : Array Obj) (R : Value → Array Obj → Prop) : Prop :=
 if (aN : Int) = (bN : Int) then (
 ∃ (I15 : Int → Array Obj → Prop) (m15 : Int → Array Obj → Nat), I15 0 H ∧ ∀ (i : Int) (H1 : Array Obj), I15 i H1 →
 if i < (aN : Int) then (
 ∃ aBA : Addr, aB = some aBA ∧
 ((0 : Int) ≤ i ∧ i < (aN : Int)) ∧
 ∃ x : Int, hat H1 (aBA.add (Int.toNat i * 1)) = some (.int .u64 x) ∧
 ∃ bBA : Addr, bB = some bBA ∧
 ((0 : Int) ≤ i ∧ i < (bN : Int)) ∧
 ∃ x_2 : Int, hat H1 (bBA.add (Int.toNat i * 1)) = some (.int .u64 x_2) ∧
 if x = x_2 then (
 (I15 (IntKind.wrap .i64 (i + 1)) H1 ∧ m15 (IntKind.wrap .i64 (i + 1)) H1 < m15 i H1))
 else
 R (.bool false) H1)
 else
 R (.bool true) H1)
 else
 R (.bool false) H
namespace morainelaw22_same
set_option maxRecDepth 100000 in
theorem link {aB : Option Addr} {aN : Nat} {aC : Nat} {bB : Option Addr} {bN : Nat} {bC : Nat} {H : Array Obj} {R : Value → Array Obj → Prop} (h : pt aB aN aC bB bN bC H R) : C aB aN aC bB bN bC H R := by
 refine S_enter (fn := Try.f12) (c := kk0) 26 Try.func12 (by kernel_rfl) (by kernel_rfl) (Nat.le_of_ble_eq_true (by kernel_rfl)) ?_
 intro w0 Q hQ
 unfold pt at h
 refine S_sub [(0, .slice aB aN aC), (1, .slice bB bN bC)] (sb (by kernel_rfl)) ?_
 refine T_sr 0 kk1 kk2 ?_
 refine N_run 1 [(0, .slice aB aN aC), (1, .slice bB bN bC)] (fun _=>by kernel_rfl) ?_
 refine T_e ?_
 refine S_seq kk3 kk4 (by kernel_rfl) ?_
 refine T_sr 1 kk5 kk6 ?_
 refine N_run 5 [(0, .slice aB aN aC), (1, .slice bB bN bC), (10, .bool ((aN : Int) != (bN : Int)))] (fun _=>by kernel_rfl) ?_
 refine T_e ?_
 by_cases c1 : (aN : Int) = (bN : Int)
 ·rw [if_pos c1] at h
  have b2 : ((aN : Int) != (bN : Int)) = false := bne_eq_false_iff_eq.mpr c1
  refine S_env [(0, .slice aB aN aC), (1, .slice bB bN bC), (10, .bool false)] (by simp only [b2, Bool.not_true, Bool.not_false]) ?_
  clear b2
  refine S_condF (.tmp 10) kk7 kk8 (by kernel_rfl) (by kernel_rfl) ?_
  refine S_skip (by kernel_rfl) ?_
  refine S_then ?_
  refine S_seq kk9 kk10 (by kernel_rfl) ?_
  refine T_sr 3 kk11 kk12 ?_
  refine N_run 1 [(0, .slice aB aN aC), (1, .slice bB bN bC), (5, .int .i64 0)] (fun _=>by kernel_rfl) ?_
  refine T_e ?_
  refine S_block 0 kk13 (by kernel_rfl) ?_
  obtain ⟨I15, m15, i3, i4⟩ := h
  refine S_loop (x := kk14) (σ := Int) (fun s_ => [(0, .slice aB aN aC), (1, .slice bB bN bC), (5, .int .i64 s_)]) (fun s_ H => I15 s_ H) (fun s_ H => m15 s_ H) (0 : Int) (by kernel_rfl) i3 (sb (by kernel_rfl)) ?_
  rintro i H1 i5
  have h := i4 i H1 i5
  refine S_sub [(0, .slice aB aN aC), (1, .slice bB bN bC), (5, .int .i64 i)] (sb (by kernel_rfl)) ?_
  refine S_seq kk15 kk16 (by kernel_rfl) ?_
  refine T_sr 4 kk17 kk18 ?_
  refine N_run 4 [(0, .slice aB aN aC), (1, .slice bB bN bC), (5, .int .i64 i), (14, .bool (decide (i < (aN : Int))))] (fun _=>by kernel_rfl) ?_
  refine T_e ?_
  by_cases c6 : i < (aN : Int)
  ·rw [if_pos c6] at h
   have b7 : (decide (i < (aN : Int))) = true := decide_eq_true c6
   refine S_env [(0, .slice aB aN aC), (1, .slice bB bN bC), (5, .int .i64 i), (14, .bool true)] (by simp only [b7, Bool.not_true, Bool.not_false]) ?_
   clear b7
   refine S_condT (.tmp 14) kk19 kk20 (by kernel_rfl) (by kernel_rfl) ?_
   refine S_skip (by kernel_rfl) ?_
   refine S_then ?_
   refine S_seq kk21 kk22 (by kernel_rfl) ?_
   refine S_block 1 kk23 (by kernel_rfl) ?_
   refine S_seq kk24 kk25 (by kernel_rfl) ?_
   refine S_regionQ 6 (Code.ops kk24) (by kernel_rfl) (by kernel_rfl) (by kernel_rfl) ?_
   refine Q_one (.slice aB aN aC) [(0, .slice aB aN aC), (1, .slice bB bN bC), (5, .int .i64 i), (17, .slice aB aN aC)] (some 17) (by kernel_rfl) (fun _=>by kernel_rfl) (ps (by kernel_rfl)) ?_
   refine Q_one (.int .i64 i) [(0, .slice aB aN aC), (1, .slice bB bN bC), (5, .int .i64 i), (17, .slice aB aN aC), (18, .int .i64 i)] (some 18) (by kernel_rfl) (fun _=>by kernel_rfl) (ps (by kernel_rfl)) ?_
   obtain ⟨aBA, rfl, h⟩ := h
   obtain ⟨q8, h⟩ := h
   refine Q_op (some 19) (indexAtN 28 (.slice (some aBA) aN aC) (.int .i64 i)) (.pointer (some (aBA.add (Int.toNat i * 1)))) (fun _=>by kernel_rfl) (fun w _ => indexAt_run (P := Try.prog) (t := 28) (elem := 31) (sz := 1) (a := aBA) (len := aN) (cap := aC) (k := .i64) (i := i) Try.underlying28 (fun _=>by kernel_rfl) q8.1 q8.2 w) [(0, .slice (some aBA) aN aC), (1, .slice bB bN bC), (5, .int .i64 i), (19, .pointer (some (aBA.add (Int.toNat i * 1))))] (ps (by kernel_rfl)) ?_
   obtain ⟨x, q9, h⟩ := h
   refine Q_op (some 20) (loadN 31 (.pointer (some (aBA.add (Int.toNat i * 1))))) (.int .u64 x) (fun _=>by kernel_rfl) (loadN_run (loadOK_one (fun _=>by kernel_rfl) q9)) [(0, .slice (some aBA) aN aC), (1, .slice bB bN bC), (5, .int .i64 i), (20, .int .u64 x)] (ps (by kernel_rfl)) ?_
   refine Q_one (.slice bB bN bC) [(0, .slice (some aBA) aN aC), (1, .slice bB bN bC), (5, .int .i64 i), (20, .int .u64 x), (21, .slice bB bN bC)] (some 21) (by kernel_rfl) (fun _=>by kernel_rfl) (ps (by kernel_rfl)) ?_
   refine Q_one (.int .i64 i) [(0, .slice (some aBA) aN aC), (1, .slice bB bN bC), (5, .int .i64 i), (20, .int .u64 x), (21, .slice bB bN bC), (22, .int .i64 i)] (some 22) (by kernel_rfl) (fun _=>by kernel_rfl) (ps (by kernel_rfl)) ?_
   obtain ⟨bBA, rfl, h⟩ := h
   obtain ⟨q10, h⟩ := h
   refine Q_op (some 23) (indexAtN 28 (.slice (some bBA) bN bC) (.int .i64 i)) (.pointer (some (bBA.add (Int.toNat i * 1)))) (fun _=>by kernel_rfl) (fun w _ => indexAt_run (P := Try.prog) (t := 28) (elem := 31) (sz := 1) (a := bBA) (len := bN) (cap := bC) (k := .i64) (i := i) Try.underlying28 (fun _=>by kernel_rfl) q10.1 q10.2 w) [(0, .slice (some aBA) aN aC), (1, .slice (some bBA) bN bC), (5, .int .i64 i), (20, .int .u64 x), (23, .pointer (some (bBA.add (Int.toNat i * 1))))] (ps (by kernel_rfl)) ?_
   obtain ⟨x_2, q11, h⟩ := h
   refine Q_op (some 24) (loadN 31 (.pointer (some (bBA.add (Int.toNat i * 1))))) (.int .u64 x_2) (fun _=>by kernel_rfl) (loadN_run (loadOK_one (fun _=>by kernel_rfl) q11)) [(0, .slice (some aBA) aN aC), (1, .slice (some bBA) bN bC), (5, .int .i64 i), (20, .int .u64 x), (24, .int .u64 x_2)] (ps (by kernel_rfl)) ?_
   refine Q_one (.bool (x != x_2)) [(0, .slice (some aBA) aN aC), (1, .slice (some bBA) bN bC), (5, .int .i64 i), (25, .bool (x != x_2))] (some 25) (by kernel_rfl) (fun _=>by kernel_rfl) (ps (by kernel_rfl)) ?_
   refine Q_sub [(0, .slice (some aBA) aN aC), (1, .slice (some bBA) bN bC), (5, .int .i64 i), (25, .bool (x != x_2))] (sb (by kernel_rfl)) ?_
   refine Q_end (by kernel_rfl) ?_
   refine S_then ?_
   by_cases c12 : x = x_2
   ·rw [if_pos c12] at h
    have b13 : (x != x_2) = false := bne_eq_false_iff_eq.mpr c12
    refine S_env [(0, .slice (some aBA) aN aC), (1, .slice (some bBA) bN bC), (5, .int .i64 i), (25, .bool false)] (by simp only [b13, Bool.not_true, Bool.not_false]) ?_
    clear b13
    refine S_condF (.tmp 25) kk26 kk27 (by kernel_rfl) (by kernel_rfl) ?_
    refine S_skip (by kernel_rfl) ?_
    refine S_blockEnd ?_
    refine S_then ?_
    refine S_region 5 (Code.ops kk22) (by kernel_rfl) ?_
    refine N_run 3 [(0, .slice (some aBA) aN aC), (1, .slice (some bBA) bN bC), (5, .int .i64 (IntKind.wrap .i64 (i + 1)))] (fun _=>by kernel_rfl) ?_
    refine T_e ?_
    exact S_round ((IntKind.wrap .i64 (i + 1)) : Int) (sb (by kernel_rfl)) h
   ·rw [if_neg c12] at h
    have b13 : (x != x_2) = true := bne_iff_ne.mpr c12
    refine S_env [(0, .slice (some aBA) aN aC), (1, .slice (some bBA) bN bC), (5, .int .i64 i), (25, .bool true)] (by simp only [b13, Bool.not_true, Bool.not_false]) ?_
    clear b13
    refine S_condT (.tmp 25) kk26 kk27 (by kernel_rfl) (by kernel_rfl) ?_
    refine T_sr 7 kk28 kk29 ?_
    refine N_run 1 [(4, .bool false)] (fun _=>by kernel_rfl) ?_
    refine T_e ?_
    refine S_ret (by kernel_rfl) ?_
    show At _ _ _ _ _ (Q .ret)
    exact S_done (fn := Try.f12) [.bool false] hQ (show ResOK _ _ _ [.tmp 4] _ from .tmp (by kernel_rfl) (.nil)) h
  ·rw [if_neg c6] at h
   have b7 : (decide (i < (aN : Int))) = false := decide_eq_false c6
   refine S_env [(0, .slice aB aN aC), (1, .slice bB bN bC), (5, .int .i64 i), (14, .bool false)] (by simp only [b7, Bool.not_true, Bool.not_false]) ?_
   clear b7
   refine S_condF (.tmp 14) kk19 kk20 (by kernel_rfl) (by kernel_rfl) ?_
   refine S_exit 0 (by kernel_rfl) ?_
   refine S_exitThen ?_
   refine S_exitThen ?_
   refine S_exitHere ?_
   refine S_then ?_
   refine T_sr 8 kk30 kk31 ?_
   refine N_run 1 [(4, .bool true)] (fun _=>by kernel_rfl) ?_
   refine T_e ?_
   refine S_ret (by kernel_rfl) ?_
   show At _ _ _ _ _ (Q .ret)
   exact S_done (fn := Try.f12) [.bool true] hQ (show ResOK _ _ _ [.tmp 4] _ from .tmp (by kernel_rfl) (.nil)) h
 ·rw [if_neg c1] at h
  have b2 : ((aN : Int) != (bN : Int)) = true := bne_iff_ne.mpr c1
  refine S_env [(0, .slice aB aN aC), (1, .slice bB bN bC), (10, .bool true)] (by simp only [b2, Bool.not_true, Bool.not_false]) ?_
  clear b2
  refine S_condT (.tmp 10) kk7 kk8 (by kernel_rfl) (by kernel_rfl) ?_
  refine T_sr 2 kk32 kk33 ?_
  refine N_run 1 [(4, .bool false)] (fun _=>by kernel_rfl) ?_
  refine T_e ?_
  refine S_ret (by kernel_rfl) ?_
  show At _ _ _ _ _ (Q .ret)
  exact S_done (fn := Try.f12) [.bool false] hQ (show ResOK _ _ _ [.tmp 4] _ from .tmp (by kernel_rfl) (.nil)) h
end morainelaw22_same

end Go.Proofs.Ythlohokmnajpoaa
