/-
 Written by a program of mine (gen.py): for functions of this translation a predicate transformer over heaps (.pt), and the proof that it is sound for the call (.link).
-/
import Derived.Test.YthlohokmnajpoaaFnsC
set_option linter.unusedSimpArgs false
set_option linter.unusedVariables false
set_option maxHeartbeats 1000000
noncomputable section
namespace Go.Proofs.Ythlohokmnajpoaa
open Go
/-! moraine/morainelaw22.fixes -/
namespace morainelaw22_fixes
def kk0 := Func.code Try.f8
def kk1 := Code.fa kk0
def kk2 := Code.fb kk0
def kk3 := Code.fa kk2
def kk4 := Code.fb kk2
def kk5 := Code.fa kk4
def kk6 := Code.fb kk4
def kk7 := Code.fa kk5
def kk8 := Code.fb kk5
def kk9 := Code.fa kk8
def kk10 := Code.fa kk9
def kk11 := Code.fa kk10
def kk12 := Code.fb kk10
def kk13 := Code.fa kk11
def kk14 := Code.fb kk11
def kk15 := Code.fa kk14
def kk16 := Code.fb kk14
def kk17 := Code.fa kk12
def kk18 := Code.fb kk12
def kk19 := Code.fa kk17
def kk20 := Code.fa kk6
def kk21 := Code.fb kk6
end morainelaw22_fixes
def morainelaw22_fixes.pt (lB : Option Addr) (lN : Nat) (lC : Nat) (H : Array Obj) (R : Value → Array Obj → Prop) : Prop :=
 ∃ (I11 : (Option Addr) → Nat → Nat → Int → Array Obj → Prop) (m11 : (Option Addr) → Nat → Nat → Int → Array Obj → Nat), I11 none 0 0 0 H ∧ ∀ (outB : Option Addr) (outN : Nat) (outC : Nat) (i : Int) (H1 : Array Obj), I11 outB outN outC i H1 →
 if i < (lN : Int) then (
 ∃ lBA : Addr, lB = some lBA ∧
 ((0 : Int) ≤ i ∧ i < (lN : Int)) ∧
 ∃ x : Int, hat H1 (lBA.add (Int.toNat i * 1)) = some (.int .i32 x) ∧
 ∀ (b : Nat) (H2 : Array Obj), b = H1.size → H2 = H1.push (.cells #[.int .u64 (ishl .u64 (IntKind.wrap .u64 x) 3)] 31) →
 appendK 1 31 8 [.int .u64 0] outB outN outC (some (Addr.mk b 0 none)) 1 H2 (fun ap apC H3 =>
 (I11 ap (outN + 1) apC (IntKind.wrap .i64 (i + 1)) H3 ∧ m11 ap (outN + 1) apC (IntKind.wrap .i64 (i + 1)) H3 < m11 outB outN outC i H1)))
 else
 R (.slice outB outN outC) H1
namespace morainelaw22_fixes
set_option maxRecDepth 100000 in
theorem link {lB : Option Addr} {lN : Nat} {lC : Nat} {H : Array Obj} {R : Value → Array Obj → Prop} (h : pt lB lN lC H R) : C lB lN lC H R := by
 refine S_enter (fn := Try.f8) (c := kk0) 21 Try.func8 (by kernel_rfl) (by kernel_rfl) (Nat.le_of_ble_eq_true (by kernel_rfl)) ?_
 intro w0 Q hQ
 unfold pt at h
 refine S_sub [(0, .slice lB lN lC)] (sb (by kernel_rfl)) ?_
 refine T_sr 0 kk1 kk2 ?_
 refine N_run 1 [(0, .slice lB lN lC)] (fun _=>by kernel_rfl) ?_
 refine T_e ?_
 refine T_sr 1 kk3 kk4 ?_
 refine N_run 1 [(0, .slice lB lN lC), (3, .slice none 0 0)] (fun _=>by kernel_rfl) ?_
 refine T_e ?_
 refine S_seq kk5 kk6 (by kernel_rfl) ?_
 refine T_sr 2 kk7 kk8 ?_
 refine N_run 1 [(0, .slice lB lN lC), (3, .slice none 0 0), (4, .int .i64 0)] (fun _=>by kernel_rfl) ?_
 refine T_e ?_
 refine S_block 0 kk9 (by kernel_rfl) ?_
 obtain ⟨I11, m11, i1, i2⟩ := h
 refine S_loop (x := kk10) (σ := (Option Addr) × Nat × Nat × Int) (fun s_ => [(0, .slice lB lN lC), (3, .slice s_.1 s_.2.1 s_.2.2.1), (4, .int .i64 s_.2.2.2)]) (fun s_ H => I11 s_.1 s_.2.1 s_.2.2.1 s_.2.2.2 H) (fun s_ H => m11 s_.1 s_.2.1 s_.2.2.1 s_.2.2.2 H) ((none, 0, 0, 0) : (Option Addr) × Nat × Nat × Int) (by kernel_rfl) i1 (sb (by kernel_rfl)) ?_
 rintro ⟨outB, outN, outC, i⟩ H1 i3
 have h := i2 outB outN outC i H1 i3
 refine S_sub [(0, .slice lB lN lC), (3, .slice outB outN outC), (4, .int .i64 i)] (sb (by kernel_rfl)) ?_
 refine S_seq kk11 kk12 (by kernel_rfl) ?_
 refine T_sr 3 kk13 kk14 ?_
 refine N_run 4 [(0, .slice lB lN lC), (3, .slice outB outN outC), (4, .int .i64 i), (8, .bool (decide (i < (lN : Int))))] (fun _=>by kernel_rfl) ?_
 refine T_e ?_
 by_cases c4 : i < (lN : Int)
 ·rw [if_pos c4] at h
  have b5 : (decide (i < (lN : Int))) = true := decide_eq_true c4
  refine S_env [(0, .slice lB lN lC), (3, .slice outB outN outC), (4, .int .i64 i), (8, .bool true)] (by simp only [b5, Bool.not_true, Bool.not_false]) ?_
  clear b5
  refine S_condT (.tmp 8) kk15 kk16 (by kernel_rfl) (by kernel_rfl) ?_
  refine S_skip (by kernel_rfl) ?_
  refine S_then ?_
  refine S_seq kk17 kk18 (by kernel_rfl) ?_
  refine S_block 1 kk19 (by kernel_rfl) ?_
  refine S_region 5 (Code.ops kk19) (by kernel_rfl) ?_
  refine N_run 3 [(0, .slice lB lN lC), (4, .int .i64 i), (11, .slice outB outN outC), (12, .slice lB lN lC), (13, .int .i64 i)] (fun _=>by kernel_rfl) ?_
  obtain ⟨lBA, rfl, h⟩ := h
  obtain ⟨q6, h⟩ := h
  refine N_val (some 14) (indexAtN 22 (.slice (some lBA) lN lC) (.int .i64 i)) (.pointer (some (lBA.add (Int.toNat i * 1)))) (fun _=>by kernel_rfl) (fun w _ => indexAt_run (P := Try.prog) (t := 22) (elem := 21) (sz := 1) (a := lBA) (len := lN) (cap := lC) (k := .i64) (i := i) Try.underlying22 (fun _=>by kernel_rfl) q6.1 q6.2 w) [(0, .slice (some lBA) lN lC), (4, .int .i64 i), (11, .slice outB outN outC), (14, .pointer (some (lBA.add (Int.toNat i * 1))))] (ps (by kernel_rfl)) ?_
  obtain ⟨x, q7, h⟩ := h
  refine N_val (some 15) (loadN 21 (.pointer (some (lBA.add (Int.toNat i * 1))))) (.int .i32 x) (fun _=>by kernel_rfl) (loadN_run (loadOK_one (fun _=>by kernel_rfl) q7)) [(0, .slice (some lBA) lN lC), (4, .int .i64 i), (11, .slice outB outN outC), (15, .int .i32 x)] (ps (by kernel_rfl)) ?_
  refine N_run 2 [(0, .slice (some lBA) lN lC), (4, .int .i64 i), (11, .slice outB outN outC), (17, .int .u64 (ishl .u64 (IntKind.wrap .u64 x) 3))] (fun _=>by kernel_rfl) ?_
  refine N_new (some 18) (fun b => .slice (some (Addr.mk b 0 none)) 1 1) (.cells #[.int .u64 (ishl .u64 (IntKind.wrap .u64 x) 3)] 31) (fun _=>by kernel_rfl) ?_
  intro b H2 e8 e9
  replace h := h b H2 e8 e9
  refine ⟨[(0, .slice (some lBA) lN lC), (4, .int .i64 i), (11, .slice outB outN outC), (18, .slice (some (Addr.mk b 0 none)) 1 1)], ps (by kernel_rfl), ?_⟩
  refine N_op (some 19) (appendN #[28, 28] 28 #[.slice outB outN outC, .slice (some (Addr.mk b 0 none)) 1 1]) _ (fun _=>by kernel_rfl) (ss_append (T := 31) (sz := 1) (bytes := 8) (zero := (.int .u64 0 : Value)) Try.underlying28 Try.underlying28 rfl (show Try.prog.info? 31 = some Try.t31 from by kernel_rfl) (by kernel_rfl) (by kernel_rfl) (by decide) (by kernel_rfl) (by first | exact h | (simpa only [Value.cells, List.toList_toArray] using h))) ?_; clear h
  rintro _ H3 ⟨ap, apC, rfl, h⟩
  refine ⟨[(0, .slice (some lBA) lN lC), (4, .int .i64 i), (19, .slice ap (outN + 1) apC)], ps (by kernel_rfl), ?_⟩
  refine N_run 1 [(0, .slice (some lBA) lN lC), (3, .slice ap (outN + 1) apC), (4, .int .i64 i)] (fun _=>by kernel_rfl) ?_
  refine N_end (by kernel_rfl) ?_
  refine S_blockEnd ?_
  refine S_then ?_
  refine S_region 4 (Code.ops kk18) (by kernel_rfl) ?_
  refine N_run 3 [(0, .slice (some lBA) lN lC), (3, .slice ap (outN + 1) apC), (4, .int .i64 (IntKind.wrap .i64 (i + 1)))] (fun _=>by kernel_rfl) ?_
  refine T_e ?_
  exact S_round ((ap, (outN + 1), apC, (IntKind.wrap .i64 (i + 1))) : (Option Addr) × Nat × Nat × Int) (sb (by kernel_rfl)) h
 ·rw [if_neg c4] at h
  have b5 : (decide (i < (lN : Int))) = false := decide_eq_false c4
  refine S_env [(0, .slice lB lN lC), (3, .slice outB outN outC), (4, .int .i64 i), (8, .bool false)] (by simp only [b5, Bool.not_true, Bool.not_false]) ?_
  clear b5
  refine S_condF (.tmp 8) kk15 kk16 (by kernel_rfl) (by kernel_rfl) ?_
  refine S_exit 0 (by kernel_rfl) ?_
  refine S_exitThen ?_
  refine S_exitThen ?_
  refine S_exitHere ?_
  refine S_then ?_
  refine T_sr 6 kk20 kk21 ?_
  refine N_run 2 [(2, .slice outB outN outC)] (fun _=>by kernel_rfl) ?_
  refine T_e ?_
  refine S_ret (by kernel_rfl) ?_
  show At _ _ _ _ _ (Q .ret)
  exact S_done (fn := Try.f8) [.slice outB outN outC] hQ (show ResOK _ _ _ [.tmp 2] _ from .tmp (by kernel_rfl) (.nil)) h
end morainelaw22_fixes

end Go.Proofs.Ythlohokmnajpoaa
