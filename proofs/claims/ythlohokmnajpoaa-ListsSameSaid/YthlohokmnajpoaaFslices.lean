/-
 Written by a program of mine (gen.py): for functions of this translation a predicate transformer over heaps (.pt), and the proof that it is sound for the call (.link).
-/
import Derived.Test.YthlohokmnajpoaaFnsC
set_option linter.unusedSimpArgs false
set_option linter.unusedVariables false
set_option maxHeartbeats 1000000
noncomputable section
namespace Go.Proofs.Ythlohokmnajpoaa
open Go
/-! slices.Reverse[[]moraine/api.Word,moraine/api.Word] -/
namespace slices_Reverse_api_Word_api_Word
def kk0 := Func.code Try.f40
def kk1 := Code.fa kk0
def kk2 := Code.fb kk0
def kk3 := Code.fa kk2
def kk4 := Code.fa kk3
def kk5 := Code.fa kk4
def kk6 := Code.fb kk4
def kk7 := Code.fa kk5
def kk8 := Code.fb kk5
def kk9 := Code.fa kk8
def kk10 := Code.fb kk8
def kk11 := Code.fa kk6
def kk12 := Code.fb kk6
def kk13 := Code.fa kk11
end slices_Reverse_api_Word_api_Word
def slices_Reverse_api_Word_api_Word.pt (sB : Option Addr) (sN : Nat) (sC : Nat) (H : Array Obj) (R : Value → Array Obj → Prop) : Prop :=
 ∃ (I5 : Int → Int → Array Obj → Prop) (m5 : Int → Int → Array Obj → Nat), I5 0 (IntKind.wrap .i64 ((sN : Int) - 1)) H ∧ ∀ (i : Int) (j : Int) (H1 : Array Obj), I5 i j H1 →
 if i < j then (
 ∃ sBA : Addr, sB = some sBA ∧
 ((0 : Int) ≤ j ∧ j < (sN : Int)) ∧
 ∃ x : Int, hat H1 (sBA.add (Int.toNat j * 1)) = some (.int .u64 x) ∧
 ((0 : Int) ≤ i ∧ i < (sN : Int)) ∧
 ∃ x_2 : Int, hat H1 (sBA.add (Int.toNat i * 1)) = some (.int .u64 x_2) ∧
 ((0 : Int) ≤ i ∧ i < (sN : Int)) ∧
 (CanPuts H1 (sBA.add (Int.toNat i * 1)) 0 1) ∧ ∀ H2 : Array Obj, H2 = hputs H1 (sBA.add (Int.toNat i * 1)) [.int .u64 x] 0 → 
 ((0 : Int) ≤ j ∧ j < (sN : Int)) ∧
 (CanPuts H2 (sBA.add (Int.toNat j * 1)) 0 1) ∧ ∀ H3 : Array Obj, H3 = hputs H2 (sBA.add (Int.toNat j * 1)) [.int .u64 x_2] 0 → 
 (I5 (IntKind.wrap .i64 (i + 1)) (IntKind.wrap .i64 (j - 1)) H3 ∧ m5 (IntKind.wrap .i64 (i + 1)) (IntKind.wrap .i64 (j - 1)) H3 < m5 i j H1))
 else
 R (.tuple #[]) H1
namespace slices_Reverse_api_Word_api_Word
set_option maxRecDepth 100000 in
theorem link {sB : Option Addr} {sN : Nat} {sC : Nat} {H : Array Obj} {R : Value → Array Obj → Prop} (h : pt sB sN sC H R) : C sB sN sC H R := by
 refine S_enter (fn := Try.f40) (c := kk0) 28 Try.func40 (by kernel_rfl) (by kernel_rfl) (Nat.le_of_ble_eq_true (by kernel_rfl)) ?_
 intro w0 Q hQ
 unfold pt at h
 refine S_sub [(0, .slice sB sN sC)] (sb (by kernel_rfl)) ?_
 refine T_sr 0 kk1 kk2 ?_
 refine N_run 5 [(0, .slice sB sN sC), (2, .int .i64 0), (3, .int .i64 (IntKind.wrap .i64 ((sN : Int) - 1)))] (fun _=>by kernel_rfl) ?_
 refine T_e ?_
 refine S_block 0 kk3 (by kernel_rfl) ?_
 obtain ⟨I5, m5, i1, i2⟩ := h
 refine S_loop (x := kk4) (σ := Int × Int) (fun s_ => [(0, .slice sB sN sC), (2, .int .i64 s_.1), (3, .int .i64 s_.2)]) (fun s_ H => I5 s_.1 s_.2 H) (fun s_ H => m5 s_.1 s_.2 H) ((0, (IntKind.wrap .i64 ((sN : Int) - 1))) : Int × Int) (by kernel_rfl) i1 (sb (by kernel_rfl)) ?_
 rintro ⟨i, j⟩ H1 i3
 have h := i2 i j H1 i3
 refine S_sub [(0, .slice sB sN sC), (2, .int .i64 i), (3, .int .i64 j)] (sb (by kernel_rfl)) ?_
 refine S_seq kk5 kk6 (by kernel_rfl) ?_
 refine T_sr 1 kk7 kk8 ?_
 refine N_run 3 [(0, .slice sB sN sC), (2, .int .i64 i), (3, .int .i64 j), (9, .bool (decide (i < j)))] (fun _=>by kernel_rfl) ?_
 refine T_e ?_
 by_cases c4 : i < j
 ·rw [if_pos c4] at h
  have b5 : (decide (i < j)) = true := decide_eq_true c4
  refine S_env [(0, .slice sB sN sC), (2, .int .i64 i), (3, .int .i64 j), (9, .bool true)] (by simp only [b5, Bool.not_true, Bool.not_false]) ?_
  clear b5
  refine S_condT (.tmp 9) kk9 kk10 (by kernel_rfl) (by kernel_rfl) ?_
  refine S_skip (by kernel_rfl) ?_
  refine S_then ?_
  refine S_seq kk11 kk12 (by kernel_rfl) ?_
  refine S_block 1 kk13 (by kernel_rfl) ?_
  obtain ⟨sBA, rfl, h⟩ := h
  obtain ⟨q6, h⟩ := h
  obtain ⟨x, q7, h⟩ := h
  obtain ⟨q8, h⟩ := h
  obtain ⟨x_2, q9, h⟩ := h
  obtain ⟨q10, h⟩ := h
  refine S_regionG 3 (Code.ops kk13) [(13, (sBA.add (Int.toNat j * 1)), [.int .u64 x]), (13, (sBA.add (Int.toNat i * 1)), [.int .u64 x_2])] 16 #[false, false, false, false, false, false, false, false, false, false, false, false, false, false, false, false] (by kernel_rfl) (by kernel_rfl) (by kernel_rfl) (by kernel_rfl) (by kernel_rfl) (show FactsAt _ _ _ from ⟨⟨q7, trivial⟩, ⟨q9, trivial⟩, trivial⟩) ?_
  refine G_take 0 (some 14) (.slice (some sBA) sN sC) #[true, false, false, false, false, false, false, false, false, false, false, false, false, false, false, false] [(0, .slice (some sBA) sN sC), (2, .int .i64 i), (3, .int .i64 j), (14, .slice (some sBA) sN sC)] ((pure (.value (.slice (some sBA) sN sC)) : Sem Next)) (fun _=>by kernel_rfl) (fun _ _ _ _ _ => rfl) (by kernel_rfl) (by kernel_rfl) (by kernel_rfl) (by kernel_rfl) (by kernel_rfl) (by kernel_rfl) (ps (by kernel_rfl)) ?_
  refine G_take 1 (some 15) (.int .i64 i) #[true, true, false, false, false, false, false, false, false, false, false, false, false, false, false, false] [(0, .slice (some sBA) sN sC), (2, .int .i64 i), (3, .int .i64 j), (14, .slice (some sBA) sN sC), (15, .int .i64 i)] ((pure (.value (.int .i64 i)) : Sem Next)) (fun _=>by kernel_rfl) (fun _ _ _ _ _ => rfl) (by kernel_rfl) (by kernel_rfl) (by kernel_rfl) (by kernel_rfl) (by kernel_rfl) (by kernel_rfl) (ps (by kernel_rfl)) ?_
  refine G_take 2 (some 16) (.slice (some sBA) sN sC) #[true, true, true, false, false, false, false, false, false, false, false, false, false, false, false, false] [(0, .slice (some sBA) sN sC), (2, .int .i64 i), (3, .int .i64 j), (14, .slice (some sBA) sN sC), (15, .int .i64 i), (16, .slice (some sBA) sN sC)] ((pure (.value (.slice (some sBA) sN sC)) : Sem Next)) (fun _=>by kernel_rfl) (fun _ _ _ _ _ => rfl) (by kernel_rfl) (by kernel_rfl) (by kernel_rfl) (by kernel_rfl) (by kernel_rfl) (by kernel_rfl) (ps (by kernel_rfl)) ?_
  refine G_take 3 (some 17) (.int .i64 j) #[true, true, true, true, false, false, false, false, false, false, false, false, false, false, false, false] [(0, .slice (some sBA) sN sC), (2, .int .i64 i), (3, .int .i64 j), (14, .slice (some sBA) sN sC), (15, .int .i64 i), (16, .slice (some sBA) sN sC), (17, .int .i64 j)] ((pure (.value (.int .i64 j)) : Sem Next)) (fun _=>by kernel_rfl) (fun _ _ _ _ _ => rfl) (by kernel_rfl) (by kernel_rfl) (by kernel_rfl) (by kernel_rfl) (by kernel_rfl) (by kernel_rfl) (ps (by kernel_rfl)) ?_
  refine G_take 4 (some 18) (.slice (some sBA) sN sC) #[true, true, true, true, true, false, false, false, false, false, false, false, false, false, false, false] [(0, .slice (some sBA) sN sC), (2, .int .i64 i), (3, .int .i64 j), (14, .slice (some sBA) sN sC), (15, .int .i64 i), (16, .slice (some sBA) sN sC), (17, .int .i64 j), (18, .slice (some sBA) sN sC)] ((pure (.value (.slice (some sBA) sN sC)) : Sem Next)) (fun _=>by kernel_rfl) (fun _ _ _ _ _ => rfl) (by kernel_rfl) (by kernel_rfl) (by kernel_rfl) (by kernel_rfl) (by kernel_rfl) (by kernel_rfl) (ps (by kernel_rfl)) ?_
  refine G_take 5 (some 19) (.int .i64 j) #[true, true, true, true, true, true, false, false, false, false, false, false, false, false, false, false] [(0, .slice (some sBA) sN sC), (2, .int .i64 i), (3, .int .i64 j), (14, .slice (some sBA) sN sC), (15, .int .i64 i), (16, .slice (some sBA) sN sC), (17, .int .i64 j), (18, .slice (some sBA) sN sC), (19, .int .i64 j)] ((pure (.value (.int .i64 j)) : Sem Next)) (fun _=>by kernel_rfl) (fun _ _ _ _ _ => rfl) (by kernel_rfl) (by kernel_rfl) (by kernel_rfl) (by kernel_rfl) (by kernel_rfl) (by kernel_rfl) (ps (by kernel_rfl)) ?_
  refine G_take 6 (some 20) (.pointer (some (sBA.add (Int.toNat j * 1)))) #[true, true, true, true, true, true, true, false, false, false, false, false, false, false, false, false] [(0, .slice (some sBA) sN sC), (2, .int .i64 i), (3, .int .i64 j), (14, .slice (some sBA) sN sC), (15, .int .i64 i), (16, .slice (some sBA) sN sC), (17, .int .i64 j), (20, .pointer (some (sBA.add (Int.toNat j * 1))))] (indexAtN 28 (.slice (some sBA) sN sC) (.int .i64 j)) (fun _=>by kernel_rfl) (fun _ w _ _ _ => indexAt_run (P := Try.prog) (t := 28) (elem := 31) (sz := 1) (a := sBA) (len := sN) (cap := sC) (k := .i64) (i := j) Try.underlying28 (fun _=>by kernel_rfl) q6.1 q6.2 w) (by kernel_rfl) (by kernel_rfl) (by kernel_rfl) (by kernel_rfl) (by kernel_rfl) (by kernel_rfl) (ps (by kernel_rfl)) ?_
  refine G_take 7 (some 21) (.int .u64 x) #[true, true, true, true, true, true, true, true, false, false, false, false, false, false, false, false] [(0, .slice (some sBA) sN sC), (2, .int .i64 i), (3, .int .i64 j), (14, .slice (some sBA) sN sC), (15, .int .i64 i), (16, .slice (some sBA) sN sC), (17, .int .i64 j), (21, .int .u64 x)] (loadN 31 (.pointer (some (sBA.add (Int.toNat j * 1))))) (fun _=>by kernel_rfl) (held_one 13 (fun _=>by kernel_rfl) (List.Mem.head _) (.inl (by kernel_rfl))) (by kernel_rfl) (by kernel_rfl) (by kernel_rfl) (by kernel_rfl) (by kernel_rfl) (by kernel_rfl) (ps (by kernel_rfl)) ?_
  refine G_take 8 (some 22) (.slice (some sBA) sN sC) #[true, true, true, true, true, true, true, true, true, false, false, false, false, false, false, false] [(0, .slice (some sBA) sN sC), (2, .int .i64 i), (3, .int .i64 j), (14, .slice (some sBA) sN sC), (15, .int .i64 i), (16, .slice (some sBA) sN sC), (17, .int .i64 j), (21, .int .u64 x), (22, .slice (some sBA) sN sC)] ((pure (.value (.slice (some sBA) sN sC)) : Sem Next)) (fun _=>by kernel_rfl) (fun _ _ _ _ _ => rfl) (by kernel_rfl) (by kernel_rfl) (by kernel_rfl) (by kernel_rfl) (by kernel_rfl) (by kernel_rfl) (ps (by kernel_rfl)) ?_
  refine G_take 9 (some 23) (.int .i64 i) #[true, true, true, true, true, true, true, true, true, true, false, false, false, false, false, false] [(0, .slice (some sBA) sN sC), (2, .int .i64 i), (3, .int .i64 j), (14, .slice (some sBA) sN sC), (15, .int .i64 i), (16, .slice (some sBA) sN sC), (17, .int .i64 j), (21, .int .u64 x), (22, .slice (some sBA) sN sC), (23, .int .i64 i)] ((pure (.value (.int .i64 i)) : Sem Next)) (fun _=>by kernel_rfl) (fun _ _ _ _ _ => rfl) (by kernel_rfl) (by kernel_rfl) (by kernel_rfl) (by kernel_rfl) (by kernel_rfl) (by kernel_rfl) (ps (by kernel_rfl)) ?_
  refine G_take 10 (some 24) (.pointer (some (sBA.add (Int.toNat i * 1)))) #[true, true, true, true, true, true, true, true, true, true, true, false, false, false, false, false] [(0, .slice (some sBA) sN sC), (2, .int .i64 i), (3, .int .i64 j), (14, .slice (some sBA) sN sC), (15, .int .i64 i), (16, .slice (some sBA) sN sC), (17, .int .i64 j), (21, .int .u64 x), (24, .pointer (some (sBA.add (Int.toNat i * 1))))] (indexAtN 28 (.slice (some sBA) sN sC) (.int .i64 i)) (fun _=>by kernel_rfl) (fun _ w _ _ _ => indexAt_run (P := Try.prog) (t := 28) (elem := 31) (sz := 1) (a := sBA) (len := sN) (cap := sC) (k := .i64) (i := i) Try.underlying28 (fun _=>by kernel_rfl) q8.1 q8.2 w) (by kernel_rfl) (by kernel_rfl) (by kernel_rfl) (by kernel_rfl) (by kernel_rfl) (by kernel_rfl) (ps (by kernel_rfl)) ?_
  refine G_take 11 (some 25) (.int .u64 x_2) #[true, true, true, true, true, true, true, true, true, true, true, true, false, false, false, false] [(0, .slice (some sBA) sN sC), (2, .int .i64 i), (3, .int .i64 j), (14, .slice (some sBA) sN sC), (15, .int .i64 i), (16, .slice (some sBA) sN sC), (17, .int .i64 j), (21, .int .u64 x), (25, .int .u64 x_2)] (loadN 31 (.pointer (some (sBA.add (Int.toNat i * 1))))) (fun _=>by kernel_rfl) (held_one 13 (fun _=>by kernel_rfl) (List.Mem.tail _ (List.Mem.head _)) (.inl (by kernel_rfl))) (by kernel_rfl) (by kernel_rfl) (by kernel_rfl) (by kernel_rfl) (by kernel_rfl) (by kernel_rfl) (ps (by kernel_rfl)) ?_
  refine G_take 12 (some 26) (.pointer (some (sBA.add (Int.toNat i * 1)))) #[true, true, true, true, true, true, true, true, true, true, true, true, true, false, false, false] [(0, .slice (some sBA) sN sC), (2, .int .i64 i), (3, .int .i64 j), (16, .slice (some sBA) sN sC), (17, .int .i64 j), (21, .int .u64 x), (25, .int .u64 x_2), (26, .pointer (some (sBA.add (Int.toNat i * 1))))] (indexAtN 28 (.slice (some sBA) sN sC) (.int .i64 i)) (fun _=>by kernel_rfl) (fun _ w _ _ _ => indexAt_run (P := Try.prog) (t := 28) (elem := 31) (sz := 1) (a := sBA) (len := sN) (cap := sC) (k := .i64) (i := i) Try.underlying28 (fun _=>by kernel_rfl) q10.1 q10.2 w) (by kernel_rfl) (by kernel_rfl) (by kernel_rfl) (by kernel_rfl) (by kernel_rfl) (by kernel_rfl) (ps (by kernel_rfl)) ?_
  obtain ⟨q12, h⟩ := h
  refine G_onlyskip 13 none #[true, true, true, true, true, true, true, true, true, true, true, true, true, true, false, false] (storeN 31 (.pointer (some (sBA.add (Int.toNat i * 1)))) (.int .u64 x)) (fun Hz => Hz = hputs H1 (sBA.add (Int.toNat i * 1)) [.int .u64 x] 0) (by kernel_rfl) (fun _=>by kernel_rfl) (ss_store [.int .u64 x] 1 (by kernel_rfl) (by kernel_rfl) (fun _=>by kernel_rfl) (by kernel_rfl) q12) (by kernel_rfl) ?_
  intro H2 e11
  replace h := h H2 e11
  refine ⟨[(0, .slice (some sBA) sN sC), (2, .int .i64 i), (3, .int .i64 j), (16, .slice (some sBA) sN sC), (17, .int .i64 j), (25, .int .u64 x_2)], ps (by kernel_rfl), (show FactsAt _ _ _ from ⟨trivial, trivial, trivial⟩), ?_⟩
  obtain ⟨q13, h⟩ := h
  refine G_take 14 (some 27) (.pointer (some (sBA.add (Int.toNat j * 1)))) #[true, true, true, true, true, true, true, true, true, true, true, true, true, true, true, false] [(0, .slice (some sBA) sN sC), (2, .int .i64 i), (3, .int .i64 j), (25, .int .u64 x_2), (27, .pointer (some (sBA.add (Int.toNat j * 1))))] (indexAtN 28 (.slice (some sBA) sN sC) (.int .i64 j)) (fun _=>by kernel_rfl) (fun _ w _ _ _ => indexAt_run (P := Try.prog) (t := 28) (elem := 31) (sz := 1) (a := sBA) (len := sN) (cap := sC) (k := .i64) (i := j) Try.underlying28 (fun _=>by kernel_rfl) q13.1 q13.2 w) (by kernel_rfl) (by kernel_rfl) (by kernel_rfl) (by kernel_rfl) (by kernel_rfl) (by kernel_rfl) (ps (by kernel_rfl)) ?_
  obtain ⟨q15, h⟩ := h
  refine G_onlyskip 15 none #[true, true, true, true, true, true, true, true, true, true, true, true, true, true, true, true] (storeN 31 (.pointer (some (sBA.add (Int.toNat j * 1)))) (.int .u64 x_2)) (fun Hz => Hz = hputs H2 (sBA.add (Int.toNat j * 1)) [.int .u64 x_2] 0) (by kernel_rfl) (fun _=>by kernel_rfl) (ss_store [.int .u64 x_2] 1 (by kernel_rfl) (by kernel_rfl) (fun _=>by kernel_rfl) (by kernel_rfl) q15) (by kernel_rfl) ?_
  intro H3 e14
  replace h := h H3 e14
  refine ⟨[(0, .slice (some sBA) sN sC), (2, .int .i64 i), (3, .int .i64 j)], ps (by kernel_rfl), (show FactsAt _ _ _ from ⟨trivial, trivial, trivial⟩), ?_⟩
  refine G_sub [(0, .slice (some sBA) sN sC), (2, .int .i64 i), (3, .int .i64 j)] (sb (by kernel_rfl)) ?_
  refine G_end (by kernel_rfl) ?_
  refine S_blockEnd ?_
  refine S_then ?_
  refine S_region 2 (Code.ops kk12) (by kernel_rfl) ?_
  refine N_run 6 [(0, .slice (some sBA) sN sC), (2, .int .i64 (IntKind.wrap .i64 (i + 1))), (3, .int .i64 (IntKind.wrap .i64 (j - 1)))] (fun _=>by kernel_rfl) ?_
  refine T_e ?_
  exact S_round (((IntKind.wrap .i64 (i + 1)), (IntKind.wrap .i64 (j - 1))) : Int × Int) (sb (by kernel_rfl)) h
 ·rw [if_neg c4] at h
  have b5 : (decide (i < j)) = false := decide_eq_false c4
  refine S_env [(0, .slice sB sN sC), (2, .int .i64 i), (3, .int .i64 j), (9, .bool false)] (by simp only [b5, Bool.not_true, Bool.not_false]) ?_
  clear b5
  refine S_condF (.tmp 9) kk9 kk10 (by kernel_rfl) (by kernel_rfl) ?_
  refine S_exit 0 (by kernel_rfl) ?_
  refine S_exitThen ?_
  refine S_exitThen ?_
  refine S_exitHere ?_
  exact S_doneN (fn := Try.f40) [] hQ (show ResOK _ _ _ [] _ from .nil) h
end slices_Reverse_api_Word_api_Word

/-! slices.Backward[[]moraine/api.Word,moraine/api.Word] -/
namespace slices_Backward_api_Word_api_Word
def kk0 := Func.code Try.f41
def kk1 := Code.fa kk0
def kk2 := Code.fb kk0
def kk3 := Code.fa kk2
def kk4 := Code.fb kk2
end slices_Backward_api_Word_api_Word
def slices_Backward_api_Word_api_Word.pt (sB : Option Addr) (sN : Nat) (sC : Nat) (H : Array Obj) (R : Value → Array Obj → Prop) : Prop :=
 ∀ (b : Nat) (H1 : Array Obj), b = H.size → H1 = H.push (.cells #[.slice sB sN sC] 28) →
 R (.func (.func 60) #[] #[.pointer (some (Addr.mk b 0 none))]) H1
namespace slices_Backward_api_Word_api_Word
set_option maxRecDepth 100000 in
theorem link {sB : Option Addr} {sN : Nat} {sC : Nat} {H : Array Obj} {R : Value → Array Obj → Prop} (h : pt sB sN sC H R) : C sB sN sC H R := by
 refine S_enter (fn := Try.f41) (c := kk0) 4 Try.func41 (by kernel_rfl) (by kernel_rfl) (Nat.le_of_ble_eq_true (by kernel_rfl)) ?_
 intro w0 Q hQ
 unfold pt at h
 refine S_sub [(0, .slice sB sN sC)] (sb (by kernel_rfl)) ?_
 refine T_sr 0 kk1 kk2 ?_
 refine N_new (some 1) (fun b => .pointer (some (Addr.mk b 0 none))) (.cells #[.slice sB sN sC] 28) (fun _=>by kernel_rfl) ?_
 intro b H1 e1 e2
 replace h := h b H1 e1 e2
 refine ⟨[(1, .pointer (some (Addr.mk b 0 none)))], ps (by kernel_rfl), ?_⟩
 refine N_run 1 [(1, .pointer (some (Addr.mk b 0 none)))] (fun _=>by kernel_rfl) ?_
 refine T_e ?_
 refine T_sr 1 kk3 kk4 ?_
 refine N_run 2 [(2, .func (.func 60) #[] #[.pointer (some (Addr.mk b 0 none))])] (fun _=>by kernel_rfl) ?_
 refine T_e ?_
 refine S_ret (by kernel_rfl) ?_
 show At _ _ _ _ _ (Q .ret)
 exact S_done (fn := Try.f41) [.func (.func 60) #[] #[.pointer (some (Addr.mk b 0 none))]] hQ (show ResOK _ _ _ [.tmp 2] _ from .tmp (by kernel_rfl) (.nil)) h
end slices_Backward_api_Word_api_Word

/-! slices.Contains[[]int,int] -/
namespace slices_Backward_api_Word_api_Word_1
def kk0 := Func.code Try.f60
def kk1 := Code.fa kk0
def kk2 := Code.fb kk0
def kk3 := Code.fa kk2
def kk4 := Code.fa kk3
def kk5 := Code.fa kk4
def kk6 := Code.fb kk4
def kk7 := Code.fa kk5
def kk8 := Code.fb kk5
def kk9 := Code.fa kk8
def kk10 := Code.fb kk8
def kk11 := Code.fa kk6
def kk12 := Code.fb kk6
def kk13 := Code.fa kk11
def kk14 := Code.fa kk13
def kk15 := Code.fb kk13
def kk16 := Code.fa kk15
def kk17 := Code.fb kk15
end slices_Backward_api_Word_api_Word_1
def slices_Backward_api_Word_api_Word_1.pt (yield : Value) (cap0 : Option Addr) (H : Array Obj) (R : Value → Array Obj → Prop) : Prop :=
 ∃ cap0A : Addr, cap0 = some cap0A ∧
 ∃ xB : Option Addr, ∃ xN : Nat, ∃ xC : Nat, hat H cap0A = some (.slice xB xN xC) ∧
 ∃ (I5 : Int → Array Obj → Prop) (m5 : Int → Array Obj → Nat), I5 (IntKind.wrap .i64 ((xN : Int) - 1)) H ∧ ∀ (i : Int) (H1 : Array Obj), I5 i H1 →
 if i ≥ 0 then (
 ∃ xB_2 : Option Addr, ∃ xN_2 : Nat, ∃ xC_2 : Nat, hat H1 cap0A = some (.slice xB_2 xN_2 xC_2) ∧
 ∃ xB2A : Addr, xB_2 = some xB2A ∧
 ((0 : Int) ≤ i ∧ i < (xN_2 : Int)) ∧
 ∃ x : Int, hat H1 (xB2A.add (Int.toNat i * 1)) = some (.int .u64 x) ∧
 FC Try.prog yield #[.int .i64 i, .int .u64 x] H1 (fun v H2 => ∃ x_2 : Bool, v = .bool x_2 ∧ 
 if x_2 = true then (
 (I5 (IntKind.wrap .i64 (i - 1)) H2 ∧ m5 (IntKind.wrap .i64 (i - 1)) H2 < m5 i H1))
 else
 R (.tuple #[]) H2))
 else
 R (.tuple #[]) H1
namespace slices_Backward_api_Word_api_Word_1
set_option maxRecDepth 100000 in
theorem link {yield : Value} {cap0 : Option Addr} {H : Array Obj} {R : Value → Array Obj → Prop} (h : pt yield cap0 H R) : C yield cap0 H R := by
 refine S_enter (fn := Try.f60) (c := kk0) 19 Try.func60 (by kernel_rfl) (by kernel_rfl) (Nat.le_of_ble_eq_true (by kernel_rfl)) ?_
 intro w0 Q hQ
 unfold pt at h
 refine S_sub [(0, yield), (1, .pointer cap0)] (sb (by kernel_rfl)) ?_
 refine T_sr 0 kk1 kk2 ?_
 obtain ⟨cap0A, rfl, h⟩ := h
 obtain ⟨xB, xN, xC, q1, h⟩ := h
 refine N_val (some 4) (loadN 28 (.pointer (some cap0A))) (.slice xB xN xC) (fun _=>by kernel_rfl) (loadN_run (loadOK_one (fun _=>by kernel_rfl) q1)) [(0, yield), (1, .pointer (some cap0A)), (4, .slice xB xN xC)] (ps (by kernel_rfl)) ?_
 refine N_run 3 [(0, yield), (1, .pointer (some cap0A)), (3, .int .i64 (IntKind.wrap .i64 ((xN : Int) - 1)))] (fun _=>by kernel_rfl) ?_
 refine T_e ?_
 refine S_block 0 kk3 (by kernel_rfl) ?_
 obtain ⟨I5, m5, i2, i3⟩ := h
 refine S_loop (x := kk4) (σ := Int) (fun s_ => [(0, yield), (1, .pointer (some cap0A)), (3, .int .i64 s_)]) (fun s_ H => I5 s_ H) (fun s_ H => m5 s_ H) ((IntKind.wrap .i64 ((xN : Int) - 1)) : Int) (by kernel_rfl) i2 (sb (by kernel_rfl)) ?_
 rintro i H1 i4
 have h := i3 i H1 i4
 refine S_sub [(0, yield), (1, .pointer (some cap0A)), (3, .int .i64 i)] (sb (by kernel_rfl)) ?_
 refine S_seq kk5 kk6 (by kernel_rfl) ?_
 refine T_sr 1 kk7 kk8 ?_
 refine N_run 2 [(0, yield), (1, .pointer (some cap0A)), (3, .int .i64 i), (8, .bool (decide (i ≥ 0)))] (fun _=>by kernel_rfl) ?_
 refine T_e ?_
 by_cases c5 : i ≥ 0
 ·rw [if_pos c5] at h
  have b6 : (decide (i ≥ 0)) = true := decide_eq_true c5
  refine S_env [(0, yield), (1, .pointer (some cap0A)), (3, .int .i64 i), (8, .bool true)] (by simp only [b6, Bool.not_true, Bool.not_false]) ?_
  clear b6
  refine S_condT (.tmp 8) kk9 kk10 (by kernel_rfl) (by kernel_rfl) ?_
  refine S_skip (by kernel_rfl) ?_
  refine S_then ?_
  refine S_seq kk11 kk12 (by kernel_rfl) ?_
  refine S_block 1 kk13 (by kernel_rfl) ?_
  refine T_sr 3 kk14 kk15 ?_
  refine N_run 2 [(0, yield), (1, .pointer (some cap0A)), (3, .int .i64 i), (11, yield), (12, .int .i64 i)] (fun _=>by kernel_rfl) ?_
  obtain ⟨xB_2, xN_2, xC_2, q7, h⟩ := h
  refine N_val (some 13) (loadN 28 (.pointer (some cap0A))) (.slice xB_2 xN_2 xC_2) (fun _=>by kernel_rfl) (loadN_run (loadOK_one (fun _=>by kernel_rfl) q7)) [(0, yield), (1, .pointer (some cap0A)), (3, .int .i64 i), (11, yield), (12, .int .i64 i), (13, .slice xB_2 xN_2 xC_2)] (ps (by kernel_rfl)) ?_
  refine N_run 1 [(0, yield), (1, .pointer (some cap0A)), (3, .int .i64 i), (11, yield), (12, .int .i64 i), (13, .slice xB_2 xN_2 xC_2), (14, .int .i64 i)] (fun _=>by kernel_rfl) ?_
  obtain ⟨xB2A, rfl, h⟩ := h
  obtain ⟨q8, h⟩ := h
  refine N_val (some 15) (indexAtN 28 (.slice (some xB2A) xN_2 xC_2) (.int .i64 i)) (.pointer (some (xB2A.add (Int.toNat i * 1)))) (fun _=>by kernel_rfl) (fun w _ => indexAt_run (P := Try.prog) (t := 28) (elem := 31) (sz := 1) (a := xB2A) (len := xN_2) (cap := xC_2) (k := .i64) (i := i) Try.underlying28 (fun _=>by kernel_rfl) q8.1 q8.2 w) [(0, yield), (1, .pointer (some cap0A)), (3, .int .i64 i), (11, yield), (12, .int .i64 i), (15, .pointer (some (xB2A.add (Int.toNat i * 1))))] (ps (by kernel_rfl)) ?_
  obtain ⟨x, q9, h⟩ := h
  refine N_val (some 16) (loadN 31 (.pointer (some (xB2A.add (Int.toNat i * 1))))) (.int .u64 x) (fun _=>by kernel_rfl) (loadN_run (loadOK_one (fun _=>by kernel_rfl) q9)) [(0, yield), (1, .pointer (some cap0A)), (3, .int .i64 i), (11, yield), (12, .int .i64 i), (16, .int .u64 x)] (ps (by kernel_rfl)) ?_
  refine N_callv (some 17) yield #[.int .i64 i, .int .u64 x] (fun _=>by kernel_rfl) h ?_; clear h
  rintro v H2 ⟨x_2, rfl, h⟩
  refine ⟨[(0, yield), (1, .pointer (some cap0A)), (3, .int .i64 i), (17, .bool x_2)], ps (by kernel_rfl), ?_⟩
  refine N_run 1 [(0, yield), (1, .pointer (some cap0A)), (3, .int .i64 i), (18, .bool (!x_2))] (fun _=>by kernel_rfl) ?_
  refine T_e ?_
  by_cases c10 : x_2 = true
  ·rw [if_pos c10] at h
   have b11 : (!x_2) = false := congrArg Bool.not (c10)
   have b112 : x_2 = true := c10
   refine S_env [(0, yield), (1, .pointer (some cap0A)), (3, .int .i64 i), (18, .bool false)] (by simp only [b11, b112, Bool.not_true, Bool.not_false]) ?_
   clear b11 b112
   refine S_condF (.tmp 18) kk16 kk17 (by kernel_rfl) (by kernel_rfl) ?_
   refine S_skip (by kernel_rfl) ?_
   refine S_blockEnd ?_
   refine S_then ?_
   refine S_region 2 (Code.ops kk12) (by kernel_rfl) ?_
   refine N_run 3 [(0, yield), (1, .pointer (some cap0A)), (3, .int .i64 (IntKind.wrap .i64 (i - 1)))] (fun _=>by kernel_rfl) ?_
   refine T_e ?_
   exact S_round ((IntKind.wrap .i64 (i - 1)) : Int) (sb (by kernel_rfl)) h
  ·rw [if_neg c10] at h
   have b11 : (!x_2) = true := congrArg Bool.not (eq_false_of_ne_true c10)
   have b112 : x_2 = false := eq_false_of_ne_true c10
   refine S_env [(0, yield), (1, .pointer (some cap0A)), (3, .int .i64 i), (18, .bool true)] (by simp only [b11, b112, Bool.not_true, Bool.not_false]) ?_
   clear b11 b112
   refine S_condT (.tmp 18) kk16 kk17 (by kernel_rfl) (by kernel_rfl) ?_
   refine S_ret (by kernel_rfl) ?_
   show At _ _ _ _ _ (Q .ret)
   exact S_done (fn := Try.f60) [] hQ (show ResOK _ _ _ [] _ from .nil) h
 ·rw [if_neg c5] at h
  have b6 : (decide (i ≥ 0)) = false := decide_eq_false c5
  refine S_env [(0, yield), (1, .pointer (some cap0A)), (3, .int .i64 i), (8, .bool false)] (by simp only [b6, Bool.not_true, Bool.not_false]) ?_
  clear b6
  refine S_condF (.tmp 8) kk9 kk10 (by kernel_rfl) (by kernel_rfl) ?_
  refine S_exit 0 (by kernel_rfl) ?_
  refine S_exitThen ?_
  refine S_exitThen ?_
  refine S_exitHere ?_
  exact S_doneN (fn := Try.f60) [] hQ (show ResOK _ _ _ [] _ from .nil) h
end slices_Backward_api_Word_api_Word_1

/-! slices.Index[[]int,int] -/
end Go.Proofs.Ythlohokmnajpoaa
