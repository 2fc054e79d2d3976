/-
 Written by a program of mine (gen.py): for functions of this translation a predicate transformer over heaps (.pt), and the proof that it is sound for the call (.link).
-/
import Derived.Test.YthlohokmnajpoaaGreatFnsC
set_option linter.unusedSimpArgs false
set_option linter.unusedVariables false
set_option maxHeartbeats 1000000
noncomputable section
namespace Go.Proofs.YthlohokmnajpoaaGreat
open Go
/-! slices.Reverse[[]moraine/api.Word,moraine/api.Word] -/
namespace slices_Reverse_api_Word_api_Word
def kk0 := Func.code Tryz.f36
def kk1 := Code.fa kk0
def kk2 := Code.fb kk0
def kk3 := Code.fa kk2
def kk4 := Code.fa kk3
def kk5 := Code.fa kk4
def kk6 := Code.fb kk4
def kk7 := Code.fa kk5
def kk8 := Code.fb kk5
def kk9 := Code.fa kk8
def kk10 := Code.fb kk8
def kk11 := Code.fa kk6
def kk12 := Code.fb kk6
def kk13 := Code.fa kk11
end slices_Reverse_api_Word_api_Word
def slices_Reverse_api_Word_api_Word.pt (sB : Option Addr) (sN : Nat) (sC : Nat) (H : Array Obj) (R : Value → Array Obj → Prop) : Prop :=
 ∃ (I5 : Int → Int → Array Obj → Prop) (m5 : Int → Int → Array Obj → Nat), I5 0 (IntKind.wrap .i64 ((sN : Int) - 1)) H ∧ ∀ (i : Int) (j : Int) (H1 : Array Obj), I5 i j H1 →
 if i < j then (
 ∃ sBA : Addr, sB = some sBA ∧
 ((0 : Int) ≤ j ∧ j < (sN : Int)) ∧
 ∃ x : Int, hat H1 (sBA.add (Int.toNat j * 1)) = some (.int .u64 x) ∧
 ((0 : Int) ≤ i ∧ i < (sN : Int)) ∧
 ∃ x_2 : Int, hat H1 (sBA.add (Int.toNat i * 1)) = some (.int .u64 x_2) ∧
 ((0 : Int) ≤ i ∧ i < (sN : Int)) ∧
 (CanPuts H1 (sBA.add (Int.toNat i * 1)) 0 1) ∧ ∀ H2 : Array Obj, H2 = hputs H1 (sBA.add (Int.toNat i * 1)) [.int .u64 x] 0 → 
 ((0 : Int) ≤ j ∧ j < (sN : Int)) ∧
 (CanPuts H2 (sBA.add (Int.toNat j * 1)) 0 1) ∧ ∀ H3 : Array Obj, H3 = hputs H2 (sBA.add (Int.toNat j * 1)) [.int .u64 x_2] 0 → 
 (I5 (IntKind.wrap .i64 (i + 1)) (IntKind.wrap .i64 (j - 1)) H3 ∧ m5 (IntKind.wrap .i64 (i + 1)) (IntKind.wrap .i64 (j - 1)) H3 < m5 i j H1))
 else
 R (.tuple #[]) H1
namespace slices_Reverse_api_Word_api_Word
set_option maxRecDepth 100000 in
theorem link {sB : Option Addr} {sN : Nat} {sC : Nat} {H : Array Obj} {R : Value → Array Obj → Prop} (h : pt sB sN sC H R) : C sB sN sC H R := by
 refine S_enter (fn := Tryz.f36) (c := kk0) 28 Tryz.func36 (by kernel_rfl) (by kernel_rfl) (Nat.le_of_ble_eq_true (by kernel_rfl)) ?_
 intro w0 Q hQ
 unfold pt at h
 refine S_sub [(0, .slice sB sN sC)] (sb (by kernel_rfl)) ?_
 refine T_sr 0 kk1 kk2 ?_
 refine N_run 5 [(0, .slice sB sN sC), (2, .int .i64 0), (3, .int .i64 (IntKind.wrap .i64 ((sN : Int) - 1)))] (fun _=>by kernel_rfl) ?_
 refine T_e ?_
 refine S_block 0 kk3 (by kernel_rfl) ?_
 obtain ⟨I5, m5, i1, i2⟩ := h
 refine S_loop (x := kk4) (σ := Int × Int) (fun s_ => [(0, .slice sB sN sC), (2, .int .i64 s_.1), (3, .int .i64 s_.2)]) (fun s_ H => I5 s_.1 s_.2 H) (fun s_ H => m5 s_.1 s_.2 H) ((0, (IntKind.wrap .i64 ((sN : Int) - 1))) : Int × Int) (by kernel_rfl) i1 (sb (by kernel_rfl)) ?_
 rintro ⟨i, j⟩ H1 i3
 have h := i2 i j H1 i3
 refine S_sub [(0, .slice sB sN sC), (2, .int .i64 i), (3, .int .i64 j)] (sb (by kernel_rfl)) ?_
 refine S_seq kk5 kk6 (by kernel_rfl) ?_
 refine T_sr 1 kk7 kk8 ?_
 refine N_run 3 [(0, .slice sB sN sC), (2, .int .i64 i), (3, .int .i64 j), (9, .bool (decide (i < j)))] (fun _=>by kernel_rfl) ?_
 refine T_e ?_
 by_cases c4 : i < j
 ·rw [if_pos c4] at h
  have b5 : (decide (i < j)) = true := decide_eq_true c4
  refine S_env [(0, .slice sB sN sC), (2, .int .i64 i), (3, .int .i64 j), (9, .bool true)] (by simp only [b5, Bool.not_true, Bool.not_false]) ?_
  clear b5
  refine S_condT (.tmp 9) kk9 kk10 (by kernel_rfl) (by kernel_rfl) ?_
  refine S_skip (by kernel_rfl) ?_
  refine S_then ?_
  refine S_seq kk11 kk12 (by kernel_rfl) ?_
  refine S_block 1 kk13 (by kernel_rfl) ?_
  obtain ⟨sBA, rfl, h⟩ := h
  obtain ⟨q6, h⟩ := h
  obtain ⟨x, q7, h⟩ := h
  obtain ⟨q8, h⟩ := h
  obtain ⟨x_2, q9, h⟩ := h
  obtain ⟨q10, h⟩ := h
  refine S_regionG 3 (Code.ops kk13) [(13, (sBA.add (Int.toNat j * 1)), [.int .u64 x]), (13, (sBA.add (Int.toNat i * 1)), [.int .u64 x_2])] 16 #[false, false, false, false, false, false, false, false, false, false, false, false, false, false, false, false] (by kernel_rfl) (by kernel_rfl) (by kernel_rfl) (by kernel_rfl) (by kernel_rfl) (show FactsAt _ _ _ from ⟨⟨q7, trivial⟩, ⟨q9, trivial⟩, trivial⟩) ?_
  refine G_take 0 (some 14) (.slice (some sBA) sN sC) #[true, false, false, false, false, false, false, false, false, false, false, false, false, false, false, false] [(0, .slice (some sBA) sN sC), (2, .int .i64 i), (3, .int .i64 j), (14, .slice (some sBA) sN sC)] ((pure (.value (.slice (some sBA) sN sC)) : Sem Next)) (fun _=>by kernel_rfl) (fun _ _ _ _ _ => rfl) (by kernel_rfl) (by kernel_rfl) (by kernel_rfl) (by kernel_rfl) (by kernel_rfl) (by kernel_rfl) (ps (by kernel_rfl)) ?_
  refine G_take 1 (some 15) (.int .i64 i) #[true, true, false, false, false, false, false, false, false, false, false, false, false, false, false, false] [(0, .slice (some sBA) sN sC), (2, .int .i64 i), (3, .int .i64 j), (14, .slice (some sBA) sN sC), (15, .int .i64 i)] ((pure (.value (.int .i64 i)) : Sem Next)) (fun _=>by kernel_rfl) (fun _ _ _ _ _ => rfl) (by kernel_rfl) (by kernel_rfl) (by kernel_rfl) (by kernel_rfl) (by kernel_rfl) (by kernel_rfl) (ps (by kernel_rfl)) ?_
  refine G_take 2 (some 16) (.slice (some sBA) sN sC) #[true, true, true, false, false, false, false, false, false, false, false, false, false, false, false, false] [(0, .slice (some sBA) sN sC), (2, .int .i64 i), (3, .int .i64 j), (14, .slice (some sBA) sN sC), (15, .int .i64 i), (16, .slice (some sBA) sN sC)] ((pure (.value (.slice (some sBA) sN sC)) : Sem Next)) (fun _=>by kernel_rfl) (fun _ _ _ _ _ => rfl) (by kernel_rfl) (by kernel_rfl) (by kernel_rfl) (by kernel_rfl) (by kernel_rfl) (by kernel_rfl) (ps (by kernel_rfl)) ?_
  refine G_take 3 (some 17) (.int .i64 j) #[true, true, true, true, false, false, false, false, false, false, false, false, false, false, false, false] [(0, .slice (some sBA) sN sC), (2, .int .i64 i), (3, .int .i64 j), (14, .slice (some sBA) sN sC), (15, .int .i64 i), (16, .slice (some sBA) sN sC), (17, .int .i64 j)] ((pure (.value (.int .i64 j)) : Sem Next)) (fun _=>by kernel_rfl) (fun _ _ _ _ _ => rfl) (by kernel_rfl) (by kernel_rfl) (by kernel_rfl) (by kernel_rfl) (by kernel_rfl) (by kernel_rfl) (ps (by kernel_rfl)) ?_
  refine G_take 4 (some 18) (.slice (some sBA) sN sC) #[true, true, true, true, true, false, false, false, false, false, false, false, false, false, false, false] [(0, .slice (some sBA) sN sC), (2, .int .i64 i), (3, .int .i64 j), (14, .slice (some sBA) sN sC), (15, .int .i64 i), (16, .slice (some sBA) sN sC), (17, .int .i64 j), (18, .slice (some sBA) sN sC)] ((pure (.value (.slice (some sBA) sN sC)) : Sem Next)) (fun _=>by kernel_rfl) (fun _ _ _ _ _ => rfl) (by kernel_rfl) (by kernel_rfl) (by kernel_rfl) (by kernel_rfl) (by kernel_rfl) (by kernel_rfl) (ps (by kernel_rfl)) ?_
  refine G_take 5 (some 19) (.int .i64 j) #[true, true, true, true, true, true, false, false, false, false, false, false, false, false, false, false] [(0, .slice (some sBA) sN sC), (2, .int .i64 i), (3, .int .i64 j), (14, .slice (some sBA) sN sC), (15, .int .i64 i), (16, .slice (some sBA) sN sC), (17, .int .i64 j), (18, .slice (some sBA) sN sC), (19, .int .i64 j)] ((pure (.value (.int .i64 j)) : Sem Next)) (fun _=>by kernel_rfl) (fun _ _ _ _ _ => rfl) (by kernel_rfl) (by kernel_rfl) (by kernel_rfl) (by kernel_rfl) (by kernel_rfl) (by kernel_rfl) (ps (by kernel_rfl)) ?_
  refine G_take 6 (some 20) (.pointer (some (sBA.add (Int.toNat j * 1)))) #[true, true, true, true, true, true, true, false, false, false, false, false, false, false, false, false] [(0, .slice (some sBA) sN sC), (2, .int .i64 i), (3, .int .i64 j), (14, .slice (some sBA) sN sC), (15, .int .i64 i), (16, .slice (some sBA) sN sC), (17, .int .i64 j), (20, .pointer (some (sBA.add (Int.toNat j * 1))))] (indexAtN 22 (.slice (some sBA) sN sC) (.int .i64 j)) (fun _=>by kernel_rfl) (fun _ w _ _ _ => indexAt_run (P := Tryz.prog) (t := 22) (elem := 26) (sz := 1) (a := sBA) (len := sN) (cap := sC) (k := .i64) (i := j) Tryz.underlying22 (fun _=>by kernel_rfl) q6.1 q6.2 w) (by kernel_rfl) (by kernel_rfl) (by kernel_rfl) (by kernel_rfl) (by kernel_rfl) (by kernel_rfl) (ps (by kernel_rfl)) ?_
  refine G_take 7 (some 21) (.int .u64 x) #[true, true, true, true, true, true, true, true, false, false, false, false, false, false, false, false] [(0, .slice (some sBA) sN sC), (2, .int .i64 i), (3, .int .i64 j), (14, .slice (some sBA) sN sC), (15, .int .i64 i), (16, .slice (some sBA) sN sC), (17, .int .i64 j), (21, .int .u64 x)] (loadN 26 (.pointer (some (sBA.add (Int.toNat j * 1))))) (fun _=>by kernel_rfl) (held_one 13 (fun _=>by kernel_rfl) (List.Mem.head _) (.inl (by kernel_rfl))) (by kernel_rfl) (by kernel_rfl) (by kernel_rfl) (by kernel_rfl) (by kernel_rfl) (by kernel_rfl) (ps (by kernel_rfl)) ?_
  refine G_take 8 (some 22) (.slice (some sBA) sN sC) #[true, true, true, true, true, true, true, true, true, false, false, false, false, false, false, false] [(0, .slice (some sBA) sN sC), (2, .int .i64 i), (3, .int .i64 j), (14, .slice (some sBA) sN sC), (15, .int .i64 i), (16, .slice (some sBA) sN sC), (17, .int .i64 j), (21, .int .u64 x), (22, .slice (some sBA) sN sC)] ((pure (.value (.slice (some sBA) sN sC)) : Sem Next)) (fun _=>by kernel_rfl) (fun _ _ _ _ _ => rfl) (by kernel_rfl) (by kernel_rfl) (by kernel_rfl) (by kernel_rfl) (by kernel_rfl) (by kernel_rfl) (ps (by kernel_rfl)) ?_
  refine G_take 9 (some 23) (.int .i64 i) #[true, true, true, true, true, true, true, true, true, true, false, false, false, false, false, false] [(0, .slice (some sBA) sN sC), (2, .int .i64 i), (3, .int .i64 j), (14, .slice (some sBA) sN sC), (15, .int .i64 i), (16, .slice (some sBA) sN sC), (17, .int .i64 j), (21, .int .u64 x), (22, .slice (some sBA) sN sC), (23, .int .i64 i)] ((pure (.value (.int .i64 i)) : Sem Next)) (fun _=>by kernel_rfl) (fun _ _ _ _ _ => rfl) (by kernel_rfl) (by kernel_rfl) (by kernel_rfl) (by kernel_rfl) (by kernel_rfl) (by kernel_rfl) (ps (by kernel_rfl)) ?_
  refine G_take 10 (some 24) (.pointer (some (sBA.add (Int.toNat i * 1)))) #[true, true, true, true, true, true, true, true, true, true, true, false, false, false, false, false] [(0, .slice (some sBA) sN sC), (2, .int .i64 i), (3, .int .i64 j), (14, .slice (some sBA) sN sC), (15, .int .i64 i), (16, .slice (some sBA) sN sC), (17, .int .i64 j), (21, .int .u64 x), (24, .pointer (some (sBA.add (Int.toNat i * 1))))] (indexAtN 22 (.slice (some sBA) sN sC) (.int .i64 i)) (fun _=>by kernel_rfl) (fun _ w _ _ _ => indexAt_run (P := Tryz.prog) (t := 22) (elem := 26) (sz := 1) (a := sBA) (len := sN) (cap := sC) (k := .i64) (i := i) Tryz.underlying22 (fun _=>by kernel_rfl) q8.1 q8.2 w) (by kernel_rfl) (by kernel_rfl) (by kernel_rfl) (by kernel_rfl) (by kernel_rfl) (by kernel_rfl) (ps (by kernel_rfl)) ?_
  refine G_take 11 (some 25) (.int .u64 x_2) #[true, true, true, true, true, true, true, true, true, true, true, true, false, false, false, false] [(0, .slice (some sBA) sN sC), (2, .int .i64 i), (3, .int .i64 j), (14, .slice (some sBA) sN sC), (15, .int .i64 i), (16, .slice (some sBA) sN sC), (17, .int .i64 j), (21, .int .u64 x), (25, .int .u64 x_2)] (loadN 26 (.pointer (some (sBA.add (Int.toNat i * 1))))) (fun _=>by kernel_rfl) (held_one 13 (fun _=>by kernel_rfl) (List.Mem.tail _ (List.Mem.head _)) (.inl (by kernel_rfl))) (by kernel_rfl) (by kernel_rfl) (by kernel_rfl) (by kernel_rfl) (by kernel_rfl) (by kernel_rfl) (ps (by kernel_rfl)) ?_
  refine G_take 12 (some 26) (.pointer (some (sBA.add (Int.toNat i * 1)))) #[true, true, true, true, true, true, true, true, true, true, true, true, true, false, false, false] [(0, .slice (some sBA) sN sC), (2, .int .i64 i), (3, .int .i64 j), (16, .slice (some sBA) sN sC), (17, .int .i64 j), (21, .int .u64 x), (25, .int .u64 x_2), (26, .pointer (some (sBA.add (Int.toNat i * 1))))] (indexAtN 22 (.slice (some sBA) sN sC) (.int .i64 i)) (fun _=>by kernel_rfl) (fun _ w _ _ _ => indexAt_run (P := Tryz.prog) (t := 22) (elem := 26) (sz := 1) (a := sBA) (len := sN) (cap := sC) (k := .i64) (i := i) Tryz.underlying22 (fun _=>by kernel_rfl) q10.1 q10.2 w) (by kernel_rfl) (by kernel_rfl) (by kernel_rfl) (by kernel_rfl) (by kernel_rfl) (by kernel_rfl) (ps (by kernel_rfl)) ?_
  obtain ⟨q12, h⟩ := h
  refine G_onlyskip 13 none #[true, true, true, true, true, true, true, true, true, true, true, true, true, true, false, false] (storeN 26 (.pointer (some (sBA.add (Int.toNat i * 1)))) (.int .u64 x)) (fun Hz => Hz = hputs H1 (sBA.add (Int.toNat i * 1)) [.int .u64 x] 0) (by kernel_rfl) (fun _=>by kernel_rfl) (ss_store [.int .u64 x] 1 (by kernel_rfl) (by kernel_rfl) (fun _=>by kernel_rfl) (by kernel_rfl) q12) (by kernel_rfl) ?_
  intro H2 e11
  replace h := h H2 e11
  refine ⟨[(0, .slice (some sBA) sN sC), (2, .int .i64 i), (3, .int .i64 j), (16, .slice (some sBA) sN sC), (17, .int .i64 j), (25, .int .u64 x_2)], ps (by kernel_rfl), (show FactsAt _ _ _ from ⟨trivial, trivial, trivial⟩), ?_⟩
  obtain ⟨q13, h⟩ := h
  refine G_take 14 (some 27) (.pointer (some (sBA.add (Int.toNat j * 1)))) #[true, true, true, true, true, true, true, true, true, true, true, true, true, true, true, false] [(0, .slice (some sBA) sN sC), (2, .int .i64 i), (3, .int .i64 j), (25, .int .u64 x_2), (27, .pointer (some (sBA.add (Int.toNat j * 1))))] (indexAtN 22 (.slice (some sBA) sN sC) (.int .i64 j)) (fun _=>by kernel_rfl) (fun _ w _ _ _ => indexAt_run (P := Tryz.prog) (t := 22) (elem := 26) (sz := 1) (a := sBA) (len := sN) (cap := sC) (k := .i64) (i := j) Tryz.underlying22 (fun _=>by kernel_rfl) q13.1 q13.2 w) (by kernel_rfl) (by kernel_rfl) (by kernel_rfl) (by kernel_rfl) (by kernel_rfl) (by kernel_rfl) (ps (by kernel_rfl)) ?_
  obtain ⟨q15, h⟩ := h
  refine G_onlyskip 15 none #[true, true, true, true, true, true, true, true, true, true, true, true, true, true, true, true] (storeN 26 (.pointer (some (sBA.add (Int.toNat j * 1)))) (.int .u64 x_2)) (fun Hz => Hz = hputs H2 (sBA.add (Int.toNat j * 1)) [.int .u64 x_2] 0) (by kernel_rfl) (fun _=>by kernel_rfl) (ss_store [.int .u64 x_2] 1 (by kernel_rfl) (by kernel_rfl) (fun _=>by kernel_rfl) (by kernel_rfl) q15) (by kernel_rfl) ?_
  intro H3 e14
  replace h := h H3 e14
  refine ⟨[(0, .slice (some sBA) sN sC), (2, .int .i64 i), (3, .int .i64 j)], ps (by kernel_rfl), (show FactsAt _ _ _ from ⟨trivial, trivial, trivial⟩), ?_⟩
  refine G_sub [(0, .slice (some sBA) sN sC), (2, .int .i64 i), (3, .int .i64 j)] (sb (by kernel_rfl)) ?_
  refine G_end (by kernel_rfl) ?_
  refine S_blockEnd ?_
  refine S_then ?_
  refine S_region 2 (Code.ops kk12) (by kernel_rfl) ?_
  refine N_run 6 [(0, .slice (some sBA) sN sC), (2, .int .i64 (IntKind.wrap .i64 (i + 1))), (3, .int .i64 (IntKind.wrap .i64 (j - 1)))] (fun _=>by kernel_rfl) ?_
  refine T_e ?_
  exact S_round (((IntKind.wrap .i64 (i + 1)), (IntKind.wrap .i64 (j - 1))) : Int × Int) (sb (by kernel_rfl)) h
 ·rw [if_neg c4] at h
  have b5 : (decide (i < j)) = false := decide_eq_false c4
  refine S_env [(0, .slice sB sN sC), (2, .int .i64 i), (3, .int .i64 j), (9, .bool false)] (by simp only [b5, Bool.not_true, Bool.not_false]) ?_
  clear b5
  refine S_condF (.tmp 9) kk9 kk10 (by kernel_rfl) (by kernel_rfl) ?_
  refine S_exit 0 (by kernel_rfl) ?_
  refine S_exitThen ?_
  refine S_exitThen ?_
  refine S_exitHere ?_
  exact S_doneN (fn := Tryz.f36) [] hQ (show ResOK _ _ _ [] _ from .nil) h
end slices_Reverse_api_Word_api_Word

/-! slices.Backward[[]moraine/api.Word,moraine/api.Word] -/
namespace slices_Backward_api_Word_api_Word
def kk0 := Func.code Tryz.f37
def kk1 := Code.fa kk0
def kk2 := Code.fb kk0
def kk3 := Code.fa kk2
def kk4 := Code.fb kk2
end slices_Backward_api_Word_api_Word
def slices_Backward_api_Word_api_Word.pt (sB : Option Addr) (sN : Nat) (sC : Nat) (H : Array Obj) (R : Value → Array Obj → Prop) : Prop :=
 ∀ (b : Nat) (H1 : Array Obj), b = H.size → H1 = H.push (.cells #[.slice sB sN sC] 22) →
 R (.func (.func 57) #[] #[.pointer (some (Addr.mk b 0 none))]) H1
namespace slices_Backward_api_Word_api_Word
set_option maxRecDepth 100000 in
theorem link {sB : Option Addr} {sN : Nat} {sC : Nat} {H : Array Obj} {R : Value → Array Obj → Prop} (h : pt sB sN sC H R) : C sB sN sC H R := by
 refine S_enter (fn := Tryz.f37) (c := kk0) 4 Tryz.func37 (by kernel_rfl) (by kernel_rfl) (Nat.le_of_ble_eq_true (by kernel_rfl)) ?_
 intro w0 Q hQ
 unfold pt at h
 refine S_sub [(0, .slice sB sN sC)] (sb (by kernel_rfl)) ?_
 refine T_sr 0 kk1 kk2 ?_
 refine N_new (some 1) (fun b => .pointer (some (Addr.mk b 0 none))) (.cells #[.slice sB sN sC] 22) (fun _=>by kernel_rfl) ?_
 intro b H1 e1 e2
 replace h := h b H1 e1 e2
 refine ⟨[(1, .pointer (some (Addr.mk b 0 none)))], ps (by kernel_rfl), ?_⟩
 refine N_run 1 [(1, .pointer (some (Addr.mk b 0 none)))] (fun _=>by kernel_rfl) ?_
 refine T_e ?_
 refine T_sr 1 kk3 kk4 ?_
 refine N_run 2 [(2, .func (.func 57) #[] #[.pointer (some (Addr.mk b 0 none))])] (fun _=>by kernel_rfl) ?_
 refine T_e ?_
 refine S_ret (by kernel_rfl) ?_
 show At _ _ _ _ _ (Q .ret)
 exact S_done (fn := Tryz.f37) [.func (.func 57) #[] #[.pointer (some (Addr.mk b 0 none))]] hQ (show ResOK _ _ _ [.tmp 2] _ from .tmp (by kernel_rfl) (.nil)) h
end slices_Backward_api_Word_api_Word

/-! slices.Contains[[]int,int] -/
namespace slices_Contains_int_int
def kk0 := Func.code Tryz.f43
def kk1 := Code.fa kk0
def kk2 := Code.fb kk0
def kk3 := Code.fa kk2
def kk4 := Code.fb kk2
end slices_Contains_int_int
def slices_Contains_int_int.pt (sB : Option Addr) (sN : Nat) (sC : Nat) (v : Int) (H : Array Obj) (R : Value → Array Obj → Prop) : Prop :=
 slices_Index_int_int.C sB sN sC v H (fun v_2 H1 => ∃ x : Int, v_2 = .int .i64 x ∧ 
 R (.bool (decide (x ≥ 0))) H1)
namespace slices_Contains_int_int
set_option maxRecDepth 100000 in
theorem link {sB : Option Addr} {sN : Nat} {sC : Nat} {v : Int} {H : Array Obj} {R : Value → Array Obj → Prop} (h : pt sB sN sC v H R) : C sB sN sC v H R := by
 refine S_enter (fn := Tryz.f43) (c := kk0) 9 Tryz.func43 (by kernel_rfl) (by kernel_rfl) (Nat.le_of_ble_eq_true (by kernel_rfl)) ?_
 intro w0 Q hQ
 unfold pt at h
 refine S_sub [(0, .slice sB sN sC), (1, .int .i64 v)] (sb (by kernel_rfl)) ?_
 refine T_sr 0 kk1 kk2 ?_
 refine N_run 1 [(0, .slice sB sN sC), (1, .int .i64 v)] (fun _=>by kernel_rfl) ?_
 refine T_e ?_
 refine T_sr 1 kk3 kk4 ?_
 refine N_run 2 [(5, .slice sB sN sC), (6, .int .i64 v)] (fun _=>by kernel_rfl) ?_
 refine N_call (some 7) 66 #[.slice sB sN sC, .int .i64 v] (fun _=>by kernel_rfl) h ?_; clear h
 rintro v_2 H1 ⟨x, rfl, h⟩
 refine ⟨[(7, .int .i64 x)], ps (by kernel_rfl), ?_⟩
 refine N_run 2 [(4, .bool (decide (x ≥ 0)))] (fun _=>by kernel_rfl) ?_
 refine T_e ?_
 refine S_ret (by kernel_rfl) ?_
 show At _ _ _ _ _ (Q .ret)
 exact S_done (fn := Tryz.f43) [.bool (decide (x ≥ 0))] hQ (show ResOK _ _ _ [.tmp 4] _ from .tmp (by kernel_rfl) (.nil)) h
end slices_Contains_int_int

/-! slices.Backward[[]moraine/api.Word,moraine/api.Word].1 -/
namespace slices_Backward_api_Word_api_Word_1
def kk0 := Func.code Tryz.f57
def kk1 := Code.fa kk0
def kk2 := Code.fb kk0
def kk3 := Code.fa kk2
def kk4 := Code.fa kk3
def kk5 := Code.fa kk4
def kk6 := Code.fb kk4
def kk7 := Code.fa kk5
def kk8 := Code.fb kk5
def kk9 := Code.fa kk8
def kk10 := Code.fb kk8
def kk11 := Code.fa kk6
def kk12 := Code.fb kk6
def kk13 := Code.fa kk11
def kk14 := Code.fa kk13
def kk15 := Code.fb kk13
def kk16 := Code.fa kk15
def kk17 := Code.fb kk15
end slices_Backward_api_Word_api_Word_1
def slices_Backward_api_Word_api_Word_1.pt (yield : Value) (cap0 : Option Addr) (H : Array Obj) (R : Value → Array Obj → Prop) : Prop :=
 ∃ cap0A : Addr, cap0 = some cap0A ∧
 ∃ xB : Option Addr, ∃ xN : Nat, ∃ xC : Nat, hat H cap0A = some (.slice xB xN xC) ∧
 ∃ (I5 : Int → Array Obj → Prop) (m5 : Int → Array Obj → Nat), I5 (IntKind.wrap .i64 ((xN : Int) - 1)) H ∧ ∀ (i : Int) (H1 : Array Obj), I5 i H1 →
 if i ≥ 0 then (
 ∃ xB_2 : Option Addr, ∃ xN_2 : Nat, ∃ xC_2 : Nat, hat H1 cap0A = some (.slice xB_2 xN_2 xC_2) ∧
 ∃ xB2A : Addr, xB_2 = some xB2A ∧
 ((0 : Int) ≤ i ∧ i < (xN_2 : Int)) ∧
 ∃ x : Int, hat H1 (xB2A.add (Int.toNat i * 1)) = some (.int .u64 x) ∧
 FC Tryz.prog yield #[.int .i64 i, .int .u64 x] H1 (fun v H2 => ∃ x_2 : Bool, v = .bool x_2 ∧ 
 if x_2 = true then (
 (I5 (IntKind.wrap .i64 (i - 1)) H2 ∧ m5 (IntKind.wrap .i64 (i - 1)) H2 < m5 i H1))
 else
 R (.tuple #[]) H2))
 else
 R (.tuple #[]) H1
namespace slices_Backward_api_Word_api_Word_1
set_option maxRecDepth 100000 in
theorem link {yield : Value} {cap0 : Option Addr} {H : Array Obj} {R : Value → Array Obj → Prop} (h : pt yield cap0 H R) : C yield cap0 H R := by
 refine S_enter (fn := Tryz.f57) (c := kk0) 19 Tryz.func57 (by kernel_rfl) (by kernel_rfl) (Nat.le_of_ble_eq_true (by kernel_rfl)) ?_
 intro w0 Q hQ
 unfold pt at h
 refine S_sub [(0, yield), (1, .pointer cap0)] (sb (by kernel_rfl)) ?_
 refine T_sr 0 kk1 kk2 ?_
 obtain ⟨cap0A, rfl, h⟩ := h
 obtain ⟨xB, xN, xC, q1, h⟩ := h
 refine N_val (some 4) (loadN 22 (.pointer (some cap0A))) (.slice xB xN xC) (fun _=>by kernel_rfl) (loadN_run (loadOK_one (fun _=>by kernel_rfl) q1)) [(0, yield), (1, .pointer (some cap0A)), (4, .slice xB xN xC)] (ps (by kernel_rfl)) ?_
 refine N_run 3 [(0, yield), (1, .pointer (some cap0A)), (3, .int .i64 (IntKind.wrap .i64 ((xN : Int) - 1)))] (fun _=>by kernel_rfl) ?_
 refine T_e ?_
 refine S_block 0 kk3 (by kernel_rfl) ?_
 obtain ⟨I5, m5, i2, i3⟩ := h
 refine S_loop (x := kk4) (σ := Int) (fun s_ => [(0, yield), (1, .pointer (some cap0A)), (3, .int .i64 s_)]) (fun s_ H => I5 s_ H) (fun s_ H => m5 s_ H) ((IntKind.wrap .i64 ((xN : Int) - 1)) : Int) (by kernel_rfl) i2 (sb (by kernel_rfl)) ?_
 rintro i H1 i4
 have h := i3 i H1 i4
 refine S_sub [(0, yield), (1, .pointer (some cap0A)), (3, .int .i64 i)] (sb (by kernel_rfl)) ?_
 refine S_seq kk5 kk6 (by kernel_rfl) ?_
 refine T_sr 1 kk7 kk8 ?_
 refine N_run 2 [(0, yield), (1, .pointer (some cap0A)), (3, .int .i64 i), (8, .bool (decide (i ≥ 0)))] (fun _=>by kernel_rfl) ?_
 refine T_e ?_
 by_cases c5 : i ≥ 0
 ·rw [if_pos c5] at h
  have b6 : (decide (i ≥ 0)) = true := decide_eq_true c5
  refine S_env [(0, yield), (1, .pointer (some cap0A)), (3, .int .i64 i), (8, .bool true)] (by simp only [b6, Bool.not_true, Bool.not_false]) ?_
  clear b6
  refine S_condT (.tmp 8) kk9 kk10 (by kernel_rfl) (by kernel_rfl) ?_
  refine S_skip (by kernel_rfl) ?_
  refine S_then ?_
  refine S_seq kk11 kk12 (by kernel_rfl) ?_
  refine S_block 1 kk13 (by kernel_rfl) ?_
  refine T_sr 3 kk14 kk15 ?_
  refine N_run 2 [(0, yield), (1, .pointer (some cap0A)), (3, .int .i64 i), (11, yield), (12, .int .i64 i)] (fun _=>by kernel_rfl) ?_
  obtain ⟨xB_2, xN_2, xC_2, q7, h⟩ := h
  refine N_val (some 13) (loadN 22 (.pointer (some cap0A))) (.slice xB_2 xN_2 xC_2) (fun _=>by kernel_rfl) (loadN_run (loadOK_one (fun _=>by kernel_rfl) q7)) [(0, yield), (1, .pointer (some cap0A)), (3, .int .i64 i), (11, yield), (12, .int .i64 i), (13, .slice xB_2 xN_2 xC_2)] (ps (by kernel_rfl)) ?_
  refine N_run 1 [(0, yield), (1, .pointer (some cap0A)), (3, .int .i64 i), (11, yield), (12, .int .i64 i), (13, .slice xB_2 xN_2 xC_2), (14, .int .i64 i)] (fun _=>by kernel_rfl) ?_
  obtain ⟨xB2A, rfl, h⟩ := h
  obtain ⟨q8, h⟩ := h
  refine N_val (some 15) (indexAtN 22 (.slice (some xB2A) xN_2 xC_2) (.int .i64 i)) (.pointer (some (xB2A.add (Int.toNat i * 1)))) (fun _=>by kernel_rfl) (fun w _ => indexAt_run (P := Tryz.prog) (t := 22) (elem := 26) (sz := 1) (a := xB2A) (len := xN_2) (cap := xC_2) (k := .i64) (i := i) Tryz.underlying22 (fun _=>by kernel_rfl) q8.1 q8.2 w) [(0, yield), (1, .pointer (some cap0A)), (3, .int .i64 i), (11, yield), (12, .int .i64 i), (15, .pointer (some (xB2A.add (Int.toNat i * 1))))] (ps (by kernel_rfl)) ?_
  obtain ⟨x, q9, h⟩ := h
  refine N_val (some 16) (loadN 26 (.pointer (some (xB2A.add (Int.toNat i * 1))))) (.int .u64 x) (fun _=>by kernel_rfl) (loadN_run (loadOK_one (fun _=>by kernel_rfl) q9)) [(0, yield), (1, .pointer (some cap0A)), (3, .int .i64 i), (11, yield), (12, .int .i64 i), (16, .int .u64 x)] (ps (by kernel_rfl)) ?_
  refine N_callv (some 17) yield #[.int .i64 i, .int .u64 x] (fun _=>by kernel_rfl) h ?_; clear h
  rintro v H2 ⟨x_2, rfl, h⟩
  refine ⟨[(0, yield), (1, .pointer (some cap0A)), (3, .int .i64 i), (17, .bool x_2)], ps (by kernel_rfl), ?_⟩
  refine N_run 1 [(0, yield), (1, .pointer (some cap0A)), (3, .int .i64 i), (18, .bool (!x_2))] (fun _=>by kernel_rfl) ?_
  refine T_e ?_
  by_cases c10 : x_2 = true
  ·rw [if_pos c10] at h
   have b11 : (!x_2) = false := congrArg Bool.not (c10)
   have b112 : x_2 = true := c10
   refine S_env [(0, yield), (1, .pointer (some cap0A)), (3, .int .i64 i), (18, .bool false)] (by simp only [b11, b112, Bool.not_true, Bool.not_false]) ?_
   clear b11 b112
   refine S_condF (.tmp 18) kk16 kk17 (by kernel_rfl) (by kernel_rfl) ?_
   refine S_skip (by kernel_rfl) ?_
   refine S_blockEnd ?_
   refine S_then ?_
   refine S_region 2 (Code.ops kk12) (by kernel_rfl) ?_
   refine N_run 3 [(0, yield), (1, .pointer (some cap0A)), (3, .int .i64 (IntKind.wrap .i64 (i - 1)))] (fun _=>by kernel_rfl) ?_
   refine T_e ?_
   exact S_round ((IntKind.wrap .i64 (i - 1)) : Int) (sb (by kernel_rfl)) h
  ·rw [if_neg c10] at h
   have b11 : (!x_2) = true := congrArg Bool.not (eq_false_of_ne_true c10)
   have b112 : x_2 = false := eq_false_of_ne_true c10
   refine S_env [(0, yield), (1, .pointer (some cap0A)), (3, .int .i64 i), (18, .bool true)] (by simp only [b11, b112, Bool.not_true, Bool.not_false]) ?_
   clear b11 b112
   refine S_condT (.tmp 18) kk16 kk17 (by kernel_rfl) (by kernel_rfl) ?_
   refine S_ret (by kernel_rfl) ?_
   show At _ _ _ _ _ (Q .ret)
   exact S_done (fn := Tryz.f57) [] hQ (show ResOK _ _ _ [] _ from .nil) h
 ·rw [if_neg c5] at h
  have b6 : (decide (i ≥ 0)) = false := decide_eq_false c5
  refine S_env [(0, yield), (1, .pointer (some cap0A)), (3, .int .i64 i), (8, .bool false)] (by simp only [b6, Bool.not_true, Bool.not_false]) ?_
  clear b6
  refine S_condF (.tmp 8) kk9 kk10 (by kernel_rfl) (by kernel_rfl) ?_
  refine S_exit 0 (by kernel_rfl) ?_
  refine S_exitThen ?_
  refine S_exitThen ?_
  refine S_exitHere ?_
  exact S_doneN (fn := Tryz.f57) [] hQ (show ResOK _ _ _ [] _ from .nil) h
end slices_Backward_api_Word_api_Word_1

/-! slices.Equal[[]moraine/api.Word,moraine/api.Word] -/
namespace slices_Index_int_int
def kk0 := Func.code Tryz.f66
def kk1 := Code.fa kk0
def kk2 := Code.fb kk0
def kk3 := Code.fa kk2
def kk4 := Code.fb kk2
def kk5 := Code.fa kk3
def kk6 := Code.fb kk3
def kk7 := Code.fa kk6
def kk8 := Code.fa kk7
def kk9 := Code.fa kk8
def kk10 := Code.fb kk8
def kk11 := Code.fa kk10
def kk12 := Code.fb kk10
def kk13 := Code.fa kk11
def kk14 := Code.fb kk11
def kk15 := Code.fa kk12
def kk16 := Code.fb kk12
def kk17 := Code.fa kk15
def kk18 := Code.fa kk17
def kk19 := Code.fb kk17
def kk20 := Code.fa kk19
def kk21 := Code.fb kk19
def kk22 := Code.fa kk21
def kk23 := Code.fb kk21
def kk24 := Code.fa kk22
def kk25 := Code.fb kk22
def kk26 := Code.fa kk4
def kk27 := Code.fb kk4
end slices_Index_int_int
def slices_Index_int_int.pt (sB : Option Addr) (sN : Nat) (sC : Nat) (v : Int) (H : Array Obj) (R : Value → Array Obj → Prop) : Prop :=
 ∃ (I9 : Int → Array Obj → Prop) (m9 : Int → Array Obj → Nat), I9 0 H ∧ ∀ (s8 : Int) (H1 : Array Obj), I9 s8 H1 →
 if s8 < (sN : Int) then (
 ∃ sBA : Addr, sB = some sBA ∧
 ((0 : Int) ≤ s8 ∧ s8 < (sN : Int)) ∧
 ∃ x : Int, hat H1 (sBA.add (Int.toNat s8 * 1)) = some (.int .i64 x) ∧
 if v = x then (
 R (.int .i64 s8) H1)
 else
 (I9 (IntKind.wrap .i64 (s8 + 1)) H1 ∧ m9 (IntKind.wrap .i64 (s8 + 1)) H1 < m9 s8 H1))
 else
 R (.int .i64 (-1)) H1
namespace slices_Index_int_int
set_option maxRecDepth 100000 in
theorem link {sB : Option Addr} {sN : Nat} {sC : Nat} {v : Int} {H : Array Obj} {R : Value → Array Obj → Prop} (h : pt sB sN sC v H R) : C sB sN sC v H R := by
 refine S_enter (fn := Tryz.f66) (c := kk0) 19 Tryz.func66 (by kernel_rfl) (by kernel_rfl) (Nat.le_of_ble_eq_true (by kernel_rfl)) ?_
 intro w0 Q hQ
 unfold pt at h
 refine S_sub [(0, .slice sB sN sC), (1, .int .i64 v)] (sb (by kernel_rfl)) ?_
 refine T_sr 0 kk1 kk2 ?_
 refine N_run 1 [(0, .slice sB sN sC), (1, .int .i64 v)] (fun _=>by kernel_rfl) ?_
 refine T_e ?_
 refine S_seq kk3 kk4 (by kernel_rfl) ?_
 refine T_sr 1 kk5 kk6 ?_
 refine N_run 3 [(0, .slice sB sN sC), (1, .int .i64 v), (7, .int .i64 (sN : Int)), (8, .int .i64 0)] (fun _=>by kernel_rfl) ?_
 refine T_e ?_
 refine S_block 0 kk7 (by kernel_rfl) ?_
 obtain ⟨I9, m9, i1, i2⟩ := h
 refine S_loop (x := kk8) (σ := Int) (fun s_ => [(0, .slice sB sN sC), (1, .int .i64 v), (7, .int .i64 (sN : Int)), (8, .int .i64 s_)]) (fun s_ H => I9 s_ H) (fun s_ H => m9 s_ H) (0 : Int) (by kernel_rfl) i1 (sb (by kernel_rfl)) ?_
 rintro s8 H1 i3
 have h := i2 s8 H1 i3
 refine S_sub [(0, .slice sB sN sC), (1, .int .i64 v), (7, .int .i64 (sN : Int)), (8, .int .i64 s8)] (sb (by kernel_rfl)) ?_
 refine T_sr 2 kk9 kk10 ?_
 refine N_run 1 [(0, .slice sB sN sC), (1, .int .i64 v), (7, .int .i64 (sN : Int)), (8, .int .i64 s8), (9, .bool (decide (s8 < (sN : Int))))] (fun _=>by kernel_rfl) ?_
 refine T_e ?_
 refine S_seq kk11 kk12 (by kernel_rfl) ?_
 by_cases c4 : s8 < (sN : Int)
 ·rw [if_pos c4] at h
  have b5 : (decide (s8 < (sN : Int))) = true := decide_eq_true c4
  refine S_env [(0, .slice sB sN sC), (1, .int .i64 v), (7, .int .i64 (sN : Int)), (8, .int .i64 s8), (9, .bool true)] (by simp only [b5, Bool.not_true, Bool.not_false]) ?_
  clear b5
  refine S_condT (.tmp 9) kk13 kk14 (by kernel_rfl) (by kernel_rfl) ?_
  refine S_skip (by kernel_rfl) ?_
  refine S_then ?_
  refine S_seq kk15 kk16 (by kernel_rfl) ?_
  refine S_block 1 kk17 (by kernel_rfl) ?_
  refine T_sr 3 kk18 kk19 ?_
  refine N_run 2 [(0, .slice sB sN sC), (1, .int .i64 v), (5, .int .i64 s8), (7, .int .i64 (sN : Int)), (8, .int .i64 s8)] (fun _=>by kernel_rfl) ?_
  refine T_e ?_
  refine T_sr 4 kk20 kk21 ?_
  refine N_run 3 [(0, .slice sB sN sC), (1, .int .i64 v), (5, .int .i64 s8), (7, .int .i64 (sN : Int)), (8, .int .i64 s8), (11, .int .i64 v), (12, .slice sB sN sC), (13, .int .i64 s8)] (fun _=>by kernel_rfl) ?_
  obtain ⟨sBA, rfl, h⟩ := h
  obtain ⟨q6, h⟩ := h
  refine N_val (some 14) (indexAtN 66 (.slice (some sBA) sN sC) (.int .i64 s8)) (.pointer (some (sBA.add (Int.toNat s8 * 1)))) (fun _=>by kernel_rfl) (fun w _ => indexAt_run (P := Tryz.prog) (t := 66) (elem := 3) (sz := 1) (a := sBA) (len := sN) (cap := sC) (k := .i64) (i := s8) Tryz.underlying66 (fun _=>by kernel_rfl) q6.1 q6.2 w) [(0, .slice (some sBA) sN sC), (1, .int .i64 v), (5, .int .i64 s8), (7, .int .i64 (sN : Int)), (8, .int .i64 s8), (11, .int .i64 v), (14, .pointer (some (sBA.add (Int.toNat s8 * 1))))] (ps (by kernel_rfl)) ?_
  obtain ⟨x, q7, h⟩ := h
  refine N_val (some 15) (loadN 3 (.pointer (some (sBA.add (Int.toNat s8 * 1))))) (.int .i64 x) (fun _=>by kernel_rfl) (loadN_run (loadOK_one (fun _=>by kernel_rfl) q7)) [(0, .slice (some sBA) sN sC), (1, .int .i64 v), (5, .int .i64 s8), (7, .int .i64 (sN : Int)), (8, .int .i64 s8), (11, .int .i64 v), (15, .int .i64 x)] (ps (by kernel_rfl)) ?_
  refine N_run 1 [(0, .slice (some sBA) sN sC), (1, .int .i64 v), (5, .int .i64 s8), (7, .int .i64 (sN : Int)), (8, .int .i64 s8), (16, .bool (v == x))] (fun _=>by kernel_rfl) ?_
  refine T_e ?_
  by_cases c8 : v = x
  ·rw [if_pos c8] at h
   have b9 : (v == x) = true := beq_iff_eq.mpr c8
   refine S_env [(0, .slice (some sBA) sN sC), (1, .int .i64 v), (5, .int .i64 s8), (7, .int .i64 (sN : Int)), (8, .int .i64 s8), (16, .bool true)] (by simp only [b9, Bool.not_true, Bool.not_false]) ?_
   clear b9
   refine S_condT (.tmp 16) kk22 kk23 (by kernel_rfl) (by kernel_rfl) ?_
   refine T_sr 5 kk24 kk25 ?_
   refine N_run 2 [(4, .int .i64 s8)] (fun _=>by kernel_rfl) ?_
   refine T_e ?_
   refine S_ret (by kernel_rfl) ?_
   show At _ _ _ _ _ (Q .ret)
   exact S_done (fn := Tryz.f66) [.int .i64 s8] hQ (show ResOK _ _ _ [.tmp 4] _ from .tmp (by kernel_rfl) (.nil)) h
  ·rw [if_neg c8] at h
   have b9 : (v == x) = false := beq_eq_false_iff_ne.mpr c8
   refine S_env [(0, .slice (some sBA) sN sC), (1, .int .i64 v), (5, .int .i64 s8), (7, .int .i64 (sN : Int)), (8, .int .i64 s8), (16, .bool false)] (by simp only [b9, Bool.not_true, Bool.not_false]) ?_
   clear b9
   refine S_condF (.tmp 16) kk22 kk23 (by kernel_rfl) (by kernel_rfl) ?_
   refine S_skip (by kernel_rfl) ?_
   refine S_blockEnd ?_
   refine S_then ?_
   refine S_region 6 (Code.ops kk16) (by kernel_rfl) ?_
   refine N_run 2 [(0, .slice (some sBA) sN sC), (1, .int .i64 v), (7, .int .i64 (sN : Int)), (8, .int .i64 (IntKind.wrap .i64 (s8 + 1)))] (fun _=>by kernel_rfl) ?_
   refine T_e ?_
   exact S_round ((IntKind.wrap .i64 (s8 + 1)) : Int) (sb (by kernel_rfl)) h
 ·rw [if_neg c4] at h
  have b5 : (decide (s8 < (sN : Int))) = false := decide_eq_false c4
  refine S_env [(0, .slice sB sN sC), (1, .int .i64 v), (7, .int .i64 (sN : Int)), (8, .int .i64 s8), (9, .bool false)] (by simp only [b5, Bool.not_true, Bool.not_false]) ?_
  clear b5
  refine S_condF (.tmp 9) kk13 kk14 (by kernel_rfl) (by kernel_rfl) ?_
  refine S_exit 0 (by kernel_rfl) ?_
  refine S_exitThen ?_
  refine S_exitThen ?_
  refine S_exitHere ?_
  refine S_then ?_
  refine T_sr 7 kk26 kk27 ?_
  refine N_run 1 [(4, .int .i64 (-1))] (fun _=>by kernel_rfl) ?_
  refine T_e ?_
  refine S_ret (by kernel_rfl) ?_
  show At _ _ _ _ _ (Q .ret)
  exact S_done (fn := Tryz.f66) [.int .i64 (-1)] hQ (show ResOK _ _ _ [.tmp 4] _ from .tmp (by kernel_rfl) (.nil)) h
end slices_Index_int_int

/-! slices.Clone[[]uint32,uint32] -/
end Go.Proofs.YthlohokmnajpoaaGreat
