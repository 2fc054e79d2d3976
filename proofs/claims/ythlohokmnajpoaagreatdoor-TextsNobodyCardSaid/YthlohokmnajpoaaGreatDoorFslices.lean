/-
 Written by a program of mine (gen.py): for functions of this translation a predicate transformer over heaps (.pt), and the proof that it is sound for the call (.link).
-/
import Derived.Test.YthlohokmnajpoaaGreatDoorFnsC
set_option linter.unusedSimpArgs false
set_option linter.unusedVariables false
set_option maxHeartbeats 1000000
noncomputable section
namespace Go.Proofs.YthlohokmnajpoaaGreatDoor
open Go
/-! slices.Contains[[]int,int] -/
namespace slices_Contains_int_int
def kk0 := Func.code Tryz.f103
def kk1 := Code.fa kk0
def kk2 := Code.fb kk0
def kk3 := Code.fa kk2
def kk4 := Code.fb kk2
end slices_Contains_int_int
def slices_Contains_int_int.pt (sB : Option Addr) (sN : Nat) (sC : Nat) (v : Int) (H : Array Obj) (R : Value → Array Obj → Prop) : Prop :=
 slices_Index_int_int.C sB sN sC v H (fun a H1 => ∃ x : Int, a = .int .i64 x ∧ 
 R (.bool (decide (x ≥ 0))) H1)
namespace slices_Contains_int_int
set_option maxRecDepth 100000 in
theorem link {sB : Option Addr} {sN : Nat} {sC : Nat} {v : Int} {H : Array Obj} {R : Value → Array Obj → Prop} (h : pt sB sN sC v H R) : C sB sN sC v H R := by
 refine S_enter (fn := Tryz.f103) (c := kk0) 9 Tryz.func103 (by kernel_rfl) (by kernel_rfl) (Nat.le_of_ble_eq_true (by kernel_rfl)) ?_
 intro w0 Q hQ
 unfold pt at h
 refine T_su [(0, vs sB sN sC), (1, vi v)] ?_
 refine T_sr 0 kk1 kk2 ?_
 refine T_ne 1 [(0, vs sB sN sC), (1, vi v)] ?_
 refine T_sr 1 kk3 kk4 ?_
 refine T_n 2 [(5, vs sB sN sC), (6, vi v)] ?_
 refine N_call (some 7) 153 #[vs sB sN sC, vi v] (fun _=>by kernel_rfl) h ?_; clear h
 rintro a H1 ⟨x, rfl, h⟩
 refine ⟨[(7, vi x)], pk, ?_⟩
 refine T_ne 2 [(4, .bool (decide (x ≥ 0)))] ?_
 refine S_ret (by kernel_rfl) ?_
 show At _ _ _ _ _ (Q .ret)
 exact S_done (fn := Tryz.f103) [.bool (decide (x ≥ 0))] hQ (show ResOK _ _ _ [.tmp 4] _ from .tmp (by kernel_rfl) (.nil)) h
end slices_Contains_int_int

/-! slices.Compare[[]rune,rune] -/
namespace slices_Collect_rune
def kk0 := Func.code Tryz.f119
def kk1 := Code.fa kk0
def kk2 := Code.fb kk0
def kk3 := Code.fa kk2
def kk4 := Code.fb kk2
end slices_Collect_rune
def slices_Collect_rune.pt (seq : Value) (H : Array Obj) (R : Value → Array Obj → Prop) : Prop :=
 slices_AppendSeq_rune_rune.C none 0 0 seq H (fun v H1 => ∃ xB : Option Addr, ∃ xN : Nat, ∃ xC : Nat, v = .slice xB xN xC ∧ 
 R (.slice xB xN xC) H1)
namespace slices_Collect_rune
set_option maxRecDepth 100000 in
theorem link {seq : Value} {H : Array Obj} {R : Value → Array Obj → Prop} (h : pt seq H R) : C seq H R := by
 refine S_enter (fn := Tryz.f119) (c := kk0) 5 Tryz.func119 (by kernel_rfl) (by kernel_rfl) (Nat.le_of_ble_eq_true (by kernel_rfl)) ?_
 intro w0 Q hQ
 unfold pt at h
 refine T_su [(0, seq)] ?_
 refine T_sr 0 kk1 kk2 ?_
 refine T_ne 1 [(0, seq)] ?_
 refine T_sr 1 kk3 kk4 ?_
 refine T_n 1 [(3, seq)] ?_
 refine N_call (some 4) 163 #[vs none 0 0, seq] (fun _=>by kernel_rfl) h ?_; clear h
 rintro v H1 ⟨xB, xN, xC, rfl, h⟩
 refine ⟨[(4, vs xB xN xC)], pk, ?_⟩
 refine T_ne 1 [(2, vs xB xN xC)] ?_
 refine S_ret (by kernel_rfl) ?_
 show At _ _ _ _ _ (Q .ret)
 exact S_done (fn := Tryz.f119) [vs xB xN xC] hQ (show ResOK _ _ _ [.tmp 2] _ from .tmp (by kernel_rfl) (.nil)) h
end slices_Collect_rune

/-! slices.Concat[[]rune,rune] -/
namespace slices_Concat_rune_rune
def kk0 := Func.code Tryz.f124
def kk1 := Code.fa kk0
def kk2 := Code.fb kk0
def kk3 := Code.fa kk2
def kk4 := Code.fb kk2
def kk5 := Code.fa kk4
def kk6 := Code.fb kk4
def kk7 := Code.fa kk5
def kk8 := Code.fb kk5
def kk9 := Code.fa kk8
def kk10 := Code.fa kk9
def kk11 := Code.fa kk10
def kk12 := Code.fb kk10
def kk13 := Code.fa kk12
def kk14 := Code.fb kk12
def kk15 := Code.fa kk13
def kk16 := Code.fb kk13
def kk17 := Code.fa kk14
def kk18 := Code.fb kk14
def kk19 := Code.fa kk17
def kk20 := Code.fa kk19
def kk21 := Code.fb kk19
def kk22 := Code.fa kk21
def kk23 := Code.fb kk21
def kk24 := Code.fa kk23
def kk25 := Code.fb kk23
def kk26 := Code.fa kk25
def kk27 := Code.fb kk25
def kk28 := Code.fa kk6
def kk29 := Code.fb kk6
def kk30 := Code.fa kk29
def kk31 := Code.fb kk29
def kk32 := Code.fa kk30
def kk33 := Code.fb kk30
def kk34 := Code.fa kk33
def kk35 := Code.fa kk34
def kk36 := Code.fa kk35
def kk37 := Code.fb kk35
def kk38 := Code.fa kk37
def kk39 := Code.fb kk37
def kk40 := Code.fa kk38
def kk41 := Code.fb kk38
def kk42 := Code.fa kk39
def kk43 := Code.fb kk39
def kk44 := Code.fa kk42
def kk45 := Code.fa kk44
def kk46 := Code.fb kk44
def kk47 := Code.fa kk31
def kk48 := Code.fb kk31
end slices_Concat_rune_rune
def slices_Concat_rune_rune.pt (slicesB : Option Addr) (slicesN : Nat) (slicesC : Nat) (H : Array Obj) (R : Value → Array Obj → Prop) : Prop :=
 ∃ (r : Int → Int → Array Obj → Prop) (m11 : Int → Int → Array Obj → Nat), r 0 0 H ∧ ∀ (f : Int) (s11 : Int) (H1 : Array Obj), r f s11 H1 →
 if s11 < (slicesN : Int) then (
 ∃ b : Addr, slicesB = some b ∧
 ((0 : Int) ≤ s11 ∧ s11 < (slicesN : Int)) ∧
 ∃ xB : Option Addr, ∃ xN : Nat, ∃ xC : Nat, hat H1 (b.add (Int.toNat s11 * 1)) = some (.slice xB xN xC) ∧
 if (IntKind.wrap .i64 (f + (xN : Int))) < 0 then (
 False)
 else
 (r (IntKind.wrap .i64 (f + (xN : Int))) (IntKind.wrap .i64 (s11 + 1)) H1 ∧ m11 (IntKind.wrap .i64 (f + (xN : Int))) (IntKind.wrap .i64 (s11 + 1)) H1 < m11 f s11 H1))
 else
 slices_Grow_rune_rune.C none 0 0 f H1 (fun v H2 => ∃ o : Option Addr, ∃ m : Nat, ∃ n : Nat, v = .slice o m n ∧ 
 ∃ (q : (Option Addr) → Nat → Nat → Int → Array Obj → Prop) (m36 : (Option Addr) → Nat → Nat → Int → Array Obj → Nat), q o m n 0 H2 ∧ ∀ (d : Option Addr) (newsliceN : Nat) (newsliceC : Nat) (s27 : Int) (H3 : Array Obj), q d newsliceN newsliceC s27 H3 →
 if s27 < (slicesN : Int) then (
 ∃ e : Addr, slicesB = some e ∧
 ((0 : Int) ≤ s27 ∧ s27 < (slicesN : Int)) ∧
 ∃ j : Option Addr, ∃ g : Nat, ∃ l : Nat, hat H3 (e.add (Int.toNat s27 * 1)) = some (.slice j g l) ∧
 appendK 1 21 4 [.int .i32 0] d newsliceN newsliceC j g H3 (fun ap p H4 =>
 (q ap (newsliceN + g) p (IntKind.wrap .i64 (s27 + 1)) H4 ∧ m36 ap (newsliceN + g) p (IntKind.wrap .i64 (s27 + 1)) H4 < m36 d newsliceN newsliceC s27 H3)))
 else
 R (.slice d newsliceN newsliceC) H3)
namespace slices_Concat_rune_rune
set_option maxRecDepth 100000 in
theorem link {slicesB : Option Addr} {slicesN : Nat} {slicesC : Nat} {H : Array Obj} {R : Value → Array Obj → Prop} (h : pt slicesB slicesN slicesC H R) : C slicesB slicesN slicesC H R := by
 refine S_enter (fn := Tryz.f124) (c := kk0) 36 Tryz.func124 (by kernel_rfl) (by kernel_rfl) (Nat.le_of_ble_eq_true (by kernel_rfl)) ?_
 intro w0 Q hQ
 unfold pt at h
 refine T_su [(0, vs slicesB slicesN slicesC)] ?_
 refine T_sr 0 kk1 kk2 ?_
 refine T_ne 1 [(0, vs slicesB slicesN slicesC)] ?_
 refine T_sr 1 kk3 kk4 ?_
 refine T_ne 1 [(0, vs slicesB slicesN slicesC), (3, vi 0)] ?_
 refine T_s kk5 kk6 ?_
 refine T_sr 2 kk7 kk8 ?_
 refine T_ne 3 [(0, vs slicesB slicesN slicesC), (3, vi 0), (9, vs slicesB slicesN slicesC), (10, vi slicesN), (11, vi 0)] ?_
 refine T_b 0 kk9 ?_
 obtain ⟨r, m11, i1, i2⟩ := h
 refine S_loop (x := kk10) (σ := Int × Int) (fun s_ => [(0, vs slicesB slicesN slicesC), (3, vi s_.1), (9, vs slicesB slicesN slicesC), (10, vi slicesN), (11, vi s_.2)]) (fun s_ H => r s_.1 s_.2 H) (fun s_ H => m11 s_.1 s_.2 H) ((0, 0) : Int × Int) (by kernel_rfl) i1 sk ?_
 rintro ⟨f, s11⟩ H1 i3
 have h := i2 f s11 H1 i3
 refine T_su [(0, vs slicesB slicesN slicesC), (3, vi f), (9, vs slicesB slicesN slicesC), (10, vi slicesN), (11, vi s11)] ?_
 refine T_sr 3 kk11 kk12 ?_
 refine T_ne 1 [(0, vs slicesB slicesN slicesC), (3, vi f), (9, vs slicesB slicesN slicesC), (10, vi slicesN), (11, vi s11), (12, .bool (decide (s11 < (slicesN : Int))))] ?_
 refine T_s kk13 kk14 ?_
 by_cases c4 : s11 < (slicesN : Int)
 ·rw [if_pos c4] at h
  have b5 : (decide (s11 < (slicesN : Int))) = true := decide_eq_true c4
  refine S_env [(0, vs slicesB slicesN slicesC), (3, vi f), (9, vs slicesB slicesN slicesC), (10, vi slicesN), (11, vi s11), (12, .bool true)] (by simp only [b5, Bool.not_true, Bool.not_false]) ?_
  clear b5
  refine T_t 12 kk15 kk16 ?_
  refine T_kt ?_
  refine T_s kk17 kk18 ?_
  refine T_b 1 kk19 ?_
  refine T_sr 4 kk20 kk21 ?_
  refine T_nu [(0, vs slicesB slicesN slicesC), (3, vi f), (9, vs slicesB slicesN slicesC), (10, vi slicesN), (11, vi s11)] ?_
  obtain ⟨b, rfl, h⟩ := h
  obtain ⟨q6, h⟩ := h
  refine T_ix (some 13) 134 65 1 b slicesN slicesC .i64 s11 Tryz.underlying134 q6.1 q6.2 [(0, vs (some b) slicesN slicesC), (3, vi f), (9, vs (some b) slicesN slicesC), (10, vi slicesN), (11, vi s11), (13, vp (some (b.add (Int.toNat s11 * 1))))] ?_
  obtain ⟨xB, xN, xC, q7, h⟩ := h
  refine T_l (some 14) 65 q7 [(0, vs (some b) slicesN slicesC), (3, vi f), (9, vs (some b) slicesN slicesC), (10, vi slicesN), (11, vi s11), (14, vs xB xN xC)] ?_
  refine T_ne 1 [(0, vs (some b) slicesN slicesC), (3, vi f), (5, vs xB xN xC), (9, vs (some b) slicesN slicesC), (10, vi slicesN), (11, vi s11)] ?_
  refine T_sr 5 kk22 kk23 ?_
  refine T_ne 5 [(0, vs (some b) slicesN slicesC), (3, vi (IntKind.wrap .i64 (f + (xN : Int)))), (9, vs (some b) slicesN slicesC), (10, vi slicesN), (11, vi s11)] ?_
  refine T_sr 6 kk24 kk25 ?_
  refine T_ne 2 [(0, vs (some b) slicesN slicesC), (3, vi (IntKind.wrap .i64 (f + (xN : Int)))), (9, vs (some b) slicesN slicesC), (10, vi slicesN), (11, vi s11), (20, .bool (decide ((IntKind.wrap .i64 (f + (xN : Int))) < 0)))] ?_
  by_cases c8 : (IntKind.wrap .i64 (f + (xN : Int))) < 0
  ·rw [if_pos c8] at h
   have b9 : (decide ((IntKind.wrap .i64 (f + (xN : Int))) < 0)) = true := decide_eq_true c8
   refine S_env [(0, vs (some b) slicesN slicesC), (3, vi (IntKind.wrap .i64 (f + (xN : Int)))), (9, vs (some b) slicesN slicesC), (10, vi slicesN), (11, vi s11), (20, .bool true)] (by simp only [b9, Bool.not_true, Bool.not_false]) ?_
   clear b9
   refine T_t 20 kk26 kk27 ?_
   refine T_r 7 kk26 ?_
   refine T_nu [(0, vs (some b) slicesN slicesC), (3, vi (IntKind.wrap .i64 (f + (xN : Int)))), (9, vs (some b) slicesN slicesC), (10, vi slicesN), (11, vi s11)] ?_
   exact h.elim
  ·rw [if_neg c8] at h
   have b9 : (decide ((IntKind.wrap .i64 (f + (xN : Int))) < 0)) = false := decide_eq_false c8
   refine S_env [(0, vs (some b) slicesN slicesC), (3, vi (IntKind.wrap .i64 (f + (xN : Int)))), (9, vs (some b) slicesN slicesC), (10, vi slicesN), (11, vi s11), (20, .bool false)] (by simp only [b9, Bool.not_true, Bool.not_false]) ?_
   clear b9
   refine T_f 20 kk26 kk27 ?_
   refine T_k ?_
   refine S_blockEnd ?_
   refine S_then ?_
   refine T_r 8 kk18 ?_
   refine T_ne 2 [(0, vs (some b) slicesN slicesC), (3, vi (IntKind.wrap .i64 (f + (xN : Int)))), (9, vs (some b) slicesN slicesC), (10, vi slicesN), (11, vi (IntKind.wrap .i64 (s11 + 1)))] ?_
   exact S_round (((IntKind.wrap .i64 (f + (xN : Int))), (IntKind.wrap .i64 (s11 + 1))) : Int × Int) sk h
 ·rw [if_neg c4] at h
  have b5 : (decide (s11 < (slicesN : Int))) = false := decide_eq_false c4
  refine S_env [(0, vs slicesB slicesN slicesC), (3, vi f), (9, vs slicesB slicesN slicesC), (10, vi slicesN), (11, vi s11), (12, .bool false)] (by simp only [b5, Bool.not_true, Bool.not_false]) ?_
  clear b5
  refine T_f 12 kk15 kk16 ?_
  refine S_exit 0 (by kernel_rfl) ?_
  refine S_exitThen ?_
  refine S_exitThen ?_
  refine S_exitHere ?_
  refine S_then ?_
  refine T_sr 9 kk28 kk29 ?_
  refine T_n 1 [(0, vs slicesB slicesN slicesC), (23, vi f)] ?_
  refine N_call (some 24) 166 #[vs none 0 0, vi f] (fun _=>by kernel_rfl) h ?_; clear h
  rintro v H2 ⟨o, m, n, rfl, h⟩
  refine ⟨[(0, vs slicesB slicesN slicesC), (24, vs o m n)], pk, ?_⟩
  refine T_ne 1 [(0, vs slicesB slicesN slicesC), (6, vs o m n)] ?_
  refine T_s kk30 kk31 ?_
  refine T_sr 10 kk32 kk33 ?_
  refine T_ne 3 [(6, vs o m n), (25, vs slicesB slicesN slicesC), (26, vi slicesN), (27, vi 0)] ?_
  refine T_b 2 kk34 ?_
  obtain ⟨q, m36, i10, i11⟩ := h
  refine S_loop (x := kk35) (σ := (Option Addr) × Nat × Nat × Int) (fun s_ => [(6, vs s_.1 s_.2.1 s_.2.2.1), (25, vs slicesB slicesN slicesC), (26, vi slicesN), (27, vi s_.2.2.2)]) (fun s_ H => q s_.1 s_.2.1 s_.2.2.1 s_.2.2.2 H) (fun s_ H => m36 s_.1 s_.2.1 s_.2.2.1 s_.2.2.2 H) ((o, m, n, 0) : (Option Addr) × Nat × Nat × Int) (by kernel_rfl) i10 sk ?_
  rintro ⟨d, newsliceN, newsliceC, s27⟩ H3 i12
  have h := i11 d newsliceN newsliceC s27 H3 i12
  refine T_su [(6, vs d newsliceN newsliceC), (25, vs slicesB slicesN slicesC), (26, vi slicesN), (27, vi s27)] ?_
  refine T_sr 11 kk36 kk37 ?_
  refine T_ne 1 [(6, vs d newsliceN newsliceC), (25, vs slicesB slicesN slicesC), (26, vi slicesN), (27, vi s27), (28, .bool (decide (s27 < (slicesN : Int))))] ?_
  refine T_s kk38 kk39 ?_
  by_cases c13 : s27 < (slicesN : Int)
  ·rw [if_pos c13] at h
   have b14 : (decide (s27 < (slicesN : Int))) = true := decide_eq_true c13
   refine S_env [(6, vs d newsliceN newsliceC), (25, vs slicesB slicesN slicesC), (26, vi slicesN), (27, vi s27), (28, .bool true)] (by simp only [b14, Bool.not_true, Bool.not_false]) ?_
   clear b14
   refine T_t 28 kk40 kk41 ?_
   refine T_kt ?_
   refine T_s kk42 kk43 ?_
   refine T_b 3 kk44 ?_
   refine T_sr 12 kk45 kk46 ?_
   refine T_nu [(6, vs d newsliceN newsliceC), (25, vs slicesB slicesN slicesC), (26, vi slicesN), (27, vi s27)] ?_
   obtain ⟨e, rfl, h⟩ := h
   obtain ⟨q15, h⟩ := h
   refine T_ix (some 29) 134 65 1 e slicesN slicesC .i64 s27 Tryz.underlying134 q15.1 q15.2 [(6, vs d newsliceN newsliceC), (25, vs (some e) slicesN slicesC), (26, vi slicesN), (27, vi s27), (29, vp (some (e.add (Int.toNat s27 * 1))))] ?_
   obtain ⟨j, g, l, q16, h⟩ := h
   refine T_l (some 30) 65 q16 [(6, vs d newsliceN newsliceC), (25, vs (some e) slicesN slicesC), (26, vi slicesN), (27, vi s27), (30, vs j g l)] ?_
   refine T_ne 1 [(6, vs d newsliceN newsliceC), (8, vs j g l), (25, vs (some e) slicesN slicesC), (26, vi slicesN), (27, vi s27)] ?_
   refine T_r 13 kk46 ?_
   refine T_n 2 [(25, vs (some e) slicesN slicesC), (26, vi slicesN), (27, vi s27), (31, vs d newsliceN newsliceC), (32, vs j g l)] ?_
   refine N_op (some 33) (appendN #[65, 65] 65 #[vs d newsliceN newsliceC, vs j g l]) _ (fun _=>by kernel_rfl) (ss_append (T := 21) (sz := 1) (bytes := 4) (zero := (.int .i32 0 : Value)) Tryz.underlying65 Tryz.underlying65 rfl (show Tryz.prog.info? 21 = some Tryz.t21 from by kernel_rfl) (by kernel_rfl) (by kernel_rfl) (by decide) (by kernel_rfl) (by first | exact h | (simpa only [Value.cells, List.toList_toArray] using h))) ?_; clear h
   rintro _ H4 ⟨ap, p, rfl, h⟩
   refine ⟨[(25, vs (some e) slicesN slicesC), (26, vi slicesN), (27, vi s27), (33, vs ap (newsliceN + g) p)], pk, ?_⟩
   refine T_n 1 [(6, vs ap (newsliceN + g) p), (25, vs (some e) slicesN slicesC), (26, vi slicesN), (27, vi s27)] ?_
   refine N_end (by kernel_rfl) ?_
   refine S_blockEnd ?_
   refine S_then ?_
   refine T_r 14 kk43 ?_
   refine T_ne 2 [(6, vs ap (newsliceN + g) p), (25, vs (some e) slicesN slicesC), (26, vi slicesN), (27, vi (IntKind.wrap .i64 (s27 + 1)))] ?_
   exact S_round ((ap, (newsliceN + g), p, (IntKind.wrap .i64 (s27 + 1))) : (Option Addr) × Nat × Nat × Int) sk h
  ·rw [if_neg c13] at h
   have b14 : (decide (s27 < (slicesN : Int))) = false := decide_eq_false c13
   refine S_env [(6, vs d newsliceN newsliceC), (25, vs slicesB slicesN slicesC), (26, vi slicesN), (27, vi s27), (28, .bool false)] (by simp only [b14, Bool.not_true, Bool.not_false]) ?_
   clear b14
   refine T_f 28 kk40 kk41 ?_
   refine S_exit 2 (by kernel_rfl) ?_
   refine S_exitThen ?_
   refine S_exitThen ?_
   refine S_exitHere ?_
   refine S_then ?_
   refine T_sr 15 kk47 kk48 ?_
   refine T_ne 2 [(2, vs d newsliceN newsliceC)] ?_
   refine S_ret (by kernel_rfl) ?_
   show At _ _ _ _ _ (Q .ret)
   exact S_done (fn := Tryz.f124) [vs d newsliceN newsliceC] hQ (show ResOK _ _ _ [.tmp 2] _ from .tmp (by kernel_rfl) (.nil)) h
end slices_Concat_rune_rune

/-! slices.Index[[]int,int] -/
namespace slices_Index_int_int
def kk0 := Func.code Tryz.f153
def kk1 := Code.fa kk0
def kk2 := Code.fb kk0
def kk3 := Code.fa kk2
def kk4 := Code.fb kk2
def kk5 := Code.fa kk3
def kk6 := Code.fb kk3
def kk7 := Code.fa kk6
def kk8 := Code.fa kk7
def kk9 := Code.fa kk8
def kk10 := Code.fb kk8
def kk11 := Code.fa kk10
def kk12 := Code.fb kk10
def kk13 := Code.fa kk11
def kk14 := Code.fb kk11
def kk15 := Code.fa kk12
def kk16 := Code.fb kk12
def kk17 := Code.fa kk15
def kk18 := Code.fa kk17
def kk19 := Code.fb kk17
def kk20 := Code.fa kk19
def kk21 := Code.fb kk19
def kk22 := Code.fa kk21
def kk23 := Code.fb kk21
def kk24 := Code.fa kk22
def kk25 := Code.fb kk22
def kk26 := Code.fa kk4
def kk27 := Code.fb kk4
end slices_Index_int_int
def slices_Index_int_int.pt (sB : Option Addr) (sN : Nat) (sC : Nat) (v : Int) (H : Array Obj) (R : Value → Array Obj → Prop) : Prop :=
 ∃ (I9 : Int → Array Obj → Prop) (m9 : Int → Array Obj → Nat), I9 0 H ∧ ∀ (s8 : Int) (H1 : Array Obj), I9 s8 H1 →
 if s8 < (sN : Int) then (
 ∃ b : Addr, sB = some b ∧
 ((0 : Int) ≤ s8 ∧ s8 < (sN : Int)) ∧
 ∃ x : Int, hat H1 (b.add (Int.toNat s8 * 1)) = some (.int .i64 x) ∧
 if v = x then (
 R (.int .i64 s8) H1)
 else
 (I9 (IntKind.wrap .i64 (s8 + 1)) H1 ∧ m9 (IntKind.wrap .i64 (s8 + 1)) H1 < m9 s8 H1))
 else
 R (.int .i64 (-1)) H1
namespace slices_Index_int_int
set_option maxRecDepth 100000 in
theorem link {sB : Option Addr} {sN : Nat} {sC : Nat} {v : Int} {H : Array Obj} {R : Value → Array Obj → Prop} (h : pt sB sN sC v H R) : C sB sN sC v H R := by
 refine S_enter (fn := Tryz.f153) (c := kk0) 19 Tryz.func153 (by kernel_rfl) (by kernel_rfl) (Nat.le_of_ble_eq_true (by kernel_rfl)) ?_
 intro w0 Q hQ
 unfold pt at h
 refine T_su [(0, vs sB sN sC), (1, vi v)] ?_
 refine T_sr 0 kk1 kk2 ?_
 refine T_ne 1 [(0, vs sB sN sC), (1, vi v)] ?_
 refine T_s kk3 kk4 ?_
 refine T_sr 1 kk5 kk6 ?_
 refine T_ne 3 [(0, vs sB sN sC), (1, vi v), (7, vi sN), (8, vi 0)] ?_
 refine T_b 0 kk7 ?_
 obtain ⟨I9, m9, i1, i2⟩ := h
 refine S_loop (x := kk8) (σ := Int) (fun s_ => [(0, vs sB sN sC), (1, vi v), (7, vi sN), (8, vi s_)]) (fun s_ H => I9 s_ H) (fun s_ H => m9 s_ H) (0 : Int) (by kernel_rfl) i1 sk ?_
 rintro s8 H1 i3
 have h := i2 s8 H1 i3
 refine T_su [(0, vs sB sN sC), (1, vi v), (7, vi sN), (8, vi s8)] ?_
 refine T_sr 2 kk9 kk10 ?_
 refine T_ne 1 [(0, vs sB sN sC), (1, vi v), (7, vi sN), (8, vi s8), (9, .bool (decide (s8 < (sN : Int))))] ?_
 refine T_s kk11 kk12 ?_
 by_cases c4 : s8 < (sN : Int)
 ·rw [if_pos c4] at h
  have b5 : (decide (s8 < (sN : Int))) = true := decide_eq_true c4
  refine S_env [(0, vs sB sN sC), (1, vi v), (7, vi sN), (8, vi s8), (9, .bool true)] (by simp only [b5, Bool.not_true, Bool.not_false]) ?_
  clear b5
  refine T_t 9 kk13 kk14 ?_
  refine T_kt ?_
  refine T_s kk15 kk16 ?_
  refine T_b 1 kk17 ?_
  refine T_sr 3 kk18 kk19 ?_
  refine T_ne 2 [(0, vs sB sN sC), (1, vi v), (5, vi s8), (7, vi sN), (8, vi s8)] ?_
  refine T_sr 4 kk20 kk21 ?_
  refine T_n 3 [(0, vs sB sN sC), (1, vi v), (5, vi s8), (7, vi sN), (8, vi s8), (11, vi v), (12, vs sB sN sC), (13, vi s8)] ?_
  obtain ⟨b, rfl, h⟩ := h
  obtain ⟨q6, h⟩ := h
  refine T_ix (some 14) 101 3 1 b sN sC .i64 s8 Tryz.underlying101 q6.1 q6.2 [(0, vs (some b) sN sC), (1, vi v), (5, vi s8), (7, vi sN), (8, vi s8), (11, vi v), (14, vp (some (b.add (Int.toNat s8 * 1))))] ?_
  obtain ⟨x, q7, h⟩ := h
  refine T_l (some 15) 3 q7 [(0, vs (some b) sN sC), (1, vi v), (5, vi s8), (7, vi sN), (8, vi s8), (11, vi v), (15, vi x)] ?_
  refine T_ne 1 [(0, vs (some b) sN sC), (1, vi v), (5, vi s8), (7, vi sN), (8, vi s8), (16, .bool (v == x))] ?_
  by_cases c8 : v = x
  ·rw [if_pos c8] at h
   have b9 : (v == x) = true := beq_iff_eq.mpr c8
   refine S_env [(0, vs (some b) sN sC), (1, vi v), (5, vi s8), (7, vi sN), (8, vi s8), (16, .bool true)] (by simp only [b9, Bool.not_true, Bool.not_false]) ?_
   clear b9
   refine T_t 16 kk22 kk23 ?_
   refine T_sr 5 kk24 kk25 ?_
   refine T_ne 2 [(4, vi s8)] ?_
   refine S_ret (by kernel_rfl) ?_
   show At _ _ _ _ _ (Q .ret)
   exact S_done (fn := Tryz.f153) [vi s8] hQ (show ResOK _ _ _ [.tmp 4] _ from .tmp (by kernel_rfl) (.nil)) h
  ·rw [if_neg c8] at h
   have b9 : (v == x) = false := beq_eq_false_iff_ne.mpr c8
   refine S_env [(0, vs (some b) sN sC), (1, vi v), (5, vi s8), (7, vi sN), (8, vi s8), (16, .bool false)] (by simp only [b9, Bool.not_true, Bool.not_false]) ?_
   clear b9
   refine T_f 16 kk22 kk23 ?_
   refine T_k ?_
   refine S_blockEnd ?_
   refine S_then ?_
   refine T_r 6 kk16 ?_
   refine T_ne 2 [(0, vs (some b) sN sC), (1, vi v), (7, vi sN), (8, vi (IntKind.wrap .i64 (s8 + 1)))] ?_
   exact S_round ((IntKind.wrap .i64 (s8 + 1)) : Int) sk h
 ·rw [if_neg c4] at h
  have b5 : (decide (s8 < (sN : Int))) = false := decide_eq_false c4
  refine S_env [(0, vs sB sN sC), (1, vi v), (7, vi sN), (8, vi s8), (9, .bool false)] (by simp only [b5, Bool.not_true, Bool.not_false]) ?_
  clear b5
  refine T_f 9 kk13 kk14 ?_
  refine S_exit 0 (by kernel_rfl) ?_
  refine S_exitThen ?_
  refine S_exitThen ?_
  refine S_exitHere ?_
  refine S_then ?_
  refine T_sr 7 kk26 kk27 ?_
  refine T_ne 1 [(4, vi (-1))] ?_
  refine S_ret (by kernel_rfl) ?_
  show At _ _ _ _ _ (Q .ret)
  exact S_done (fn := Tryz.f153) [vi (-1)] hQ (show ResOK _ _ _ [.tmp 4] _ from .tmp (by kernel_rfl) (.nil)) h
end slices_Index_int_int

/-! slices.Backward[[]moraine/api.Word,moraine/api.Word].1 -/
namespace slices_AppendSeq_rune_rune
def kk0 := Func.code Tryz.f163
def kk1 := Code.fa kk0
def kk2 := Code.fb kk0
def kk3 := Code.fa kk2
def kk4 := Code.fb kk2
def kk5 := Code.fa kk3
def kk6 := Code.fb kk3
def kk7 := Code.fa kk6
def kk8 := Code.fa kk7
def kk9 := Code.fb kk7
def kk10 := Code.fa kk9
def kk11 := Code.fa kk4
def kk12 := Code.fb kk4
end slices_AppendSeq_rune_rune
def slices_AppendSeq_rune_rune.pt (sB : Option Addr) (sN : Nat) (sC : Nat) (seq : Value) (H : Array Obj) (R : Value → Array Obj → Prop) : Prop :=
 ∀ (b : Nat) (H1 : Array Obj), b = H.size → H1 = H.push (.cells #[.slice sB sN sC] 65) →
 ∀ (rc : LoopState → Option Code → Obj) (lp : Nat) (H2 : Array Obj), lp = H1.size + 1 → H2 = (H1.push (.deferred (some []))).push (rc .ready none) →
 ∀ vY : Value, (∀ (x : Int) (H3 : Array Obj) (vRy : Value → Array Obj → Prop), H3[lp]? = some (rc .ready none) →
 ( H3[lp]? = some (rc .ready none) ∧ ∀ H4 : Array Obj, H4 = setBlk H3 lp (rc .busy none) →
 ∃ xB : Option Addr, ∃ xN : Nat, ∃ xC : Nat, hat H4 (Addr.mk b 0 none) = some (.slice xB xN xC) ∧
 ∀ (i : Nat) (H5 : Array Obj), i = H4.size → H5 = H4.push (.cells #[.int .i32 x] 21) →
 appendK 1 21 4 [.int .i32 0] xB xN xC (some (Addr.mk i 0 none)) 1 H5 (fun ap f H6 =>
 (CanPuts H6 (Addr.mk b 0 none) 0 1) ∧ ∀ H7 : Array Obj, H7 = hputs H6 (Addr.mk b 0 none) [.slice ap (xN + 1) f] 0 →
 H7[lp]? = some (rc .busy none) ∧
 vRy (.bool true) (setBlk H7 lp (rc .ready none)))) →
 FC Tryz.prog vY #[.int .i32 x] H3 vRy) →
 FE Tryz.prog seq #[vY] H2 (fun _ H8 =>
 (H8[lp]? = some (rc .ready none) ∧ ∀ H9 : Array Obj, H9 = setBlk H8 lp (rc .exhausted none) →
 ∃ e : Option Addr, ∃ a : Nat, ∃ d : Nat, hat H9 (Addr.mk b 0 none) = some (.slice e a d) ∧
 Shut (H1.size :: []) H9 (fun j =>
 R (.slice e a d) j)))
namespace slices_AppendSeq_rune_rune
set_option maxRecDepth 100000 in
theorem link {sB : Option Addr} {sN : Nat} {sC : Nat} {seq : Value} {H : Array Obj} {R : Value → Array Obj → Prop} (h : pt sB sN sC seq H R) : C sB sN sC seq H R := by
 refine S_enter (fn := Tryz.f163) (c := kk0) 13 Tryz.func163 (by kernel_rfl) (by kernel_rfl) (Nat.le_of_ble_eq_true (by kernel_rfl)) ?_
 intro w0 Q hQ
 unfold pt at h
 refine T_su [(0, vs sB sN sC), (1, seq)] ?_
 refine T_sr 0 kk1 kk2 ?_
 refine N_new (some 2) (fun b => vp (pa b)) (.cells #[vs sB sN sC] 65) (fun _=>by kernel_rfl) ?_
 intro b H1 e1 e2
 replace h := h b H1 e1 e2
 refine ⟨[(1, seq), (2, vp (pa b))], pk, ?_⟩
 refine T_ne 1 [(1, seq), (2, vp (pa b))] ?_
 refine T_s kk3 kk4 ?_
 refine T_sr 1 kk5 kk6 ?_
 refine T_ne 1 [(2, vp (pa b)), (6, seq)] ?_
 refine T_b 0 kk7 ?_
 refine S_range (g := .tmp 6) (ps := #[7]) (assign := kk8) (body := kk9) (seq) (by kernel_rfl) (by kernel_rfl) (by kernel_rfl) ?_
 intro rc lp H2 r3 e4 e5 y6
 refine FE.mono (h rc lp H2 e4 e5 (.func (.yield lp) #[] #[]) ?_) ?_
 ·clear h
  intro x H3 vRy q7 h
  refine y6 #[.int .i32 x] H3 vRy (by kernel_rfl) q7 (fun w1x => ?_)
  refine T_su [(2, vp (pa b)), (6, seq), (7, .int .i32 x)] ?_
  refine T_r 2 kk8 ?_
  refine T_n 1 [(2, vp (pa b)), (5, .int .i32 x)] ?_
  refine N_end (by kernel_rfl) ?_
  obtain ⟨q9, h⟩ := h
  refine S_then ?_
  refine S_begin r3 q9 ?_
  intro H4 e8
  replace h := h H4 e8
  refine T_b 1 kk10 ?_
  refine T_r 3 kk10 ?_
  obtain ⟨xB, xN, xC, q10, h⟩ := h
  refine T_l (some 8) 65 q10 [(2, vp (pa b)), (5, .int .i32 x), (8, vs xB xN xC)] ?_
  refine T_n 1 [(2, vp (pa b)), (8, vs xB xN xC), (9, .int .i32 x)] ?_
  refine N_new (some 10) (fun b => vs (pa b) 1 1) (.cells #[.int .i32 x] 21) (fun _=>by kernel_rfl) ?_
  intro i H5 e11 e12
  replace h := h i H5 e11 e12
  refine ⟨[(2, vp (pa b)), (8, vs xB xN xC), (10, vs (pa i) 1 1)], pk, ?_⟩
  refine N_op (some 11) (appendN #[65, 65] 65 #[vs xB xN xC, vs (pa i) 1 1]) _ (fun _=>by kernel_rfl) (ss_append (T := 21) (sz := 1) (bytes := 4) (zero := (.int .i32 0 : Value)) Tryz.underlying65 Tryz.underlying65 rfl (show Tryz.prog.info? 21 = some Tryz.t21 from by kernel_rfl) (by kernel_rfl) (by kernel_rfl) (by decide) (by kernel_rfl) (by first | exact h | (simpa only [Value.cells, List.toList_toArray] using h))) ?_; clear h
  rintro _ H6 ⟨ap, f, rfl, h⟩
  refine ⟨[(2, vp (pa b)), (11, vs ap (xN + 1) f)], pk, ?_⟩
  obtain ⟨q14, h⟩ := h
  refine N_skipop none (storeN 65 (vp (pa b)) (vs ap (xN + 1) f)) (fun Hz => Hz = hputs H6 (Addr.mk b 0 none) [vs ap (xN + 1) f] 0) (fun _=>by kernel_rfl) (ss_store [vs ap (xN + 1) f] 1 (by kernel_rfl) (by kernel_rfl) (fun _=>by kernel_rfl) (by kernel_rfl) q14) ?_
  intro H7 e13
  replace h := h H7 e13
  refine ⟨[], pk, ?_⟩
  refine N_end (by kernel_rfl) ?_
  refine S_blockEnd ?_
  obtain ⟨q15, h⟩ := h
  exact S_rnormal r3 q15 h
 ·clear h y6
  rintro _ H8 (⟨q16, h⟩)
  refine .inl ⟨q16, fun H9 e18 => ?_⟩
  replace h := h H9 e18
  refine S_marks (H1.size :: []) rfl ?_
  refine T_su [(2, vp (pa b))] ?_
  refine S_blockEnd ?_
  refine S_then ?_
  refine T_sr 4 kk11 kk12 ?_
  obtain ⟨e, a, d, q17, h⟩ := h
  refine T_l (some 12) 65 q17 [(12, vs e a d)] ?_
  refine T_ne 1 [(4, vs e a d)] ?_
  refine S_ret (by kernel_rfl) ?_
  show At _ _ _ _ _ (Q .ret)
  refine S_doneM (fn := Tryz.f163) (H1.size :: []) hQ (Shut.mono (fun j h => ?_) h)
  exact ⟨[vs e a d], (show ResOK _ _ _ [.tmp 4] _ from .tmp (by kernel_rfl) (.nil)), h⟩
end slices_AppendSeq_rune_rune

/-! slices.Grow[[]rune,rune] -/
namespace slices_Grow_rune_rune
def kk0 := Func.code Tryz.f166
def kk1 := Code.fa kk0
def kk2 := Code.fb kk0
def kk3 := Code.fa kk2
def kk4 := Code.fb kk2
def kk5 := Code.fa kk3
def kk6 := Code.fb kk3
def kk7 := Code.fa kk6
def kk8 := Code.fb kk6
def kk9 := Code.fa kk4
def kk10 := Code.fb kk4
def kk11 := Code.fa kk9
def kk12 := Code.fb kk9
def kk13 := Code.fa kk12
def kk14 := Code.fb kk12
def kk15 := Code.fa kk14
def kk16 := Code.fb kk14
def kk17 := Code.fa kk10
def kk18 := Code.fb kk10
end slices_Grow_rune_rune
def slices_Grow_rune_rune.pt (sB : Option Addr) (sN : Nat) (sC : Nat) (nv : Int) (H : Array Obj) (R : Value → Array Obj → Prop) : Prop :=
 if nv < 0 then (
 False)
 else
 if (IntKind.wrap .i64 (nv - (IntKind.wrap .i64 ((sC : Int) - (sN : Int))))) > 0 then (
 ∃ (lo hi : Nat), lo = 0 ∧ (sC : Int) = (hi : Int) ∧ lo ≤ hi ∧ hi ≤ sC ∧
 ∀ sl : Option Addr, sl = (if sC = lo then sB else Option.map (fun a : Addr => a.add (lo * 1)) sB) →
 appendZK 1 21 4 [.int .i32 0] sl (hi - lo) (sC - lo) (IntKind.wrap .i64 (nv - (IntKind.wrap .i64 ((sC : Int) - (sN : Int))))) H (fun ap e H1 =>
 ∃ (b d : Nat), b = 0 ∧ (sN : Int) = (d : Int) ∧ b ≤ d ∧ d ≤ e ∧
 ∀ f : Option Addr, f = (if e = b then ap else Option.map (fun a : Addr => a.add (b * 1)) ap) →
 R (.slice f (d - b) (e - b)) H1))
 else
 R (.slice sB sN sC) H
namespace slices_Grow_rune_rune
set_option maxRecDepth 100000 in
theorem link {sB : Option Addr} {sN : Nat} {sC : Nat} {nv : Int} {H : Array Obj} {R : Value → Array Obj → Prop} (h : pt sB sN sC nv H R) : C sB sN sC nv H R := by
 refine S_enter (fn := Tryz.f166) (c := kk0) 27 Tryz.func166 (by kernel_rfl) (by kernel_rfl) (Nat.le_of_ble_eq_true (by kernel_rfl)) ?_
 intro w0 Q hQ
 unfold pt at h
 refine T_su [(0, vs sB sN sC), (1, vi nv)] ?_
 refine T_sr 0 kk1 kk2 ?_
 refine T_ne 1 [(0, vs sB sN sC), (1, vi nv)] ?_
 refine T_s kk3 kk4 ?_
 refine T_sr 1 kk5 kk6 ?_
 refine T_ne 2 [(0, vs sB sN sC), (1, vi nv), (6, .bool (decide (nv < 0)))] ?_
 by_cases c1 : nv < 0
 ·rw [if_pos c1] at h
  have b2 : (decide (nv < 0)) = true := decide_eq_true c1
  refine S_env [(0, vs sB sN sC), (1, vi nv), (6, .bool true)] (by simp only [b2, Bool.not_true, Bool.not_false]) ?_
  clear b2
  refine T_t 6 kk7 kk8 ?_
  refine T_r 2 kk7 ?_
  refine T_nu [(0, vs sB sN sC), (1, vi nv)] ?_
  exact h.elim
 ·rw [if_neg c1] at h
  have b2 : (decide (nv < 0)) = false := decide_eq_false c1
  refine S_env [(0, vs sB sN sC), (1, vi nv), (6, .bool false)] (by simp only [b2, Bool.not_true, Bool.not_false]) ?_
  clear b2
  refine T_f 6 kk7 kk8 ?_
  refine T_kt ?_
  refine T_s kk9 kk10 ?_
  refine T_sr 3 kk11 kk12 ?_
  refine T_ne 8 [(0, vs sB sN sC), (1, vi (IntKind.wrap .i64 (nv - (IntKind.wrap .i64 ((sC : Int) - (sN : Int))))))] ?_
  refine T_sr 4 kk13 kk14 ?_
  refine T_ne 2 [(0, vs sB sN sC), (1, vi (IntKind.wrap .i64 (nv - (IntKind.wrap .i64 ((sC : Int) - (sN : Int)))))), (16, .bool (decide ((IntKind.wrap .i64 (nv - (IntKind.wrap .i64 ((sC : Int) - (sN : Int))))) > 0)))] ?_
  by_cases c3 : (IntKind.wrap .i64 (nv - (IntKind.wrap .i64 ((sC : Int) - (sN : Int))))) > 0
  ·rw [if_pos c3] at h
   have b4 : (decide ((IntKind.wrap .i64 (nv - (IntKind.wrap .i64 ((sC : Int) - (sN : Int))))) > 0)) = true := decide_eq_true c3
   refine S_env [(0, vs sB sN sC), (1, vi (IntKind.wrap .i64 (nv - (IntKind.wrap .i64 ((sC : Int) - (sN : Int)))))), (16, .bool true)] (by simp only [b4, Bool.not_true, Bool.not_false]) ?_
   clear b4
   refine T_t 16 kk15 kk16 ?_
   refine T_r 5 kk15 ?_
   refine T_n 3 [(0, vs sB sN sC), (1, vi (IntKind.wrap .i64 (nv - (IntKind.wrap .i64 ((sC : Int) - (sN : Int)))))), (17, vs sB sN sC), (19, vi sC)] ?_
   obtain ⟨lo, hi, q5, q6, q7, q8, h⟩ := h
   obtain ⟨sl, e9⟩ : ∃ B, B = (if sC = lo then sB else Option.map (fun a : Addr => a.add (lo * 1)) sB) := ⟨_, rfl⟩
   replace h := h sl e9
   refine T_v (some 20) (sliceN 65 (vs sB sN sC) none (some (vi sC)) none) (vs sl (hi - lo) (sC - lo)) (fun w _ => (slice_run (P := Tryz.prog) (t := 65) (elem := 21) (sz := 1) (a := sB) (len := sN) (cap := sC) none (some (vi sC)) lo hi Tryz.underlying65 (fun _=>by kernel_rfl) (.inl ⟨rfl, q5⟩) (.inr ⟨.i64, by rw [q6]⟩) q7 q8 w).trans (by rw [e9]; try rfl)) [(0, vs sB sN sC), (1, vi (IntKind.wrap .i64 (nv - (IntKind.wrap .i64 ((sC : Int) - (sN : Int)))))), (20, vs sl (hi - lo) (sC - lo))] ?_
   refine T_n 1 [(0, vs sB sN sC), (20, vs sl (hi - lo) (sC - lo)), (21, vi (IntKind.wrap .i64 (nv - (IntKind.wrap .i64 ((sC : Int) - (sN : Int))))))] ?_
   refine N_op (some 22) (appendN #[65, 3] 65 #[vs sl (hi - lo) (sC - lo), vi (IntKind.wrap .i64 (nv - (IntKind.wrap .i64 ((sC : Int) - (sN : Int)))))]) _ (fun _=>by kernel_rfl) (ss_appendZ (T := 21) (sz := 1) (bytes := 4) (zero := (.int .i32 0 : Value)) Tryz.underlying65 Tryz.underlying3 (show Tryz.prog.info? 21 = some Tryz.t21 from by kernel_rfl) (by kernel_rfl) (by kernel_rfl) (by decide) (by kernel_rfl) (by kernel_rfl) (by first | exact h | (simpa only [Value.cells, List.toList_toArray] using h))) ?_; clear h
   rintro _ H1 ⟨ap, e, rfl, h⟩
   refine ⟨[(0, vs sB sN sC), (22, vs ap ((hi - lo) + Int.toNat (IntKind.wrap .i64 (nv - (IntKind.wrap .i64 ((sC : Int) - (sN : Int)))))) e)], pk, ?_⟩
   refine T_n 2 [(22, vs ap ((hi - lo) + Int.toNat (IntKind.wrap .i64 (nv - (IntKind.wrap .i64 ((sC : Int) - (sN : Int)))))) e), (24, vi sN)] ?_
   obtain ⟨b, d, q10, q11, q12, q13, h⟩ := h
   obtain ⟨f, e14⟩ : ∃ B, B = (if e = b then ap else Option.map (fun a : Addr => a.add (b * 1)) ap) := ⟨_, rfl⟩
   replace h := h f e14
   refine T_v (some 25) (sliceN 65 (vs ap ((hi - lo) + Int.toNat (IntKind.wrap .i64 (nv - (IntKind.wrap .i64 ((sC : Int) - (sN : Int)))))) e) none (some (vi sN)) none) (vs f (d - b) (e - b)) (fun w _ => (slice_run (P := Tryz.prog) (t := 65) (elem := 21) (sz := 1) (a := ap) (len := ((hi - lo) + Int.toNat (IntKind.wrap .i64 (nv - (IntKind.wrap .i64 ((sC : Int) - (sN : Int))))))) (cap := e) none (some (vi sN)) b d Tryz.underlying65 (fun _=>by kernel_rfl) (.inl ⟨rfl, q10⟩) (.inr ⟨.i64, by rw [q11]⟩) q12 q13 w).trans (by rw [e14]; try rfl)) [(25, vs f (d - b) (e - b))] ?_
   refine T_ne 1 [(0, vs f (d - b) (e - b))] ?_
   refine T_sr 6 kk17 kk18 ?_
   refine T_ne 2 [(4, vs f (d - b) (e - b))] ?_
   refine S_ret (by kernel_rfl) ?_
   show At _ _ _ _ _ (Q .ret)
   exact S_done (fn := Tryz.f166) [vs f (d - b) (e - b)] hQ (show ResOK _ _ _ [.tmp 4] _ from .tmp (by kernel_rfl) (.nil)) h
  ·rw [if_neg c3] at h
   have b4 : (decide ((IntKind.wrap .i64 (nv - (IntKind.wrap .i64 ((sC : Int) - (sN : Int))))) > 0)) = false := decide_eq_false c3
   refine S_env [(0, vs sB sN sC), (1, vi (IntKind.wrap .i64 (nv - (IntKind.wrap .i64 ((sC : Int) - (sN : Int)))))), (16, .bool false)] (by simp only [b4, Bool.not_true, Bool.not_false]) ?_
   clear b4
   refine T_f 16 kk15 kk16 ?_
   refine T_kt ?_
   refine T_sr 6 kk17 kk18 ?_
   refine T_ne 2 [(4, vs sB sN sC)] ?_
   refine S_ret (by kernel_rfl) ?_
   show At _ _ _ _ _ (Q .ret)
   exact S_done (fn := Tryz.f166) [vs sB sN sC] hQ (show ResOK _ _ _ [.tmp 4] _ from .tmp (by kernel_rfl) (.nil)) h
end slices_Grow_rune_rune

end Go.Proofs.YthlohokmnajpoaaGreatDoor
