/- Printed: what each function asks, and that it is sound. -/
import Derived.Test.YthlohokmnajpoaaGreatDoorFnsC
set_option linter.unusedSimpArgs false
set_option linter.unusedVariables false
set_option maxHeartbeats 1000000
noncomputable section
namespace Go.Proofs.YthlohokmnajpoaaGreatDoor
open Go
/-! slices.Contains[[]int,int] -/
namespace slices_Backward_api_Word_api_Word
def K0 := Func.code Tryz.f118
def K1 := ca K0
def K2 := cb K0
def K3 := ca K2
def K4 := cb K2
end slices_Backward_api_Word_api_Word
def slices_Backward_api_Word_api_Word.pt (sB : Option Addr) (sN : Nat) (sC : Nat) (H : Array Obj) (R : Value → Array Obj → Prop) : Prop :=
 ∀ (b : Nat) (H1 : Array Obj), b = H.size → H1 = H.push (.cells #[.slice sB sN sC] 43) →
 R (.func (.func 162) #[] #[.pointer (some (Addr.mk b 0 none))]) H1
namespace slices_Backward_api_Word_api_Word
set_option maxRecDepth 100000 in
theorem link {sB : Option Addr} {sN : Nat} {sC : Nat} {H : Array Obj} {R : Value → Array Obj → Prop} (h : pt sB sN sC H R) : C sB sN sC H R := by
 refine T_en K0 4 Tryz.func118 ?_
 intro w0 Q hQ
 unfold pt at h
 refine T_su [(0, vs sB sN sC)] ?_
 refine T_sr 0 K1 K2 ?_
 refine T_nw (some 1) (fun b => vp (pa b)) (.cells #[vs sB sN sC] 43) ?_
 intro b H1 e1 e2
 replace h := h b H1 e1 e2
 refine ⟨[(1, vp (pa b))], pk, ?_⟩
 refine T_ne 1 [(1, vp (pa b))] ?_
 refine T_sr 1 K3 K4 ?_
 refine T_ne 2 [(2, .func (.func 162) #[] #[vp (pa b)])] ?_
 exact T_ret [2] [.func (.func 162) #[] #[vp (pa b)]] hQ h
end slices_Backward_api_Word_api_Word

/-! slices.Collect[rune] -/
namespace slices_Collect_rune
def K0 := Func.code Tryz.f119
def K1 := ca K0
def K2 := cb K0
def K3 := ca K2
def K4 := cb K2
end slices_Collect_rune
def slices_Collect_rune.pt (seq : Value) (H : Array Obj) (R : Value → Array Obj → Prop) : Prop :=
 slices_AppendSeq_rune_rune.C none 0 0 seq H (fun v H1 => ∃ xB : Option Addr, ∃ xN : Nat, ∃ xC : Nat, v = .slice xB xN xC ∧ 
 R (.slice xB xN xC) H1)
namespace slices_Collect_rune
set_option maxRecDepth 100000 in
theorem link {seq : Value} {H : Array Obj} {R : Value → Array Obj → Prop} (h : pt seq H R) : C seq H R := by
 refine T_en K0 5 Tryz.func119 ?_
 intro w0 Q hQ
 unfold pt at h
 refine T_su [(0, seq)] ?_
 refine T_sr 0 K1 K2 ?_
 refine T_ne 1 [(0, seq)] ?_
 refine T_sr 1 K3 K4 ?_
 refine T_n 1 [(3, seq)] ?_
 refine T_c (some 4) h ?_; clear h
 rintro v H1 ⟨xB, xN, xC, rfl, h⟩
 refine ⟨[(4, vs xB xN xC)], pk, ?_⟩
 refine T_ne 1 [(2, vs xB xN xC)] ?_
 exact T_ret [2] [vs xB xN xC] hQ h
end slices_Collect_rune

/-! slices.Concat[[]rune,rune] -/
namespace slices_Concat_rune_rune
def K0 := Func.code Tryz.f124
def K1 := ca K0
def K2 := cb K0
def K3 := ca K2
def K4 := cb K2
def K5 := ca K4
def K6 := cb K4
def K7 := ca K5
def K8 := cb K5
def K9 := ca K8
def K10 := ca K9
def K11 := ca K10
def K12 := cb K10
def K13 := ca K12
def K14 := cb K12
def K15 := ca K13
def K16 := cb K13
def K17 := ca K14
def K18 := cb K14
def K19 := ca K17
def K20 := ca K19
def K21 := cb K19
def K22 := ca K21
def K23 := cb K21
def K24 := ca K23
def K25 := cb K23
def K26 := ca K25
def K27 := cb K25
def K28 := ca K6
def K29 := cb K6
def K30 := ca K29
def K31 := cb K29
def K32 := ca K30
def K33 := cb K30
def K34 := ca K33
def K35 := ca K34
def K36 := ca K35
def K37 := cb K35
def K38 := ca K37
def K39 := cb K37
def K40 := ca K38
def K41 := cb K38
def K42 := ca K39
def K43 := cb K39
def K44 := ca K42
def K45 := ca K44
def K46 := cb K44
def K47 := ca K31
def K48 := cb K31
end slices_Concat_rune_rune
def slices_Concat_rune_rune.pt (slicesB : Option Addr) (slicesN : Nat) (slicesC : Nat) (H : Array Obj) (R : Value → Array Obj → Prop) : Prop :=
 ∃ (q : Int → Int → Array Obj → Prop) (m11 : Int → Int → Array Obj → Nat), q 0 0 H ∧ ∀ (f : Int) (s11 : Int) (H1 : Array Obj), q f s11 H1 →
 if s11 < (slicesN : Int) then (
 ∃ b : Addr, slicesB = some b ∧
 ((0 : Int) ≤ s11 ∧ s11 < (slicesN : Int)) ∧
 ∃ xB : Option Addr, ∃ xN : Nat, ∃ xC : Nat, hat H1 (b.add (Int.toNat s11 * 1)) = some (.slice xB xN xC) ∧
 if (IntKind.wrap .i64 (f + (xN : Int))) < 0 then (
 False)
 else
 (q (IntKind.wrap .i64 (f + (xN : Int))) (IntKind.wrap .i64 (s11 + 1)) H1 ∧ m11 (IntKind.wrap .i64 (f + (xN : Int))) (IntKind.wrap .i64 (s11 + 1)) H1 < m11 f s11 H1))
 else
 slices_Grow_rune_rune.C none 0 0 f H1 (fun v H2 => ∃ o : Option Addr, ∃ l : Nat, ∃ n : Nat, v = .slice o l n ∧ 
 ∃ (r : (Option Addr) → Nat → Nat → Int → Array Obj → Prop) (m36 : (Option Addr) → Nat → Nat → Int → Array Obj → Nat), r o l n 0 H2 ∧ ∀ (d : Option Addr) (newsliceN : Nat) (newsliceC : Nat) (s27 : Int) (H3 : Array Obj), r d newsliceN newsliceC s27 H3 →
 if s27 < (slicesN : Int) then (
 ∃ e : Addr, slicesB = some e ∧
 ((0 : Int) ≤ s27 ∧ s27 < (slicesN : Int)) ∧
 ∃ j : Option Addr, ∃ g : Nat, ∃ m : Nat, hat H3 (e.add (Int.toNat s27 * 1)) = some (.slice j g m) ∧
 appendK 1 21 4 [.int .i32 0] d newsliceN newsliceC j g H3 (fun ap p H4 =>
 (r ap (newsliceN + g) p (IntKind.wrap .i64 (s27 + 1)) H4 ∧ m36 ap (newsliceN + g) p (IntKind.wrap .i64 (s27 + 1)) H4 < m36 d newsliceN newsliceC s27 H3)))
 else
 R (.slice d newsliceN newsliceC) H3)
namespace slices_Concat_rune_rune
set_option maxRecDepth 100000 in
theorem link {slicesB : Option Addr} {slicesN : Nat} {slicesC : Nat} {H : Array Obj} {R : Value → Array Obj → Prop} (h : pt slicesB slicesN slicesC H R) : C slicesB slicesN slicesC H R := by
 refine T_en K0 36 Tryz.func124 ?_
 intro w0 Q hQ
 unfold pt at h
 refine T_su [(0, vs slicesB slicesN slicesC)] ?_
 refine T_sr 0 K1 K2 ?_
 refine T_ne 1 [(0, vs slicesB slicesN slicesC)] ?_
 refine T_sr 1 K3 K4 ?_
 refine T_ne 1 [(0, vs slicesB slicesN slicesC), (3, vi 0)] ?_
 refine T_s K5 K6 ?_
 refine T_sr 2 K7 K8 ?_
 refine T_ne 3 [(0, vs slicesB slicesN slicesC), (3, vi 0), (9, vs slicesB slicesN slicesC), (10, vi slicesN), (11, vi 0)] ?_
 refine T_b 0 K9 ?_
 obtain ⟨q, m11, i1, i2⟩ := h
 refine S_loop (x := K10) (σ := Int × Int) (fun s_ => [(0, vs slicesB slicesN slicesC), (3, vi s_.1), (9, vs slicesB slicesN slicesC), (10, vi slicesN), (11, vi s_.2)]) (fun s_ H => q s_.1 s_.2 H) (fun s_ H => m11 s_.1 s_.2 H) ((0, 0) : Int × Int) (by kernel_rfl) i1 sk ?_
 rintro ⟨f, s11⟩ H1 i3
 have h := i2 f s11 H1 i3
 refine T_su [(0, vs slicesB slicesN slicesC), (3, vi f), (9, vs slicesB slicesN slicesC), (10, vi slicesN), (11, vi s11)] ?_
 refine T_sr 3 K11 K12 ?_
 refine T_ne 1 [(0, vs slicesB slicesN slicesC), (3, vi f), (9, vs slicesB slicesN slicesC), (10, vi slicesN), (11, vi s11), (12, .bool (decide (s11 < (slicesN : Int))))] ?_
 refine T_s K13 K14 ?_
 by_cases c4 : s11 < (slicesN : Int)
 ·rw [if_pos c4] at h
  have b5 : (decide (s11 < (slicesN : Int))) = true := decide_eq_true c4
  refine T_cT 12 K15 K16 b5 ?_
  refine T_kt ?_
  refine T_s K17 K18 ?_
  refine T_b 1 K19 ?_
  refine T_sr 4 K20 K21 ?_
  refine T_nu [(0, vs slicesB slicesN slicesC), (3, vi f), (9, vs slicesB slicesN slicesC), (10, vi slicesN), (11, vi s11)] ?_
  obtain ⟨b, rfl, h⟩ := h
  obtain ⟨q6, h⟩ := h
  refine T_ix (some 13) 134 65 1 b slicesN slicesC .i64 s11 Tryz.underlying134 q6.1 q6.2 [(0, vs (some b) slicesN slicesC), (3, vi f), (9, vs (some b) slicesN slicesC), (10, vi slicesN), (11, vi s11), (13, vp (some (b.add (Int.toNat s11 * 1))))] ?_
  obtain ⟨xB, xN, xC, q7, h⟩ := h
  refine T_l (some 14) 65 q7 [(0, vs (some b) slicesN slicesC), (3, vi f), (9, vs (some b) slicesN slicesC), (10, vi slicesN), (11, vi s11), (14, vs xB xN xC)] ?_
  refine T_ne 1 [(0, vs (some b) slicesN slicesC), (3, vi f), (5, vs xB xN xC), (9, vs (some b) slicesN slicesC), (10, vi slicesN), (11, vi s11)] ?_
  refine T_sr 5 K22 K23 ?_
  refine T_ne 5 [(0, vs (some b) slicesN slicesC), (3, vi (IntKind.wrap .i64 (f + (xN : Int)))), (9, vs (some b) slicesN slicesC), (10, vi slicesN), (11, vi s11)] ?_
  refine T_sr 6 K24 K25 ?_
  refine T_ne 2 [(0, vs (some b) slicesN slicesC), (3, vi (IntKind.wrap .i64 (f + (xN : Int)))), (9, vs (some b) slicesN slicesC), (10, vi slicesN), (11, vi s11), (20, .bool (decide ((IntKind.wrap .i64 (f + (xN : Int))) < 0)))] ?_
  by_cases c8 : (IntKind.wrap .i64 (f + (xN : Int))) < 0
  ·rw [if_pos c8] at h
   have b9 : (decide ((IntKind.wrap .i64 (f + (xN : Int))) < 0)) = true := decide_eq_true c8
   refine T_cT 20 K26 K27 b9 ?_
   refine T_r 7 K26 ?_
   refine T_nu [(0, vs (some b) slicesN slicesC), (3, vi (IntKind.wrap .i64 (f + (xN : Int)))), (9, vs (some b) slicesN slicesC), (10, vi slicesN), (11, vi s11)] ?_
   exact h.elim
  rw [if_neg c8] at h
  have b9 : (decide ((IntKind.wrap .i64 (f + (xN : Int))) < 0)) = false := decide_eq_false c8
  refine T_cF 20 K26 K27 b9 ?_
  refine T_k ?_
  refine S_blockEnd ?_
  refine S_then ?_
  refine T_r 8 K18 ?_
  refine T_ne 2 [(0, vs (some b) slicesN slicesC), (3, vi (IntKind.wrap .i64 (f + (xN : Int)))), (9, vs (some b) slicesN slicesC), (10, vi slicesN), (11, vi (IntKind.wrap .i64 (s11 + 1)))] ?_
  exact S_round (((IntKind.wrap .i64 (f + (xN : Int))), (IntKind.wrap .i64 (s11 + 1))) : Int × Int) sk h
 rw [if_neg c4] at h
 have b5 : (decide (s11 < (slicesN : Int))) = false := decide_eq_false c4
 refine T_cF 12 K15 K16 b5 ?_
 refine S_exit 0 (by kernel_rfl) ?_
 refine S_exitThen ?_
 refine S_exitThen ?_
 refine S_exitHere ?_
 refine S_then ?_
 refine T_sr 9 K28 K29 ?_
 refine T_n 1 [(0, vs slicesB slicesN slicesC), (23, vi f)] ?_
 refine T_c (some 24) h ?_; clear h
 rintro v H2 ⟨o, l, n, rfl, h⟩
 refine ⟨[(0, vs slicesB slicesN slicesC), (24, vs o l n)], pk, ?_⟩
 refine T_ne 1 [(0, vs slicesB slicesN slicesC), (6, vs o l n)] ?_
 refine T_s K30 K31 ?_
 refine T_sr 10 K32 K33 ?_
 refine T_ne 3 [(6, vs o l n), (25, vs slicesB slicesN slicesC), (26, vi slicesN), (27, vi 0)] ?_
 refine T_b 2 K34 ?_
 obtain ⟨r, m36, i10, i11⟩ := h
 refine S_loop (x := K35) (σ := (Option Addr) × Nat × Nat × Int) (fun s_ => [(6, vs s_.1 s_.2.1 s_.2.2.1), (25, vs slicesB slicesN slicesC), (26, vi slicesN), (27, vi s_.2.2.2)]) (fun s_ H => r s_.1 s_.2.1 s_.2.2.1 s_.2.2.2 H) (fun s_ H => m36 s_.1 s_.2.1 s_.2.2.1 s_.2.2.2 H) ((o, l, n, 0) : (Option Addr) × Nat × Nat × Int) (by kernel_rfl) i10 sk ?_
 rintro ⟨d, newsliceN, newsliceC, s27⟩ H3 i12
 have h := i11 d newsliceN newsliceC s27 H3 i12
 refine T_su [(6, vs d newsliceN newsliceC), (25, vs slicesB slicesN slicesC), (26, vi slicesN), (27, vi s27)] ?_
 refine T_sr 11 K36 K37 ?_
 refine T_ne 1 [(6, vs d newsliceN newsliceC), (25, vs slicesB slicesN slicesC), (26, vi slicesN), (27, vi s27), (28, .bool (decide (s27 < (slicesN : Int))))] ?_
 refine T_s K38 K39 ?_
 by_cases c13 : s27 < (slicesN : Int)
 ·rw [if_pos c13] at h
  have b14 : (decide (s27 < (slicesN : Int))) = true := decide_eq_true c13
  refine T_cT 28 K40 K41 b14 ?_
  refine T_kt ?_
  refine T_s K42 K43 ?_
  refine T_b 3 K44 ?_
  refine T_sr 12 K45 K46 ?_
  refine T_nu [(6, vs d newsliceN newsliceC), (25, vs slicesB slicesN slicesC), (26, vi slicesN), (27, vi s27)] ?_
  obtain ⟨e, rfl, h⟩ := h
  obtain ⟨q15, h⟩ := h
  refine T_ix (some 29) 134 65 1 e slicesN slicesC .i64 s27 Tryz.underlying134 q15.1 q15.2 [(6, vs d newsliceN newsliceC), (25, vs (some e) slicesN slicesC), (26, vi slicesN), (27, vi s27), (29, vp (some (e.add (Int.toNat s27 * 1))))] ?_
  obtain ⟨j, g, m, q16, h⟩ := h
  refine T_l (some 30) 65 q16 [(6, vs d newsliceN newsliceC), (25, vs (some e) slicesN slicesC), (26, vi slicesN), (27, vi s27), (30, vs j g m)] ?_
  refine T_ne 1 [(6, vs d newsliceN newsliceC), (8, vs j g m), (25, vs (some e) slicesN slicesC), (26, vi slicesN), (27, vi s27)] ?_
  refine T_r 13 K46 ?_
  refine T_n 2 [(25, vs (some e) slicesN slicesC), (26, vi slicesN), (27, vi s27), (31, vs d newsliceN newsliceC), (32, vs j g m)] ?_
  refine N_op (some 33) (appendN #[65, 65] 65 #[vs d newsliceN newsliceC, vs j g m]) _ (fun _=>by kernel_rfl) (ss_append (T := 21) (sz := 1) (bytes := 4) (zero := (.int .i32 0 : Value)) Tryz.underlying65 Tryz.underlying65 rfl (show Tryz.prog.info? 21 = some Tryz.t21 from by kernel_rfl) (by kernel_rfl) (by kernel_rfl) (by decide) (by kernel_rfl) (by first | exact h | (simpa only [Value.cells, List.toList_toArray] using h))) ?_; clear h
  rintro _ H4 ⟨ap, p, rfl, h⟩
  refine ⟨[(25, vs (some e) slicesN slicesC), (26, vi slicesN), (27, vi s27), (33, vs ap (newsliceN + g) p)], pk, ?_⟩
  refine T_n 1 [(6, vs ap (newsliceN + g) p), (25, vs (some e) slicesN slicesC), (26, vi slicesN), (27, vi s27)] ?_
  refine N_end (by kernel_rfl) ?_
  refine S_blockEnd ?_
  refine S_then ?_
  refine T_r 14 K43 ?_
  refine T_ne 2 [(6, vs ap (newsliceN + g) p), (25, vs (some e) slicesN slicesC), (26, vi slicesN), (27, vi (IntKind.wrap .i64 (s27 + 1)))] ?_
  exact S_round ((ap, (newsliceN + g), p, (IntKind.wrap .i64 (s27 + 1))) : (Option Addr) × Nat × Nat × Int) sk h
 rw [if_neg c13] at h
 have b14 : (decide (s27 < (slicesN : Int))) = false := decide_eq_false c13
 refine T_cF 28 K40 K41 b14 ?_
 refine S_exit 2 (by kernel_rfl) ?_
 refine S_exitThen ?_
 refine S_exitThen ?_
 refine S_exitHere ?_
 refine S_then ?_
 refine T_sr 15 K47 K48 ?_
 refine T_ne 2 [(2, vs d newsliceN newsliceC)] ?_
 exact T_ret [2] [vs d newsliceN newsliceC] hQ h
end slices_Concat_rune_rune

/-! slices.Index[[]int,int] -/
namespace slices_Backward_api_Word_api_Word_1
def K0 := Func.code Tryz.f162
def K1 := ca K0
def K2 := cb K0
def K3 := ca K2
def K4 := ca K3
def K5 := ca K4
def K6 := cb K4
def K7 := ca K5
def K8 := cb K5
def K9 := ca K8
def K10 := cb K8
def K11 := ca K6
def K12 := cb K6
def K13 := ca K11
def K14 := ca K13
def K15 := cb K13
def K16 := ca K15
def K17 := cb K15
end slices_Backward_api_Word_api_Word_1
def slices_Backward_api_Word_api_Word_1.pt (yield : Value) (cap0 : Option Addr) (H : Array Obj) (R : Value → Array Obj → Prop) : Prop :=
 ∃ b : Addr, cap0 = some b ∧
 ∃ xB : Option Addr, ∃ xN : Nat, ∃ xC : Nat, hat H b = some (.slice xB xN xC) ∧
 ∃ (I5 : Int → Array Obj → Prop) (m5 : Int → Array Obj → Nat), I5 (IntKind.wrap .i64 ((xN : Int) - 1)) H ∧ ∀ (i : Int) (H1 : Array Obj), I5 i H1 →
 if i ≥ 0 then (
 ∃ j : Option Addr, ∃ e : Nat, ∃ g : Nat, hat H1 b = some (.slice j e g) ∧
 ∃ d : Addr, j = some d ∧
 ((0 : Int) ≤ i ∧ i < (e : Int)) ∧
 ∃ x : Int, hat H1 (d.add (Int.toNat i * 1)) = some (.int .u64 x) ∧
 FC Tryz.prog yield #[.int .i64 i, .int .u64 x] H1 (fun v H2 => ∃ f : Bool, v = .bool f ∧ 
 if f = true then (
 (I5 (IntKind.wrap .i64 (i - 1)) H2 ∧ m5 (IntKind.wrap .i64 (i - 1)) H2 < m5 i H1))
 else
 R (.tuple #[]) H2))
 else
 R (.tuple #[]) H1
namespace slices_Backward_api_Word_api_Word_1
set_option maxRecDepth 100000 in
theorem link {yield : Value} {cap0 : Option Addr} {H : Array Obj} {R : Value → Array Obj → Prop} (h : pt yield cap0 H R) : C yield cap0 H R := by
 refine T_en K0 19 Tryz.func162 ?_
 intro w0 Q hQ
 unfold pt at h
 refine T_su [(0, yield), (1, vp cap0)] ?_
 refine T_sr 0 K1 K2 ?_
 obtain ⟨b, rfl, h⟩ := h
 obtain ⟨xB, xN, xC, q1, h⟩ := h
 refine T_l (some 4) 43 q1 [(0, yield), (1, vp (some b)), (4, vs xB xN xC)] ?_
 refine T_ne 3 [(0, yield), (1, vp (some b)), (3, vi (IntKind.wrap .i64 ((xN : Int) - 1)))] ?_
 refine T_b 0 K3 ?_
 obtain ⟨I5, m5, i2, i3⟩ := h
 refine S_loop (x := K4) (σ := Int) (fun s_ => [(0, yield), (1, vp (some b)), (3, vi s_)]) (fun s_ H => I5 s_ H) (fun s_ H => m5 s_ H) ((IntKind.wrap .i64 ((xN : Int) - 1)) : Int) (by kernel_rfl) i2 sk ?_
 rintro i H1 i4
 have h := i3 i H1 i4
 refine T_su [(0, yield), (1, vp (some b)), (3, vi i)] ?_
 refine T_s K5 K6 ?_
 refine T_sr 1 K7 K8 ?_
 refine T_ne 2 [(0, yield), (1, vp (some b)), (3, vi i), (8, .bool (decide (i ≥ 0)))] ?_
 by_cases c5 : i ≥ 0
 ·rw [if_pos c5] at h
  have b6 : (decide (i ≥ 0)) = true := decide_eq_true c5
  refine T_cT 8 K9 K10 b6 ?_
  refine T_kt ?_
  refine T_s K11 K12 ?_
  refine T_b 1 K13 ?_
  refine T_sr 3 K14 K15 ?_
  refine T_n 2 [(0, yield), (1, vp (some b)), (3, vi i), (11, yield), (12, vi i)] ?_
  obtain ⟨j, e, g, q7, h⟩ := h
  refine T_l (some 13) 43 q7 [(0, yield), (1, vp (some b)), (3, vi i), (11, yield), (12, vi i), (13, vs j e g)] ?_
  refine T_n 1 [(0, yield), (1, vp (some b)), (3, vi i), (11, yield), (12, vi i), (13, vs j e g), (14, vi i)] ?_
  obtain ⟨d, rfl, h⟩ := h
  obtain ⟨q8, h⟩ := h
  refine T_ix (some 15) 43 35 1 d e g .i64 i Tryz.underlying43 q8.1 q8.2 [(0, yield), (1, vp (some b)), (3, vi i), (11, yield), (12, vi i), (15, vp (some (d.add (Int.toNat i * 1))))] ?_
  obtain ⟨x, q9, h⟩ := h
  refine T_l (some 16) 35 q9 [(0, yield), (1, vp (some b)), (3, vi i), (11, yield), (12, vi i), (16, vu x)] ?_
  refine N_callv (some 17) yield #[vi i, vu x] (fun _=>by kernel_rfl) h ?_; clear h
  rintro v H2 ⟨f, rfl, h⟩
  refine ⟨[(0, yield), (1, vp (some b)), (3, vi i), (17, .bool f)], pk, ?_⟩
  refine T_ne 1 [(0, yield), (1, vp (some b)), (3, vi i), (18, .bool (!f))] ?_
  by_cases c10 : f = true
  ·rw [if_pos c10] at h
   have b11 : (!f) = false := congrArg Bool.not (c10)
   refine T_cF 18 K16 K17 b11 ?_
   refine T_k ?_
   refine S_blockEnd ?_
   refine S_then ?_
   refine T_r 2 K12 ?_
   refine T_ne 3 [(0, yield), (1, vp (some b)), (3, vi (IntKind.wrap .i64 (i - 1)))] ?_
   exact S_round ((IntKind.wrap .i64 (i - 1)) : Int) sk h
  rw [if_neg c10] at h
  have b11 : (!f) = true := congrArg Bool.not (eq_false_of_ne_true c10)
  refine T_cT 18 K16 K17 b11 ?_
  exact T_ret [] [] hQ h
 rw [if_neg c5] at h
 have b6 : (decide (i ≥ 0)) = false := decide_eq_false c5
 refine T_cF 8 K9 K10 b6 ?_
 refine S_exit 0 (by kernel_rfl) ?_
 refine S_exitThen ?_
 refine S_exitThen ?_
 refine S_exitHere ?_
 exact S_doneN (fn := Tryz.f162) [] hQ (show ResOK _ _ _ [] _ from .nil) h
end slices_Backward_api_Word_api_Word_1

/-! slices.AppendSeq[[]rune,rune] -/
namespace slices_AppendSeq_rune_rune
def K0 := Func.code Tryz.f163
def K1 := ca K0
def K2 := cb K0
def K3 := ca K2
def K4 := cb K2
def K5 := ca K3
def K6 := cb K3
def K7 := ca K6
def K8 := ca K7
def K9 := cb K7
def K10 := ca K9
def K11 := ca K4
def K12 := cb K4
end slices_AppendSeq_rune_rune
def slices_AppendSeq_rune_rune.pt (sB : Option Addr) (sN : Nat) (sC : Nat) (seq : Value) (H : Array Obj) (R : Value → Array Obj → Prop) : Prop :=
 ∀ (b : Nat) (H1 : Array Obj), b = H.size → H1 = H.push (.cells #[.slice sB sN sC] 65) →
 ∀ (rc : LoopState → Option Code → Obj) (lp : Nat) (H2 : Array Obj), lp = H1.size + 1 → H2 = (H1.push (.deferred (some []))).push (rc .ready none) →
 ∀ vY : Value, (∀ (x : Int) (H3 : Array Obj) (vRy : Value → Array Obj → Prop), H3[lp]? = some (rc .ready none) →
 ( H3[lp]? = some (rc .ready none) ∧ ∀ H4 : Array Obj, H4 = setBlk H3 lp (rc .busy none) →
 ∃ xB : Option Addr, ∃ xN : Nat, ∃ xC : Nat, hat H4 (Addr.mk b 0 none) = some (.slice xB xN xC) ∧
 ∀ (i : Nat) (H5 : Array Obj), i = H4.size → H5 = H4.push (.cells #[.int .i32 x] 21) →
 appendK 1 21 4 [.int .i32 0] xB xN xC (some (Addr.mk i 0 none)) 1 H5 (fun ap f H6 =>
 (CanPuts H6 (Addr.mk b 0 none) 0 1) ∧ ∀ H7 : Array Obj, H7 = hputs H6 (Addr.mk b 0 none) [.slice ap (xN + 1) f] 0 →
 H7[lp]? = some (rc .busy none) ∧
 vRy (.bool true) (setBlk H7 lp (rc .ready none)))) →
 FC Tryz.prog vY #[.int .i32 x] H3 vRy) →
 FE Tryz.prog seq #[vY] H2 (fun _ H8 =>
 (H8[lp]? = some (rc .ready none) ∧ ∀ H9 : Array Obj, H9 = setBlk H8 lp (rc .exhausted none) →
 ∃ e : Option Addr, ∃ a : Nat, ∃ d : Nat, hat H9 (Addr.mk b 0 none) = some (.slice e a d) ∧
 Shut (H1.size :: []) H9 (fun j =>
 R (.slice e a d) j)))
namespace slices_AppendSeq_rune_rune
set_option maxRecDepth 100000 in
theorem link {sB : Option Addr} {sN : Nat} {sC : Nat} {seq : Value} {H : Array Obj} {R : Value → Array Obj → Prop} (h : pt sB sN sC seq H R) : C sB sN sC seq H R := by
 refine T_en K0 13 Tryz.func163 ?_
 intro w0 Q hQ
 unfold pt at h
 refine T_su [(0, vs sB sN sC), (1, seq)] ?_
 refine T_sr 0 K1 K2 ?_
 refine T_nw (some 2) (fun b => vp (pa b)) (.cells #[vs sB sN sC] 65) ?_
 intro b H1 e1 e2
 replace h := h b H1 e1 e2
 refine ⟨[(1, seq), (2, vp (pa b))], pk, ?_⟩
 refine T_ne 1 [(1, seq), (2, vp (pa b))] ?_
 refine T_s K3 K4 ?_
 refine T_sr 1 K5 K6 ?_
 refine T_ne 1 [(2, vp (pa b)), (6, seq)] ?_
 refine T_b 0 K7 ?_
 refine S_range (g := .tmp 6) (ps := #[7]) (assign := K8) (body := K9) (seq) (by kernel_rfl) (by kernel_rfl) (by kernel_rfl) ?_
 intro rc lp H2 r3 e4 e5 y6
 refine FE.mono (h rc lp H2 e4 e5 (.func (.yield lp) #[] #[]) ?_) ?_
 ·clear h
  intro x H3 vRy q7 h
  refine y6 #[.int .i32 x] H3 vRy (by kernel_rfl) q7 (fun w1x => ?_)
  refine T_su [(2, vp (pa b)), (6, seq), (7, .int .i32 x)] ?_
  refine T_r 2 K8 ?_
  refine T_n 1 [(2, vp (pa b)), (5, .int .i32 x)] ?_
  refine N_end (by kernel_rfl) ?_
  obtain ⟨q9, h⟩ := h
  refine S_then ?_
  refine S_begin r3 q9 ?_
  intro H4 e8
  replace h := h H4 e8
  refine T_b 1 K10 ?_
  refine T_r 3 K10 ?_
  obtain ⟨xB, xN, xC, q10, h⟩ := h
  refine T_l (some 8) 65 q10 [(2, vp (pa b)), (5, .int .i32 x), (8, vs xB xN xC)] ?_
  refine T_n 1 [(2, vp (pa b)), (8, vs xB xN xC), (9, .int .i32 x)] ?_
  refine T_nw (some 10) (fun b => vs (pa b) 1 1) (.cells #[.int .i32 x] 21) ?_
  intro i H5 e11 e12
  replace h := h i H5 e11 e12
  refine ⟨[(2, vp (pa b)), (8, vs xB xN xC), (10, vs (pa i) 1 1)], pk, ?_⟩
  refine N_op (some 11) (appendN #[65, 65] 65 #[vs xB xN xC, vs (pa i) 1 1]) _ (fun _=>by kernel_rfl) (ss_append (T := 21) (sz := 1) (bytes := 4) (zero := (.int .i32 0 : Value)) Tryz.underlying65 Tryz.underlying65 rfl (show Tryz.prog.info? 21 = some Tryz.t21 from by kernel_rfl) (by kernel_rfl) (by kernel_rfl) (by decide) (by kernel_rfl) (by first | exact h | (simpa only [Value.cells, List.toList_toArray] using h))) ?_; clear h
  rintro _ H6 ⟨ap, f, rfl, h⟩
  refine ⟨[(2, vp (pa b)), (11, vs ap (xN + 1) f)], pk, ?_⟩
  obtain ⟨q14, h⟩ := h
  refine N_skipop none (storeN 65 (vp (pa b)) (vs ap (xN + 1) f)) (fun Hz => Hz = hputs H6 (Addr.mk b 0 none) [vs ap (xN + 1) f] 0) (fun _=>by kernel_rfl) (ss_store [vs ap (xN + 1) f] 1 (by kernel_rfl) (by kernel_rfl) (fun _=>by kernel_rfl) (by kernel_rfl) q14) ?_
  intro H7 e13
  replace h := h H7 e13
  refine ⟨[], pk, ?_⟩
  refine N_end (by kernel_rfl) ?_
  refine S_blockEnd ?_
  obtain ⟨q15, h⟩ := h
  exact S_rnormal r3 q15 h
 clear h y6
 rintro _ H8 (⟨q16, h⟩)
 refine .inl ⟨q16, fun H9 e18 => ?_⟩
 replace h := h H9 e18
 refine S_marks (H1.size :: []) rfl ?_
 refine T_su [(2, vp (pa b))] ?_
 refine S_blockEnd ?_
 refine S_then ?_
 refine T_sr 4 K11 K12 ?_
 obtain ⟨e, a, d, q17, h⟩ := h
 refine T_l (some 12) 65 q17 [(12, vs e a d)] ?_
 refine T_ne 1 [(4, vs e a d)] ?_
 refine S_ret (by kernel_rfl) ?_
 show At _ _ _ _ _ (Q .ret)
 refine S_doneM (fn := Tryz.f163) (H1.size :: []) hQ (Shut.mono (fun j h => ?_) h)
 exact ⟨[vs e a d], (show ResOK _ _ _ [.tmp 4] _ from .tmp (by kernel_rfl) (.nil)), h⟩
end slices_AppendSeq_rune_rune

/-! slices.Grow[[]rune,rune] -/
namespace slices_Grow_rune_rune
def K0 := Func.code Tryz.f166
def K1 := ca K0
def K2 := cb K0
def K3 := ca K2
def K4 := cb K2
def K5 := ca K3
def K6 := cb K3
def K7 := ca K6
def K8 := cb K6
def K9 := ca K4
def K10 := cb K4
def K11 := ca K9
def K12 := cb K9
def K13 := ca K12
def K14 := cb K12
def K15 := ca K14
def K16 := cb K14
def K17 := ca K10
def K18 := cb K10
end slices_Grow_rune_rune
def slices_Grow_rune_rune.pt (sB : Option Addr) (sN : Nat) (sC : Nat) (nv : Int) (H : Array Obj) (R : Value → Array Obj → Prop) : Prop :=
 if nv < 0 then (
 False)
 else
 if (IntKind.wrap .i64 (nv - (IntKind.wrap .i64 ((sC : Int) - (sN : Int))))) > 0 then (
 ∃ (lo hi : Nat), lo = 0 ∧ (sC : Int) = (hi : Int) ∧ lo ≤ hi ∧ hi ≤ sC ∧
 ∀ sl : Option Addr, sl = (if sC = lo then sB else Option.map (fun a : Addr => a.add (lo * 1)) sB) →
 appendZK 1 21 4 [.int .i32 0] sl (hi - lo) (sC - lo) (IntKind.wrap .i64 (nv - (IntKind.wrap .i64 ((sC : Int) - (sN : Int))))) H (fun ap e H1 =>
 ∃ (b d : Nat), b = 0 ∧ (sN : Int) = (d : Int) ∧ b ≤ d ∧ d ≤ e ∧
 ∀ f : Option Addr, f = (if e = b then ap else Option.map (fun a : Addr => a.add (b * 1)) ap) →
 R (.slice f (d - b) (e - b)) H1))
 else
 R (.slice sB sN sC) H
namespace slices_Grow_rune_rune
set_option maxRecDepth 100000 in
theorem link {sB : Option Addr} {sN : Nat} {sC : Nat} {nv : Int} {H : Array Obj} {R : Value → Array Obj → Prop} (h : pt sB sN sC nv H R) : C sB sN sC nv H R := by
 refine T_en K0 27 Tryz.func166 ?_
 intro w0 Q hQ
 unfold pt at h
 refine T_su [(0, vs sB sN sC), (1, vi nv)] ?_
 refine T_sr 0 K1 K2 ?_
 refine T_ne 1 [(0, vs sB sN sC), (1, vi nv)] ?_
 refine T_s K3 K4 ?_
 refine T_sr 1 K5 K6 ?_
 refine T_ne 2 [(0, vs sB sN sC), (1, vi nv), (6, .bool (decide (nv < 0)))] ?_
 by_cases c1 : nv < 0
 ·rw [if_pos c1] at h
  have b2 : (decide (nv < 0)) = true := decide_eq_true c1
  refine T_cT 6 K7 K8 b2 ?_
  refine T_r 2 K7 ?_
  refine T_nu [(0, vs sB sN sC), (1, vi nv)] ?_
  exact h.elim
 rw [if_neg c1] at h
 have b2 : (decide (nv < 0)) = false := decide_eq_false c1
 refine T_cF 6 K7 K8 b2 ?_
 refine T_kt ?_
 refine T_s K9 K10 ?_
 refine T_sr 3 K11 K12 ?_
 refine T_ne 8 [(0, vs sB sN sC), (1, vi (IntKind.wrap .i64 (nv - (IntKind.wrap .i64 ((sC : Int) - (sN : Int))))))] ?_
 refine T_sr 4 K13 K14 ?_
 refine T_ne 2 [(0, vs sB sN sC), (1, vi (IntKind.wrap .i64 (nv - (IntKind.wrap .i64 ((sC : Int) - (sN : Int)))))), (16, .bool (decide ((IntKind.wrap .i64 (nv - (IntKind.wrap .i64 ((sC : Int) - (sN : Int))))) > 0)))] ?_
 by_cases c3 : (IntKind.wrap .i64 (nv - (IntKind.wrap .i64 ((sC : Int) - (sN : Int))))) > 0
 ·rw [if_pos c3] at h
  have b4 : (decide ((IntKind.wrap .i64 (nv - (IntKind.wrap .i64 ((sC : Int) - (sN : Int))))) > 0)) = true := decide_eq_true c3
  refine T_cT 16 K15 K16 b4 ?_
  refine T_r 5 K15 ?_
  refine T_n 3 [(0, vs sB sN sC), (1, vi (IntKind.wrap .i64 (nv - (IntKind.wrap .i64 ((sC : Int) - (sN : Int)))))), (17, vs sB sN sC), (19, vi sC)] ?_
  obtain ⟨lo, hi, q5, q6, q7, q8, h⟩ := h
  obtain ⟨sl, e9⟩ : ∃ B, B = (if sC = lo then sB else Option.map (fun a : Addr => a.add (lo * 1)) sB) := ⟨_, rfl⟩
  replace h := h sl e9
  refine T_v (some 20) (sliceN 65 (vs sB sN sC) none (some (vi sC)) none) (vs sl (hi - lo) (sC - lo)) (fun w _ => (slice_run (P := Tryz.prog) (t := 65) (elem := 21) (sz := 1) (a := sB) (len := sN) (cap := sC) none (some (vi sC)) lo hi Tryz.underlying65 (fun _=>by kernel_rfl) (.inl ⟨rfl, q5⟩) (.inr ⟨.i64, by rw [q6]⟩) q7 q8 w).trans (by rw [e9]; try rfl)) [(0, vs sB sN sC), (1, vi (IntKind.wrap .i64 (nv - (IntKind.wrap .i64 ((sC : Int) - (sN : Int)))))), (20, vs sl (hi - lo) (sC - lo))] ?_
  refine T_n 1 [(0, vs sB sN sC), (20, vs sl (hi - lo) (sC - lo)), (21, vi (IntKind.wrap .i64 (nv - (IntKind.wrap .i64 ((sC : Int) - (sN : Int))))))] ?_
  refine N_op (some 22) (appendN #[65, 3] 65 #[vs sl (hi - lo) (sC - lo), vi (IntKind.wrap .i64 (nv - (IntKind.wrap .i64 ((sC : Int) - (sN : Int)))))]) _ (fun _=>by kernel_rfl) (ss_appendZ (T := 21) (sz := 1) (bytes := 4) (zero := (.int .i32 0 : Value)) Tryz.underlying65 Tryz.underlying3 (show Tryz.prog.info? 21 = some Tryz.t21 from by kernel_rfl) (by kernel_rfl) (by kernel_rfl) (by decide) (by kernel_rfl) (by kernel_rfl) (by first | exact h | (simpa only [Value.cells, List.toList_toArray] using h))) ?_; clear h
  rintro _ H1 ⟨ap, e, rfl, h⟩
  refine ⟨[(0, vs sB sN sC), (22, vs ap ((hi - lo) + Int.toNat (IntKind.wrap .i64 (nv - (IntKind.wrap .i64 ((sC : Int) - (sN : Int)))))) e)], pk, ?_⟩
  refine T_n 2 [(22, vs ap ((hi - lo) + Int.toNat (IntKind.wrap .i64 (nv - (IntKind.wrap .i64 ((sC : Int) - (sN : Int)))))) e), (24, vi sN)] ?_
  obtain ⟨b, d, q10, q11, q12, q13, h⟩ := h
  obtain ⟨f, e14⟩ : ∃ B, B = (if e = b then ap else Option.map (fun a : Addr => a.add (b * 1)) ap) := ⟨_, rfl⟩
  replace h := h f e14
  refine T_v (some 25) (sliceN 65 (vs ap ((hi - lo) + Int.toNat (IntKind.wrap .i64 (nv - (IntKind.wrap .i64 ((sC : Int) - (sN : Int)))))) e) none (some (vi sN)) none) (vs f (d - b) (e - b)) (fun w _ => (slice_run (P := Tryz.prog) (t := 65) (elem := 21) (sz := 1) (a := ap) (len := ((hi - lo) + Int.toNat (IntKind.wrap .i64 (nv - (IntKind.wrap .i64 ((sC : Int) - (sN : Int))))))) (cap := e) none (some (vi sN)) b d Tryz.underlying65 (fun _=>by kernel_rfl) (.inl ⟨rfl, q10⟩) (.inr ⟨.i64, by rw [q11]⟩) q12 q13 w).trans (by rw [e14]; try rfl)) [(25, vs f (d - b) (e - b))] ?_
  refine T_ne 1 [(0, vs f (d - b) (e - b))] ?_
  refine T_sr 6 K17 K18 ?_
  refine T_ne 2 [(4, vs f (d - b) (e - b))] ?_
  exact T_ret [4] [vs f (d - b) (e - b)] hQ h
 rw [if_neg c3] at h
 have b4 : (decide ((IntKind.wrap .i64 (nv - (IntKind.wrap .i64 ((sC : Int) - (sN : Int))))) > 0)) = false := decide_eq_false c3
 refine T_cF 16 K15 K16 b4 ?_
 refine T_kt ?_
 refine T_sr 6 K17 K18 ?_
 refine T_ne 2 [(4, vs sB sN sC)] ?_
 exact T_ret [4] [vs sB sN sC] hQ h
end slices_Grow_rune_rune

end Go.Proofs.YthlohokmnajpoaaGreatDoor
