/- Printed: what each function asks, and that it is sound. -/
import Derived.Test.YthlohokmnajpoaaGreatDoorFnsC
set_option linter.unusedSimpArgs false
set_option linter.unusedVariables false
set_option maxHeartbeats 1000000
noncomputable section
namespace Go.Proofs.YthlohokmnajpoaaGreatDoor
open Go
/-! moraine/texts.is -/
namespace texts_is
def K0 := Func.code Tryz.f57
def K1 := ca K0
def K2 := cb K0
def K3 := ca K2
def K4 := cb K2
def K5 := ca K4
def K6 := cb K4
def K7 := ca K5
def K8 := cb K5
def K9 := ca K8
def K10 := ca K9
def K11 := cb K9
def K12 := ca K11
def K13 := cb K11
def K14 := ca K6
def K15 := cb K6
def K16 := ca K13
def K17 := cb K13
def K18 := ca K17
def K19 := cb K17
def K20 := ca K19
def K21 := cb K19
def K22 := ca K21
def K23 := cb K21
def K24 := ca K23
def K25 := cb K23
def K26 := ca K25
def K27 := cb K25
def K28 := ca K27
def K29 := cb K27
def K30 := ca K29
def K31 := cb K29
def K32 := ca K30
def K33 := cb K30
def K34 := ca K31
def K35 := cb K31
def K36 := ca K35
def K37 := cb K35
end texts_is
def texts_is.pt (hv : Option Addr) (wv : Int) (kind : Int) (H : Array Obj) (R : Value → Array Obj → Prop) : Prop :=
 if kind = 1 then (
 word_Rune.C wv H (fun v H1 => ∃ ra : Int, ∃ rb : Bool, v = .tuple #[.int .i32 ra, .bool rb] ∧ 
 R (.bool rb) H1))
 else
 if kind = 2 then (
 obj_Heap_Type.C hv wv H (fun n H2 => ∃ x : Int, n = .int .i64 x ∧ 
 R (.bool (x == 2)) H2))
 else
 if kind = 3 then (
 word_Int.C wv H (fun o H3 => ∃ g : Int, ∃ b : Bool, o = .tuple #[.int .i64 g, .bool b] ∧ 
 R (.bool b) H3))
 else
 if kind = 4 then (
 obj_Heap_Type.C hv wv H (fun m H4 => ∃ e : Int, m = .int .i64 e ∧ 
 R (.bool (e == 1)) H4))
 else
 if kind = 5 then (
 syms_Name.C hv wv H (fun p H5 => ∃ f : ByteArray, ∃ a : Int, p = .tuple #[.string f, .int .i64 a] ∧ 
 R (.bool (a == 0)) H5))
 else
 if kind = 6 then (
 lists_List.C hv wv H (fun l H6 => ∃ j : Option Addr, ∃ k : Nat, ∃ i : Nat, ∃ d : Bool, l = .tuple #[.slice j k i, .bool d] ∧ 
 R (.bool d) H6))
 else
 R (.bool true) H
namespace texts_is
set_option maxRecDepth 100000 in
theorem link {hv : Option Addr} {wv : Int} {kind : Int} {H : Array Obj} {R : Value → Array Obj → Prop} (h : pt hv wv kind H R) : C hv wv kind H R := by
 refine T_en K0 56 Tryz.func57 ?_
 intro w0 Q hQ
 unfold pt at h
 refine T_su [(0, vp hv), (1, vu wv), (2, vi kind)] ?_
 refine T_sr 0 K1 K2 ?_
 refine T_ne 1 [(0, vp hv), (1, vu wv), (2, vi kind)] ?_
 refine T_sr 1 K3 K4 ?_
 refine T_ne 1 [(0, vp hv), (1, vu wv), (2, vi kind), (7, .bool true)] ?_
 refine T_s K5 K6 ?_
 refine T_sr 2 K7 K8 ?_
 refine T_ne 1 [(0, vp hv), (1, vu wv), (7, .bool true), (10, vi kind)] ?_
 refine T_b 0 K9 ?_
 refine T_sr 3 K10 K11 ?_
 refine T_ne 2 [(0, vp hv), (1, vu wv), (7, .bool true), (10, vi kind), (11, .bool (kind == 1))] ?_
 by_cases c1 : kind = 1
 ·rw [if_pos c1] at h
  have b2 : (kind == 1) = true := beq_iff_eq.mpr c1
  refine T_cT 11 K12 K13 b2 ?_
  refine T_r 4 K12 ?_
  refine T_n 1 [(14, vu wv)] ?_
  refine T_c (some 15) h ?_; clear h
  rintro v H1 ⟨ra, rb, rfl, h⟩
  refine ⟨[(15, .tuple #[.int .i32 ra, .bool rb])], pk, ?_⟩
  refine T_n 4 [(7, .bool rb)] ?_
  refine N_end (by kernel_rfl) ?_
  refine S_blockEnd ?_
  refine S_then ?_
  refine T_sr 16 K14 K15 ?_
  refine T_ne 2 [(6, .bool rb)] ?_
  exact T_ret [6] [.bool rb] hQ h
 rw [if_neg c1] at h
 have b2 : (kind == 1) = false := beq_eq_false_iff_ne.mpr c1
 refine T_cF 11 K12 K13 b2 ?_
 refine T_sr 5 K16 K17 ?_
 refine T_ne 2 [(0, vp hv), (1, vu wv), (7, .bool true), (10, vi kind), (18, .bool (kind == 2))] ?_
 by_cases c3 : kind = 2
 ·rw [if_pos c3] at h
  have b4 : (kind == 2) = true := beq_iff_eq.mpr c3
  refine T_cT 18 K18 K19 b4 ?_
  refine T_r 6 K18 ?_
  refine T_n 2 [(20, vp hv), (21, vu wv)] ?_
  refine T_c (some 22) h ?_; clear h
  rintro n H2 ⟨x, rfl, h⟩
  refine ⟨[(22, vi x)], pk, ?_⟩
  refine T_n 2 [(7, .bool (x == 2))] ?_
  refine N_end (by kernel_rfl) ?_
  refine S_blockEnd ?_
  refine S_then ?_
  refine T_sr 16 K14 K15 ?_
  refine T_ne 2 [(6, .bool (x == 2))] ?_
  exact T_ret [6] [.bool (x == 2)] hQ h
 rw [if_neg c3] at h
 have b4 : (kind == 2) = false := beq_eq_false_iff_ne.mpr c3
 refine T_cF 18 K18 K19 b4 ?_
 refine T_sr 7 K20 K21 ?_
 refine T_ne 2 [(0, vp hv), (1, vu wv), (7, .bool true), (10, vi kind), (24, .bool (kind == 3))] ?_
 by_cases c5 : kind = 3
 ·rw [if_pos c5] at h
  have b6 : (kind == 3) = true := beq_iff_eq.mpr c5
  refine T_cT 24 K22 K23 b6 ?_
  refine T_r 8 K22 ?_
  refine T_n 1 [(27, vu wv)] ?_
  refine T_c (some 28) h ?_; clear h
  rintro o H3 ⟨g, b, rfl, h⟩
  refine ⟨[(28, .tuple #[vi g, .bool b])], pk, ?_⟩
  refine T_n 4 [(7, .bool b)] ?_
  refine N_end (by kernel_rfl) ?_
  refine S_blockEnd ?_
  refine S_then ?_
  refine T_sr 16 K14 K15 ?_
  refine T_ne 2 [(6, .bool b)] ?_
  exact T_ret [6] [.bool b] hQ h
 rw [if_neg c5] at h
 have b6 : (kind == 3) = false := beq_eq_false_iff_ne.mpr c5
 refine T_cF 24 K22 K23 b6 ?_
 refine T_sr 9 K24 K25 ?_
 refine T_ne 2 [(0, vp hv), (1, vu wv), (7, .bool true), (10, vi kind), (31, .bool (kind == 4))] ?_
 by_cases c7 : kind = 4
 ·rw [if_pos c7] at h
  have b8 : (kind == 4) = true := beq_iff_eq.mpr c7
  refine T_cT 31 K26 K27 b8 ?_
  refine T_r 10 K26 ?_
  refine T_n 2 [(33, vp hv), (34, vu wv)] ?_
  refine T_c (some 35) h ?_; clear h
  rintro m H4 ⟨e, rfl, h⟩
  refine ⟨[(35, vi e)], pk, ?_⟩
  refine T_n 2 [(7, .bool (e == 1))] ?_
  refine N_end (by kernel_rfl) ?_
  refine S_blockEnd ?_
  refine S_then ?_
  refine T_sr 16 K14 K15 ?_
  refine T_ne 2 [(6, .bool (e == 1))] ?_
  exact T_ret [6] [.bool (e == 1)] hQ h
 rw [if_neg c7] at h
 have b8 : (kind == 4) = false := beq_eq_false_iff_ne.mpr c7
 refine T_cF 31 K26 K27 b8 ?_
 refine T_sr 11 K28 K29 ?_
 refine T_ne 2 [(0, vp hv), (1, vu wv), (7, .bool true), (10, vi kind), (37, .bool (kind == 5))] ?_
 by_cases c9 : kind = 5
 ·rw [if_pos c9] at h
  have b10 : (kind == 5) = true := beq_iff_eq.mpr c9
  refine T_cT 37 K30 K31 b10 ?_
  refine T_sr 12 K32 K33 ?_
  refine T_n 2 [(40, vp hv), (41, vu wv)] ?_
  refine T_c (some 42) h ?_; clear h
  rintro p H5 ⟨f, a, rfl, h⟩
  refine ⟨[(42, .tuple #[.string f, vi a])], pk, ?_⟩
  refine T_ne 5 [(9, vi a)] ?_
  refine T_r 13 K33 ?_
  refine T_n 3 [(7, .bool (a == 0))] ?_
  refine N_end (by kernel_rfl) ?_
  refine S_blockEnd ?_
  refine S_then ?_
  refine T_sr 16 K14 K15 ?_
  refine T_ne 2 [(6, .bool (a == 0))] ?_
  exact T_ret [6] [.bool (a == 0)] hQ h
 rw [if_neg c9] at h
 have b10 : (kind == 5) = false := beq_eq_false_iff_ne.mpr c9
 refine T_cF 37 K30 K31 b10 ?_
 refine T_sr 14 K34 K35 ?_
 refine T_ne 2 [(0, vp hv), (1, vu wv), (7, .bool true), (47, .bool (kind == 6))] ?_
 by_cases c11 : kind = 6
 ·rw [if_pos c11] at h
  have b12 : (kind == 6) = true := beq_iff_eq.mpr c11
  refine T_cT 47 K36 K37 b12 ?_
  refine T_r 15 K36 ?_
  refine T_n 2 [(50, vp hv), (51, vu wv)] ?_
  refine T_c (some 52) h ?_; clear h
  rintro l H6 ⟨j, k, i, d, rfl, h⟩
  refine ⟨[(52, .tuple #[vs j k i, .bool d])], pk, ?_⟩
  refine T_n 4 [(7, .bool d)] ?_
  refine N_end (by kernel_rfl) ?_
  refine S_blockEnd ?_
  refine S_then ?_
  refine T_sr 16 K14 K15 ?_
  refine T_ne 2 [(6, .bool d)] ?_
  exact T_ret [6] [.bool d] hQ h
 rw [if_neg c11] at h
 have b12 : (kind == 6) = false := beq_eq_false_iff_ne.mpr c11
 refine T_cF 47 K36 K37 b12 ?_
 refine T_k ?_
 refine S_blockEnd ?_
 refine S_then ?_
 refine T_sr 16 K14 K15 ?_
 refine T_ne 2 [(6, .bool true)] ?_
 exact T_ret [6] [.bool true] hQ h
end texts_is

/-! moraine/texts.asks -/
namespace texts_ofChar
def K0 := Func.code Tryz.f60
def K1 := ca K0
def K2 := cb K0
def K3 := ca K2
def K4 := cb K2
def K5 := ca K3
def K6 := cb K3
def K7 := ca K6
def K8 := ca K7
def K9 := cb K7
def K10 := ca K9
def K11 := cb K9
def K12 := ca K10
def K13 := cb K10
def K14 := ca K11
def K15 := cb K11
def K16 := ca K15
def K17 := cb K15
def K18 := ca K16
def K19 := cb K16
def K20 := ca K17
def K21 := cb K17
def K22 := ca K21
def K23 := cb K21
def K24 := ca K22
def K25 := cb K22
def K26 := ca K23
def K27 := cb K23
def K28 := ca K27
def K29 := cb K27
def K30 := ca K28
def K31 := cb K28
def K32 := ca K29
def K33 := cb K29
def K34 := ca K33
def K35 := cb K33
def K36 := ca K34
def K37 := cb K34
def K38 := ca K37
def K39 := cb K37
def K40 := ca K4
def K41 := cb K4
def K42 := ca K35
def K43 := cb K35
def K44 := ca K43
def K45 := cb K43
def K46 := ca K44
def K47 := cb K44
def K48 := ca K47
def K49 := cb K47
end texts_ofChar
def texts_ofChar.pt (nv : Int) (c : Int) (H : Array Obj) (R : Value → Array Obj → Prop) : Prop :=
 if nv = 3 then (
 word_Fix.C (IntKind.wrap .i64 c) H (fun v H1 => ∃ ra : Int, ∃ rb : Int, v = .tuple #[.int .u64 ra, .int .i64 rb] ∧ 
 R (.tuple #[.int .u64 ra, .int .i64 rb]) H1))
 else
 if nv = 7 then (
 texts_small.C c (ByteArray.mk #[97, 98, 99, 100, 101, 102, 103, 104, 105, 106, 107, 108, 109, 110, 111, 112, 113, 114, 115, 116, 117, 118, 119, 120, 121, 122, 65, 66, 67, 68, 69, 70, 71, 72, 73, 74, 75, 76, 77, 78, 79, 80, 81, 82, 83, 84, 85, 86, 87, 88, 89, 90]) H (fun al H2 => ∃ x : Bool, al = .bool x ∧ 
 texts_truth.C x H2 (fun an H3 => ∃ m : Int, ∃ g : Int, an = .tuple #[.int .u64 m, .int .i64 g] ∧ 
 R (.tuple #[.int .u64 m, .int .i64 g]) H3)))
 else
 if nv = 8 then (
 texts_small.C c (ByteArray.mk #[48, 49, 50, 51, 52, 53, 54, 55, 56, 57]) H (fun ai H4 => ∃ u : Bool, ai = .bool u ∧ 
 texts_truth.C u H4 (fun ao H5 => ∃ d : Int, ∃ p : Int, ao = .tuple #[.int .u64 d, .int .i64 p] ∧ 
 R (.tuple #[.int .u64 d, .int .i64 p]) H5)))
 else
 if nv = 9 then (
 texts_small.C c (ByteArray.mk #[32, 9, 10, 11, 12, 13]) H (fun af H6 => ∃ y : Bool, af = .bool y ∧ 
 texts_truth.C y H6 (fun aj H7 => ∃ e : Int, ∃ q : Int, aj = .tuple #[.int .u64 e, .int .i64 q] ∧ 
 R (.tuple #[.int .u64 e, .int .i64 q]) H7)))
 else
 if nv = 5 then (
 texts_small.C c (ByteArray.mk #[97, 98, 99, 100, 101, 102, 103, 104, 105, 106, 107, 108, 109, 110, 111, 112, 113, 114, 115, 116, 117, 118, 119, 120, 121, 122]) H (fun aq H8 => ∃ s : Bool, aq = .bool s ∧ 
 if s = true then (
 word_Char.C (IntKind.wrap .i32 (c - 32)) H8 (fun ap H9 => ∃ b : Int, ∃ k : Int, ap = .tuple #[.int .u64 b, .int .i64 k] ∧ 
 R (.tuple #[.int .u64 b, .int .i64 k]) H9))
 else
 word_Char.C c H8 (fun aa ah => ∃ i : Int, ∃ j : Int, aa = .tuple #[.int .u64 i, .int .i64 j] ∧ 
 R (.tuple #[.int .u64 i, .int .i64 j]) ah)))
 else
 if nv = 6 then (
 texts_small.C c (ByteArray.mk #[65, 66, 67, 68, 69, 70, 71, 72, 73, 74, 75, 76, 77, 78, 79, 80, 81, 82, 83, 84, 85, 86, 87, 88, 89, 90]) H (fun ab ae => ∃ t : Bool, ab = .bool t ∧ 
 if t = true then (
 word_Char.C (IntKind.wrap .i32 (c + 32)) ae (fun ac am => ∃ r : Int, ∃ o : Int, ac = .tuple #[.int .u64 r, .int .i64 o] ∧ 
 R (.tuple #[.int .u64 r, .int .i64 o]) am))
 else
 word_Char.C c ae (fun ad ak => ∃ a : Int, ∃ l : Int, ad = .tuple #[.int .u64 a, .int .i64 l] ∧ 
 R (.tuple #[.int .u64 a, .int .i64 l]) ak)))
 else
 word_Char.C c H (fun z ag => ∃ n : Int, ∃ f : Int, z = .tuple #[.int .u64 n, .int .i64 f] ∧ 
 R (.tuple #[.int .u64 n, .int .i64 f]) ag)
namespace texts_ofChar
set_option maxRecDepth 100000 in
theorem link {nv : Int} {c : Int} {H : Array Obj} {R : Value → Array Obj → Prop} (h : pt nv c H R) : C nv c H R := by
 refine T_en K0 51 Tryz.func60 ?_
 intro w0 Q hQ
 unfold pt at h
 refine T_su [(0, vi nv), (1, .int .i32 c)] ?_
 refine T_sr 0 K1 K2 ?_
 refine T_ne 2 [(0, vi nv), (1, .int .i32 c)] ?_
 refine T_s K3 K4 ?_
 refine T_sr 1 K5 K6 ?_
 refine T_ne 1 [(1, .int .i32 c), (6, vi nv)] ?_
 refine T_b 0 K7 ?_
 refine T_sr 2 K8 K9 ?_
 refine T_ne 2 [(1, .int .i32 c), (6, vi nv), (7, .bool (nv == 3))] ?_
 by_cases c1 : nv = 3
 ·rw [if_pos c1] at h
  have b2 : (nv == 3) = true := beq_iff_eq.mpr c1
  refine T_cT 7 K10 K11 b2 ?_
  refine T_sr 3 K12 K13 ?_
  refine T_n 2 [(10, vi (IntKind.wrap .i64 c))] ?_
  refine T_c (some 11) h ?_; clear h
  rintro v H1 ⟨ra, rb, rfl, h⟩
  refine ⟨[(11, .tuple #[vu ra, vi rb])], pk, ?_⟩
  refine T_ne 4 [(4, vu ra), (5, vi rb)] ?_
  exact T_ret [4, 5] [vu ra, vi rb] hQ h
 rw [if_neg c1] at h
 have b2 : (nv == 3) = false := beq_eq_false_iff_ne.mpr c1
 refine T_cF 7 K10 K11 b2 ?_
 refine T_sr 4 K14 K15 ?_
 refine T_ne 2 [(1, .int .i32 c), (6, vi nv), (14, .bool (nv == 7))] ?_
 by_cases c3 : nv = 7
 ·rw [if_pos c3] at h
  have b4 : (nv == 7) = true := beq_iff_eq.mpr c3
  refine T_cT 14 K16 K17 b4 ?_
  refine T_sr 5 K18 K19 ?_
  refine T_n 1 [(16, .int .i32 c)] ?_
  refine T_c (some 17) h ?_; clear h
  rintro al H2 ⟨x, rfl, h⟩
  refine ⟨[(17, .bool x)], pk, ?_⟩
  refine T_c (some 18) h ?_; clear h
  rintro an H3 ⟨m, g, rfl, h⟩
  refine ⟨[(18, .tuple #[vu m, vi g])], pk, ?_⟩
  refine T_ne 4 [(4, vu m), (5, vi g)] ?_
  exact T_ret [4, 5] [vu m, vi g] hQ h
 rw [if_neg c3] at h
 have b4 : (nv == 7) = false := beq_eq_false_iff_ne.mpr c3
 refine T_cF 14 K16 K17 b4 ?_
 refine T_sr 6 K20 K21 ?_
 refine T_ne 2 [(1, .int .i32 c), (6, vi nv), (21, .bool (nv == 8))] ?_
 by_cases c5 : nv = 8
 ·rw [if_pos c5] at h
  have b6 : (nv == 8) = true := beq_iff_eq.mpr c5
  refine T_cT 21 K22 K23 b6 ?_
  refine T_sr 7 K24 K25 ?_
  refine T_n 1 [(23, .int .i32 c)] ?_
  refine T_c (some 24) h ?_; clear h
  rintro ai H4 ⟨u, rfl, h⟩
  refine ⟨[(24, .bool u)], pk, ?_⟩
  refine T_c (some 25) h ?_; clear h
  rintro ao H5 ⟨d, p, rfl, h⟩
  refine ⟨[(25, .tuple #[vu d, vi p])], pk, ?_⟩
  refine T_ne 4 [(4, vu d), (5, vi p)] ?_
  exact T_ret [4, 5] [vu d, vi p] hQ h
 rw [if_neg c5] at h
 have b6 : (nv == 8) = false := beq_eq_false_iff_ne.mpr c5
 refine T_cF 21 K22 K23 b6 ?_
 refine T_sr 8 K26 K27 ?_
 refine T_ne 2 [(1, .int .i32 c), (6, vi nv), (28, .bool (nv == 9))] ?_
 by_cases c7 : nv = 9
 ·rw [if_pos c7] at h
  have b8 : (nv == 9) = true := beq_iff_eq.mpr c7
  refine T_cT 28 K28 K29 b8 ?_
  refine T_sr 9 K30 K31 ?_
  refine T_n 1 [(30, .int .i32 c)] ?_
  refine T_c (some 31) h ?_; clear h
  rintro af H6 ⟨y, rfl, h⟩
  refine ⟨[(31, .bool y)], pk, ?_⟩
  refine T_c (some 32) h ?_; clear h
  rintro aj H7 ⟨e, q, rfl, h⟩
  refine ⟨[(32, .tuple #[vu e, vi q])], pk, ?_⟩
  refine T_ne 4 [(4, vu e), (5, vi q)] ?_
  exact T_ret [4, 5] [vu e, vi q] hQ h
 rw [if_neg c7] at h
 have b8 : (nv == 9) = false := beq_eq_false_iff_ne.mpr c7
 refine T_cF 28 K28 K29 b8 ?_
 refine T_sr 10 K32 K33 ?_
 refine T_ne 2 [(1, .int .i32 c), (6, vi nv), (35, .bool (nv == 5))] ?_
 by_cases c9 : nv = 5
 ·rw [if_pos c9] at h
  have b10 : (nv == 5) = true := beq_iff_eq.mpr c9
  refine T_cT 35 K34 K35 b10 ?_
  refine T_sr 11 K36 K37 ?_
  refine T_n 1 [(1, .int .i32 c), (37, .int .i32 c)] ?_
  refine T_c (some 38) h ?_; clear h
  rintro aq H8 ⟨s, rfl, h⟩
  refine ⟨[(1, .int .i32 c), (38, .bool s)], pk, ?_⟩
  refine T_e ?_
  by_cases c11 : s = true
  ·rw [if_pos c11] at h
   have b12 : s = true := c11
   refine T_cT 38 K38 K39 b12 ?_
   refine T_r 12 K38 ?_
   refine T_n 3 [(1, .int .i32 (IntKind.wrap .i32 (c - 32)))] ?_
   refine N_end (by kernel_rfl) ?_
   refine S_blockEnd ?_
   refine S_then ?_
   refine T_sr 16 K40 K41 ?_
   refine T_n 1 [(47, .int .i32 (IntKind.wrap .i32 (c - 32)))] ?_
   refine T_c (some 48) h ?_; clear h
   rintro ap H9 ⟨b, k, rfl, h⟩
   refine ⟨[(48, .tuple #[vu b, vi k])], pk, ?_⟩
   refine T_ne 4 [(4, vu b), (5, vi k)] ?_
   exact T_ret [4, 5] [vu b, vi k] hQ h
  rw [if_neg c11] at h
  have b12 : s = false := eq_false_of_ne_true c11
  refine T_cF 38 K38 K39 b12 ?_
  refine T_k ?_
  refine S_blockEnd ?_
  refine S_then ?_
  refine T_sr 16 K40 K41 ?_
  refine T_n 1 [(47, .int .i32 c)] ?_
  refine T_c (some 48) h ?_; clear h
  rintro aa ah ⟨i, j, rfl, h⟩
  refine ⟨[(48, .tuple #[vu i, vi j])], pk, ?_⟩
  refine T_ne 4 [(4, vu i), (5, vi j)] ?_
  exact T_ret [4, 5] [vu i, vi j] hQ h
 rw [if_neg c9] at h
 have b10 : (nv == 5) = false := beq_eq_false_iff_ne.mpr c9
 refine T_cF 35 K34 K35 b10 ?_
 refine T_sr 13 K42 K43 ?_
 refine T_ne 2 [(1, .int .i32 c), (41, .bool (nv == 6))] ?_
 by_cases c13 : nv = 6
 ·rw [if_pos c13] at h
  have b14 : (nv == 6) = true := beq_iff_eq.mpr c13
  refine T_cT 41 K44 K45 b14 ?_
  refine T_sr 14 K46 K47 ?_
  refine T_n 1 [(1, .int .i32 c), (43, .int .i32 c)] ?_
  refine T_c (some 44) h ?_; clear h
  rintro ab ae ⟨t, rfl, h⟩
  refine ⟨[(1, .int .i32 c), (44, .bool t)], pk, ?_⟩
  refine T_e ?_
  by_cases c15 : t = true
  ·rw [if_pos c15] at h
   have b16 : t = true := c15
   refine T_cT 44 K48 K49 b16 ?_
   refine T_r 15 K48 ?_
   refine T_n 3 [(1, .int .i32 (IntKind.wrap .i32 (c + 32)))] ?_
   refine N_end (by kernel_rfl) ?_
   refine S_blockEnd ?_
   refine S_then ?_
   refine T_sr 16 K40 K41 ?_
   refine T_n 1 [(47, .int .i32 (IntKind.wrap .i32 (c + 32)))] ?_
   refine T_c (some 48) h ?_; clear h
   rintro ac am ⟨r, o, rfl, h⟩
   refine ⟨[(48, .tuple #[vu r, vi o])], pk, ?_⟩
   refine T_ne 4 [(4, vu r), (5, vi o)] ?_
   exact T_ret [4, 5] [vu r, vi o] hQ h
  rw [if_neg c15] at h
  have b16 : t = false := eq_false_of_ne_true c15
  refine T_cF 44 K48 K49 b16 ?_
  refine T_k ?_
  refine S_blockEnd ?_
  refine S_then ?_
  refine T_sr 16 K40 K41 ?_
  refine T_n 1 [(47, .int .i32 c)] ?_
  refine T_c (some 48) h ?_; clear h
  rintro ad ak ⟨a, l, rfl, h⟩
  refine ⟨[(48, .tuple #[vu a, vi l])], pk, ?_⟩
  refine T_ne 4 [(4, vu a), (5, vi l)] ?_
  exact T_ret [4, 5] [vu a, vi l] hQ h
 rw [if_neg c13] at h
 have b14 : (nv == 6) = false := beq_eq_false_iff_ne.mpr c13
 refine T_cF 41 K44 K45 b14 ?_
 refine T_k ?_
 refine S_blockEnd ?_
 refine S_then ?_
 refine T_sr 16 K40 K41 ?_
 refine T_n 1 [(47, .int .i32 c)] ?_
 refine T_c (some 48) h ?_; clear h
 rintro z ag ⟨n, f, rfl, h⟩
 refine ⟨[(48, .tuple #[vu n, vi f])], pk, ?_⟩
 refine T_ne 4 [(4, vu n), (5, vi f)] ?_
 exact T_ret [4, 5] [vu n, vi f] hQ h
end texts_ofChar

/-! moraine/texts.letters -/
namespace texts_letters
def K0 := Func.code Tryz.f61
def K1 := ca K0
def K2 := cb K0
def K3 := ca K2
def K4 := cb K2
def K5 := ca K4
def K6 := cb K4
def K7 := ca K5
def K8 := cb K5
def K9 := ca K8
def K10 := ca K9
def K11 := ca K10
def K12 := cb K10
def K13 := ca K12
def K14 := cb K12
def K15 := ca K13
def K16 := cb K13
def K17 := ca K14
def K18 := cb K14
def K19 := ca K17
def K20 := ca K19
def K21 := cb K19
def K22 := ca K21
def K23 := cb K21
def K24 := ca K6
def K25 := cb K6
end texts_letters
def texts_letters.pt (lB : Option Addr) (lN : Nat) (lC : Nat) (H : Array Obj) (R : Value → Array Obj → Prop) : Prop :=
 ∃ (g : (Option Addr) → Nat → Nat → Int → Array Obj → Prop) (m11 : (Option Addr) → Nat → Nat → Int → Array Obj → Nat), g none 0 0 0 H ∧ ∀ (d : Option Addr) (outN : Nat) (outC : Nat) (s10 : Int) (H1 : Array Obj), g d outN outC s10 H1 →
 if s10 < (lN : Int) then (
 ∃ e : Addr, lB = some e ∧
 ((0 : Int) ≤ s10 ∧ s10 < (lN : Int)) ∧
 ∃ x : Int, hat H1 (e.add (Int.toNat s10 * 1)) = some (.int .u64 x) ∧
 word_Rune.C x H1 (fun v H2 => ∃ ra : Int, ∃ rb : Bool, v = .tuple #[.int .i32 ra, .bool rb] ∧ 
 ∀ (b : Nat) (H3 : Array Obj), b = H2.size → H3 = H2.push (.cells #[.int .i32 ra] 21) →
 appendK 1 21 4 [.int .i32 0] d outN outC (some (Addr.mk b 0 none)) 1 H3 (fun ap f H4 =>
 (g ap (outN + 1) f (IntKind.wrap .i64 (s10 + 1)) H4 ∧ m11 ap (outN + 1) f (IntKind.wrap .i64 (s10 + 1)) H4 < m11 d outN outC s10 H1))))
 else
 R (.slice d outN outC) H1
namespace texts_letters
set_option maxRecDepth 100000 in
theorem link {lB : Option Addr} {lN : Nat} {lC : Nat} {H : Array Obj} {R : Value → Array Obj → Prop} (h : pt lB lN lC H R) : C lB lN lC H R := by
 refine T_en K0 25 Tryz.func61 ?_
 intro w0 Q hQ
 unfold pt at h
 refine T_su [(0, vs lB lN lC)] ?_
 refine T_sr 0 K1 K2 ?_
 refine T_ne 1 [(0, vs lB lN lC)] ?_
 refine T_sr 1 K3 K4 ?_
 refine T_ne 1 [(0, vs lB lN lC), (3, vs none 0 0)] ?_
 refine T_s K5 K6 ?_
 refine T_sr 2 K7 K8 ?_
 refine T_ne 3 [(3, vs none 0 0), (8, vs lB lN lC), (9, vi lN), (10, vi 0)] ?_
 refine T_b 0 K9 ?_
 obtain ⟨g, m11, i1, i2⟩ := h
 refine S_loop (x := K10) (σ := (Option Addr) × Nat × Nat × Int) (fun s_ => [(3, vs s_.1 s_.2.1 s_.2.2.1), (8, vs lB lN lC), (9, vi lN), (10, vi s_.2.2.2)]) (fun s_ H => g s_.1 s_.2.1 s_.2.2.1 s_.2.2.2 H) (fun s_ H => m11 s_.1 s_.2.1 s_.2.2.1 s_.2.2.2 H) ((none, 0, 0, 0) : (Option Addr) × Nat × Nat × Int) (by kernel_rfl) i1 sk ?_
 rintro ⟨d, outN, outC, s10⟩ H1 i3
 have h := i2 d outN outC s10 H1 i3
 refine T_su [(3, vs d outN outC), (8, vs lB lN lC), (9, vi lN), (10, vi s10)] ?_
 refine T_sr 3 K11 K12 ?_
 refine T_ne 1 [(3, vs d outN outC), (8, vs lB lN lC), (9, vi lN), (10, vi s10), (11, .bool (decide (s10 < (lN : Int))))] ?_
 refine T_s K13 K14 ?_
 by_cases c4 : s10 < (lN : Int)
 ·rw [if_pos c4] at h
  have b5 : (decide (s10 < (lN : Int))) = true := decide_eq_true c4
  refine T_cT 11 K15 K16 b5 ?_
  refine T_kt ?_
  refine T_s K17 K18 ?_
  refine T_b 1 K19 ?_
  refine T_sr 4 K20 K21 ?_
  refine T_nu [(3, vs d outN outC), (8, vs lB lN lC), (9, vi lN), (10, vi s10)] ?_
  obtain ⟨e, rfl, h⟩ := h
  obtain ⟨q6, h⟩ := h
  refine T_ix (some 12) 43 35 1 e lN lC .i64 s10 Tryz.underlying43 q6.1 q6.2 [(3, vs d outN outC), (8, vs (some e) lN lC), (9, vi lN), (10, vi s10), (12, vp (some (e.add (Int.toNat s10 * 1))))] ?_
  obtain ⟨x, q7, h⟩ := h
  refine T_l (some 13) 35 q7 [(3, vs d outN outC), (8, vs (some e) lN lC), (9, vi lN), (10, vi s10), (13, vu x)] ?_
  refine T_ne 1 [(3, vs d outN outC), (5, vu x), (8, vs (some e) lN lC), (9, vi lN), (10, vi s10)] ?_
  refine T_sr 5 K22 K23 ?_
  refine T_n 1 [(3, vs d outN outC), (8, vs (some e) lN lC), (9, vi lN), (10, vi s10), (15, vu x)] ?_
  refine T_c (some 16) h ?_; clear h
  rintro v H2 ⟨ra, rb, rfl, h⟩
  refine ⟨[(3, vs d outN outC), (8, vs (some e) lN lC), (9, vi lN), (10, vi s10), (16, .tuple #[.int .i32 ra, .bool rb])], pk, ?_⟩
  refine T_ne 5 [(3, vs d outN outC), (6, .int .i32 ra), (8, vs (some e) lN lC), (9, vi lN), (10, vi s10)] ?_
  refine T_r 6 K23 ?_
  refine T_n 2 [(8, vs (some e) lN lC), (9, vi lN), (10, vi s10), (19, vs d outN outC), (20, .int .i32 ra)] ?_
  refine T_nw (some 21) (fun b => vs (pa b) 1 1) (.cells #[.int .i32 ra] 21) ?_
  intro b H3 e8 e9
  replace h := h b H3 e8 e9
  refine ⟨[(8, vs (some e) lN lC), (9, vi lN), (10, vi s10), (19, vs d outN outC), (21, vs (pa b) 1 1)], pk, ?_⟩
  refine N_op (some 22) (appendN #[65, 65] 65 #[vs d outN outC, vs (pa b) 1 1]) _ (fun _=>by kernel_rfl) (ss_append (T := 21) (sz := 1) (bytes := 4) (zero := (.int .i32 0 : Value)) Tryz.underlying65 Tryz.underlying65 rfl (show Tryz.prog.info? 21 = some Tryz.t21 from by kernel_rfl) (by kernel_rfl) (by kernel_rfl) (by decide) (by kernel_rfl) (by first | exact h | (simpa only [Value.cells, List.toList_toArray] using h))) ?_; clear h
  rintro _ H4 ⟨ap, f, rfl, h⟩
  refine ⟨[(8, vs (some e) lN lC), (9, vi lN), (10, vi s10), (22, vs ap (outN + 1) f)], pk, ?_⟩
  refine T_n 1 [(3, vs ap (outN + 1) f), (8, vs (some e) lN lC), (9, vi lN), (10, vi s10)] ?_
  refine N_end (by kernel_rfl) ?_
  refine S_blockEnd ?_
  refine S_then ?_
  refine T_r 7 K18 ?_
  refine T_ne 2 [(3, vs ap (outN + 1) f), (8, vs (some e) lN lC), (9, vi lN), (10, vi (IntKind.wrap .i64 (s10 + 1)))] ?_
  exact S_round ((ap, (outN + 1), f, (IntKind.wrap .i64 (s10 + 1))) : (Option Addr) × Nat × Nat × Int) sk h
 rw [if_neg c4] at h
 have b5 : (decide (s10 < (lN : Int))) = false := decide_eq_false c4
 refine T_cF 11 K15 K16 b5 ?_
 refine S_exit 0 (by kernel_rfl) ?_
 refine S_exitThen ?_
 refine S_exitThen ?_
 refine S_exitHere ?_
 refine S_then ?_
 refine T_sr 8 K24 K25 ?_
 refine T_ne 2 [(2, vs d outN outC)] ?_
 exact T_ret [2] [vs d outN outC] hQ h
end texts_letters

/-! moraine/texts.truth -/
namespace texts_made
def K0 := Func.code Tryz.f65
def K1 := ca K0
def K2 := cb K0
def K3 := ca K2
def K4 := cb K2
end texts_made
def texts_made.pt (hv : Option Addr) (lB : Option Addr) (lN : Nat) (lC : Nat) (H : Array Obj) (R : Value → Array Obj → Prop) : Prop :=
 ∃ rs : List Int, (SrcAt H lB (rs.map (Value.int .i32)) ∧ (lB ≠ none → rs.length = lN)) ∧
 obj_Heap_String.C hv (runesStr rs) H (fun v H1 => ∃ ra : Int, ∃ rb : Int, v = .tuple #[.int .u64 ra, .int .i64 rb] ∧ 
 R (.tuple #[.int .u64 ra, .int .i64 rb]) H1)
namespace texts_made
set_option maxRecDepth 100000 in
theorem link {hv : Option Addr} {lB : Option Addr} {lN : Nat} {lC : Nat} {H : Array Obj} {R : Value → Array Obj → Prop} (h : pt hv lB lN lC H R) : C hv lB lN lC H R := by
 refine T_en K0 12 Tryz.func65 ?_
 intro w0 Q hQ
 unfold pt at h
 refine T_su [(0, vp hv), (1, vs lB lN lC)] ?_
 refine T_sr 0 K1 K2 ?_
 refine T_ne 2 [(0, vp hv), (1, vs lB lN lC)] ?_
 refine T_sr 1 K3 K4 ?_
 refine T_n 2 [(6, vp hv), (7, vs lB lN lC)] ?_
 obtain ⟨rs, q1, h⟩ := h
 refine T_v (some 8) (convertN 65 9 (vs lB lN lC)) (.string (runesStr rs)) (fun w hw => convert_runes Tryz.underlying65 Tryz.underlying9 Tryz.underlying21 (by rw [hw]; exact q1.1) q1.2) [(6, vp hv), (8, .string (runesStr rs))] ?_
 refine T_c (some 9) h ?_; clear h
 rintro v H1 ⟨ra, rb, rfl, h⟩
 refine ⟨[(9, .tuple #[vu ra, vi rb])], pk, ?_⟩
 refine T_ne 4 [(4, vu ra), (5, vi rb)] ?_
 exact T_ret [4, 5] [vu ra, vi rb] hQ h
end texts_made

/-! moraine/texts.ofList -/
namespace texts_ofList
def K0 := Func.code Tryz.f68
def K1 := ca K0
def K2 := cb K0
def K3 := ca K2
def K4 := cb K2
def K5 := ca K3
def K6 := cb K3
def K7 := ca K6
def K8 := cb K6
def K9 := ca K7
def K10 := cb K7
def K11 := ca K4
def K12 := cb K4
def K13 := ca K11
def K14 := cb K11
def K15 := ca K14
def K16 := ca K15
def K17 := ca K16
def K18 := cb K16
def K19 := ca K18
def K20 := cb K18
def K21 := ca K19
def K22 := cb K19
def K23 := ca K20
def K24 := cb K20
def K25 := ca K23
def K26 := ca K25
def K27 := cb K25
def K28 := ca K27
def K29 := cb K27
def K30 := ca K29
def K31 := cb K29
def K32 := ca K30
def K33 := cb K30
def K34 := ca K12
def K35 := cb K12
end texts_ofList
def texts_ofList.pt (hv : Option Addr) (nv : Int) (lB : Option Addr) (lN : Nat) (lC : Nat) (H : Array Obj) (R : Value → Array Obj → Prop) : Prop :=
 if nv = 31 then (
 obj_Heap_Make.C hv 1 0 lB lN lC H (fun v H1 => ∃ ra : Int, ∃ rb : Int, v = .tuple #[.int .u64 ra, .int .i64 rb] ∧ 
 R (.tuple #[.int .u64 ra, .int .i64 rb]) H1))
 else
 ∃ (j : Int → Array Obj → Prop) (m17 : Int → Array Obj → Nat), j 0 H ∧ ∀ (b : Int) (H2 : Array Obj), j b H2 →
 if b < (lN : Int) then (
 ∃ d : Addr, lB = some d ∧
 ((0 : Int) ≤ b ∧ b < (lN : Int)) ∧
 ∃ x : Int, hat H2 (d.add (Int.toNat b * 1)) = some (.int .u64 x) ∧
 texts_is.C hv x 1 H2 (fun m H3 => ∃ e : Bool, m = .bool e ∧ 
 if e = true then (
 (j (IntKind.wrap .i64 (b + 1)) H3 ∧ m17 (IntKind.wrap .i64 (b + 1)) H3 < m17 b H2))
 else
 R (.tuple #[.int .u64 0, .int .i64 3]) H3))
 else
 texts_letters.C lB lN lC H2 (fun n H4 => ∃ xB : Option Addr, ∃ xN : Nat, ∃ xC : Nat, n = .slice xB xN xC ∧ 
 texts_made.C hv xB xN xC H4 (fun l H5 => ∃ g : Int, ∃ f : Int, l = .tuple #[.int .u64 g, .int .i64 f] ∧ 
 R (.tuple #[.int .u64 g, .int .i64 f]) H5))
namespace texts_ofList
set_option maxRecDepth 100000 in
theorem link {hv : Option Addr} {nv : Int} {lB : Option Addr} {lN : Nat} {lC : Nat} {H : Array Obj} {R : Value → Array Obj → Prop} (h : pt hv nv lB lN lC H R) : C hv nv lB lN lC H R := by
 refine T_en K0 34 Tryz.func68 ?_
 intro w0 Q hQ
 unfold pt at h
 refine T_su [(0, vp hv), (1, vi nv), (2, vs lB lN lC)] ?_
 refine T_sr 0 K1 K2 ?_
 refine T_ne 2 [(0, vp hv), (1, vi nv), (2, vs lB lN lC)] ?_
 refine T_s K3 K4 ?_
 refine T_sr 1 K5 K6 ?_
 refine T_ne 2 [(0, vp hv), (2, vs lB lN lC), (11, .bool (nv == 31))] ?_
 by_cases c1 : nv = 31
 ·rw [if_pos c1] at h
  have b2 : (nv == 31) = true := beq_iff_eq.mpr c1
  refine T_cT 11 K7 K8 b2 ?_
  refine T_sr 2 K9 K10 ?_
  refine T_n 2 [(12, vp hv), (13, vs lB lN lC)] ?_
  refine T_c (some 14) h ?_; clear h
  rintro v H1 ⟨ra, rb, rfl, h⟩
  refine ⟨[(14, .tuple #[vu ra, vi rb])], pk, ?_⟩
  refine T_ne 4 [(6, vu ra), (7, vi rb)] ?_
  exact T_ret [6, 7] [vu ra, vi rb] hQ h
 rw [if_neg c1] at h
 have b2 : (nv == 31) = false := beq_eq_false_iff_ne.mpr c1
 refine T_cF 11 K7 K8 b2 ?_
 refine T_kt ?_
 refine T_s K11 K12 ?_
 refine T_sr 3 K13 K14 ?_
 refine T_ne 3 [(0, vp hv), (2, vs lB lN lC), (17, vs lB lN lC), (18, vi lN), (19, vi 0)] ?_
 refine T_b 0 K15 ?_
 obtain ⟨j, m17, i3, i4⟩ := h
 refine S_loop (x := K16) (σ := Int) (fun s_ => [(0, vp hv), (2, vs lB lN lC), (17, vs lB lN lC), (18, vi lN), (19, vi s_)]) (fun s_ H => j s_ H) (fun s_ H => m17 s_ H) (0 : Int) (by kernel_rfl) i3 sk ?_
 rintro b H2 i5
 have h := i4 b H2 i5
 refine T_su [(0, vp hv), (2, vs lB lN lC), (17, vs lB lN lC), (18, vi lN), (19, vi b)] ?_
 refine T_sr 4 K17 K18 ?_
 refine T_ne 1 [(0, vp hv), (2, vs lB lN lC), (17, vs lB lN lC), (18, vi lN), (19, vi b), (20, .bool (decide (b < (lN : Int))))] ?_
 refine T_s K19 K20 ?_
 by_cases c6 : b < (lN : Int)
 ·rw [if_pos c6] at h
  have b7 : (decide (b < (lN : Int))) = true := decide_eq_true c6
  refine T_cT 20 K21 K22 b7 ?_
  refine T_kt ?_
  refine T_s K23 K24 ?_
  refine T_b 1 K25 ?_
  refine T_sr 5 K26 K27 ?_
  refine T_nu [(0, vp hv), (2, vs lB lN lC), (17, vs lB lN lC), (18, vi lN), (19, vi b)] ?_
  obtain ⟨d, rfl, h⟩ := h
  obtain ⟨q8, h⟩ := h
  refine T_ix (some 21) 43 35 1 d lN lC .i64 b Tryz.underlying43 q8.1 q8.2 [(0, vp hv), (2, vs (some d) lN lC), (17, vs (some d) lN lC), (18, vi lN), (19, vi b), (21, vp (some (d.add (Int.toNat b * 1))))] ?_
  obtain ⟨x, q9, h⟩ := h
  refine T_l (some 22) 35 q9 [(0, vp hv), (2, vs (some d) lN lC), (17, vs (some d) lN lC), (18, vi lN), (19, vi b), (22, vu x)] ?_
  refine T_ne 1 [(0, vp hv), (2, vs (some d) lN lC), (9, vu x), (17, vs (some d) lN lC), (18, vi lN), (19, vi b)] ?_
  refine T_sr 6 K28 K29 ?_
  refine T_n 2 [(0, vp hv), (2, vs (some d) lN lC), (17, vs (some d) lN lC), (18, vi lN), (19, vi b), (23, vp hv), (24, vu x)] ?_
  refine T_c (some 25) h ?_; clear h
  rintro m H3 ⟨e, rfl, h⟩
  refine ⟨[(0, vp hv), (2, vs (some d) lN lC), (17, vs (some d) lN lC), (18, vi lN), (19, vi b), (25, .bool e)], pk, ?_⟩
  refine T_ne 1 [(0, vp hv), (2, vs (some d) lN lC), (17, vs (some d) lN lC), (18, vi lN), (19, vi b), (26, .bool (!e))] ?_
  by_cases c10 : e = true
  ·rw [if_pos c10] at h
   have b11 : (!e) = false := congrArg Bool.not (c10)
   refine T_cF 26 K30 K31 b11 ?_
   refine T_k ?_
   refine S_blockEnd ?_
   refine S_then ?_
   refine T_r 8 K24 ?_
   refine T_ne 2 [(0, vp hv), (2, vs (some d) lN lC), (17, vs (some d) lN lC), (18, vi lN), (19, vi (IntKind.wrap .i64 (b + 1)))] ?_
   exact S_round ((IntKind.wrap .i64 (b + 1)) : Int) sk h
  rw [if_neg c10] at h
  have b11 : (!e) = true := congrArg Bool.not (eq_false_of_ne_true c10)
  refine T_cT 26 K30 K31 b11 ?_
  refine T_sr 7 K32 K33 ?_
  refine T_ne 2 [(6, vu 0), (7, vi 3)] ?_
  exact T_ret [6, 7] [vu 0, vi 3] hQ h
 rw [if_neg c6] at h
 have b7 : (decide (b < (lN : Int))) = false := decide_eq_false c6
 refine T_cF 20 K21 K22 b7 ?_
 refine S_exit 0 (by kernel_rfl) ?_
 refine S_exitThen ?_
 refine S_exitThen ?_
 refine S_exitHere ?_
 refine S_then ?_
 refine T_sr 9 K34 K35 ?_
 refine T_n 2 [(28, vp hv), (29, vs lB lN lC)] ?_
 refine T_c (some 30) h ?_; clear h
 rintro n H4 ⟨xB, xN, xC, rfl, h⟩
 refine ⟨[(28, vp hv), (30, vs xB xN xC)], pk, ?_⟩
 refine T_c (some 31) h ?_; clear h
 rintro l H5 ⟨g, f, rfl, h⟩
 refine ⟨[(31, .tuple #[vu g, vi f])], pk, ?_⟩
 refine T_ne 4 [(6, vu g), (7, vi f)] ?_
 exact T_ret [6, 7] [vu g, vi f] hQ h
end texts_ofList

/-! moraine/texts.row -/
namespace texts_row
def K0 := Func.code Tryz.f69
def K1 := ca K0
def K2 := cb K0
def K3 := ca K2
def K4 := cb K2
def K5 := ca K4
def K6 := cb K4
def K7 := ca K5
def K8 := cb K5
def K9 := ca K8
def K10 := ca K9
def K11 := cb K9
def K12 := ca K11
def K13 := ca K12
def K14 := cb K12
def K15 := ca K14
def K16 := cb K14
def K17 := ca K16
def K18 := cb K16
def K19 := ca K17
def K20 := cb K17
def K21 := ca K6
def K22 := cb K6
end texts_row
def texts_row.pt (hv : Option Addr) (lB : Option Addr) (lN : Nat) (lC : Nat) (H : Array Obj) (R : Value → Array Obj → Prop) : Prop :=
 ∀ (b : Nat) (H1 : Array Obj), b = H.size → H1 = H.push (.cells #[.pointer hv] 30) →
 ∀ (a : Nat) (H2 : Array Obj), a = H1.size → H2 = H1.push (.cells #[.int .u64 0] 35) →
 ∀ (d : Nat) (H3 : Array Obj), d = H2.size → H3 = H2.push (.cells #[.int .i64 0] 31) →
 (CanPuts H3 (Addr.mk a 0 none) 0 1) ∧ ∀ H4 : Array Obj, H4 = hputs H3 (Addr.mk a 0 none) [.int .u64 20] 0 →
 slices_Backward_api_Word_api_Word.C lB lN lC H4 (fun v H5 => v = v ∧ 
 ∀ (rc : LoopState → Option Code → Obj) (lp : Nat) (H6 : Array Obj), lp = H5.size + 1 → H6 = (H5.push (.deferred (some []))).push (rc .ready none) →
 ∀ vY : Value, (∀ (t : Int) (x_3 : Int) (H7 : Array Obj) (vRy : Value → Array Obj → Prop), H7[lp]? = some (rc .ready none) →
 ( H7[lp]? = some (rc .ready none) ∧ ∀ H8 : Array Obj, H8 = setBlk H7 lp (rc .busy none) →
 ∃ k : Option Addr, hat H8 (Addr.mk b 0 none) = some (.pointer k) ∧
 ∃ o : Int, hat H8 (Addr.mk a 0 none) = some (.int .u64 o) ∧
 obj_Heap_Cons.C k x_3 o H8 (fun ac H9 => ∃ ra : Int, ∃ rb : Int, ac = .tuple #[.int .u64 ra, .int .i64 rb] ∧ 
 (CanPuts H9 (Addr.mk a 0 none) 0 1) ∧ ∀ n : Array Obj, n = hputs H9 (Addr.mk a 0 none) [.int .u64 ra] 0 →
 (CanPuts n (Addr.mk d 0 none) 0 1) ∧ ∀ i : Array Obj, i = hputs n (Addr.mk d 0 none) [.int .i64 rb] 0 →
 ∃ j : Int, hat i (Addr.mk d 0 none) = some (.int .i64 j) ∧
 if j = 0 then (
 i[lp]? = some (rc .busy none) ∧
 vRy (.bool true) (setBlk i lp (rc .ready none)))
 else
 ∃ f : Int, hat i (Addr.mk d 0 none) = some (.int .i64 f) ∧
 (CanPuts i (Addr.mk a 0 none) 0 1) ∧ ∀ m : Array Obj, m = hputs i (Addr.mk a 0 none) [.int .u64 0] 0 → RowAt m (Addr.mk d 0 none) 0 [.int .i64 f] ∧ 
 (CanPuts m (Addr.mk d 0 none) 0 1) ∧ ∀ s : Array Obj, s = hputs m (Addr.mk d 0 none) [.int .i64 f] 0 → 
 s[lp]? = some (rc .busy none) ∧
 vRy (.bool false) (setBlk s lp (rc .done (some .ret))))) →
 FC Tryz.prog vY #[.int .i64 t, .int .u64 x_3] H7 vRy) →
 FE Tryz.prog v #[vY] H6 (fun _ q =>
 (q[lp]? = some (rc .ready none) ∧ ∀ e : Array Obj, e = setBlk q lp (rc .exhausted none) →
 ∃ l : Int, hat e (Addr.mk a 0 none) = some (.int .u64 l) ∧
 (CanPuts e (Addr.mk a 0 none) 0 1) ∧ ∀ p : Array Obj, p = hputs e (Addr.mk a 0 none) [.int .u64 l] 0 →
 (CanPuts p (Addr.mk d 0 none) 0 1) ∧ ∀ y : Array Obj, y = hputs p (Addr.mk d 0 none) [.int .i64 0] 0 →
 Shut (H5.size :: []) y (fun u =>
 ∃ r : Int, hat u (Addr.mk a 0 none) = some (.int .u64 r) ∧
 ∃ aa : Int, hat u (Addr.mk d 0 none) = some (.int .i64 aa) ∧
 R (.tuple #[.int .u64 r, .int .i64 aa]) u)) ∨
 (q[lp]? = some (rc .done (some .ret)) ∧ ∀ e : Array Obj, e = setBlk q lp (rc .exhausted (some .ret)) →
 Shut (H5.size :: []) e (fun ab =>
 ∃ x : Int, hat ab (Addr.mk a 0 none) = some (.int .u64 x) ∧
 ∃ z : Int, hat ab (Addr.mk d 0 none) = some (.int .i64 z) ∧
 R (.tuple #[.int .u64 x, .int .i64 z]) ab))))
namespace texts_row
set_option maxRecDepth 100000 in
theorem link {hv : Option Addr} {lB : Option Addr} {lN : Nat} {lC : Nat} {H : Array Obj} {R : Value → Array Obj → Prop} (h : pt hv lB lN lC H R) : C hv lB lN lC H R := by
 refine T_en K0 23 Tryz.func69 ?_
 intro w0 Q hQ
 unfold pt at h
 refine T_su [(0, vp hv), (1, vs lB lN lC)] ?_
 refine T_sr 0 K1 K2 ?_
 refine T_nw (some 2) (fun b => vp (pa b)) (.cells #[vp hv] 30) ?_
 intro b H1 e1 e2
 replace h := h b H1 e1 e2
 refine ⟨[(1, vs lB lN lC), (2, vp (pa b))], pk, ?_⟩
 refine T_nw (some 4) (fun b => vp (pa b)) (.cells #[vu 0] 35) ?_
 intro a H2 e3 e4
 replace h := h a H2 e3 e4
 refine ⟨[(1, vs lB lN lC), (2, vp (pa b)), (4, vp (pa a))], pk, ?_⟩
 refine T_nw (some 5) (fun b => vp (pa b)) (.cells #[vi 0] 31) ?_
 intro d H3 e5 e6
 replace h := h d H3 e5 e6
 refine ⟨[(1, vs lB lN lC), (2, vp (pa b)), (4, vp (pa a)), (5, vp (pa d))], pk, ?_⟩
 refine T_e ?_
 refine T_sr 1 K3 K4 ?_
 obtain ⟨q8, h⟩ := h
 refine N_skipop none (storeN 35 (vp (pa a)) (vu 20)) (fun Hz => Hz = hputs H3 (Addr.mk a 0 none) [vu 20] 0) (fun _=>by kernel_rfl) (ss_store [vu 20] 1 (by kernel_rfl) (by kernel_rfl) (fun _=>by kernel_rfl) (by kernel_rfl) q8) ?_
 intro H4 e7
 replace h := h H4 e7
 refine ⟨[(1, vs lB lN lC), (2, vp (pa b)), (4, vp (pa a)), (5, vp (pa d))], pk, ?_⟩
 refine T_e ?_
 refine T_s K5 K6 ?_
 refine T_sr 2 K7 K8 ?_
 refine T_n 1 [(2, vp (pa b)), (4, vp (pa a)), (5, vp (pa d)), (8, vs lB lN lC)] ?_
 refine T_c (some 9) h ?_; clear h
 rintro v H5 ⟨-, h⟩
 refine ⟨[(2, vp (pa b)), (4, vp (pa a)), (5, vp (pa d)), (9, v)], pk, ?_⟩
 refine T_e ?_
 refine T_b 0 K9 ?_
 refine S_range (g := .tmp 9) (ps := #[10, 11]) (assign := K10) (body := K11) (v) (by kernel_rfl) (by kernel_rfl) (by kernel_rfl) ?_
 intro rc lp H6 r9 e10 e11 y12
 refine FE.mono (h rc lp H6 e10 e11 (.func (.yield lp) #[] #[]) ?_) ?_
 ·clear h
  intro t x_3 H7 vRy q13 h
  refine y12 #[vi t, vu x_3] H7 vRy (by kernel_rfl) q13 (fun w1x => ?_)
  refine T_su [(2, vp (pa b)), (4, vp (pa a)), (5, vp (pa d)), (9, v), (10, vi t), (11, vu x_3)] ?_
  refine T_r 3 K10 ?_
  refine T_n 1 [(2, vp (pa b)), (4, vp (pa a)), (5, vp (pa d)), (7, vu x_3)] ?_
  refine N_end (by kernel_rfl) ?_
  obtain ⟨q15, h⟩ := h
  refine S_then ?_
  refine S_begin r9 q15 ?_
  intro H8 e14
  replace h := h H8 e14
  refine T_b 1 K12 ?_
  refine T_sr 4 K13 K14 ?_
  obtain ⟨k, q16, h⟩ := h
  refine T_l (some 13) 30 q16 [(4, vp (pa a)), (5, vp (pa d)), (7, vu x_3), (13, vp k)] ?_
  refine T_n 1 [(4, vp (pa a)), (5, vp (pa d)), (13, vp k), (14, vu x_3)] ?_
  obtain ⟨o, q17, h⟩ := h
  refine T_l (some 15) 35 q17 [(4, vp (pa a)), (5, vp (pa d)), (13, vp k), (14, vu x_3), (15, vu o)] ?_
  refine T_c (some 16) h ?_; clear h
  rintro ac H9 ⟨ra, rb, rfl, h⟩
  refine ⟨[(4, vp (pa a)), (5, vp (pa d)), (16, .tuple #[vu ra, vi rb])], pk, ?_⟩
  refine T_n 3 [(4, vp (pa a)), (5, vp (pa d)), (17, vu ra), (18, vi rb)] ?_
  obtain ⟨q19, h⟩ := h
  refine N_skipop none (storeN 35 (vp (pa a)) (vu ra)) (fun Hz => Hz = hputs H9 (Addr.mk a 0 none) [vu ra] 0) (fun _=>by kernel_rfl) (ss_store [vu ra] 1 (by kernel_rfl) (by kernel_rfl) (fun _=>by kernel_rfl) (by kernel_rfl) q19) ?_
  intro n e18
  replace h := h n e18
  refine ⟨[(4, vp (pa a)), (5, vp (pa d)), (18, vi rb)], pk, ?_⟩
  obtain ⟨q21, h⟩ := h
  refine N_skipop none (storeN 31 (vp (pa d)) (vi rb)) (fun Hz => Hz = hputs n (Addr.mk d 0 none) [vi rb] 0) (fun _=>by kernel_rfl) (ss_store [vi rb] 1 (by kernel_rfl) (by kernel_rfl) (fun _=>by kernel_rfl) (by kernel_rfl) q21) ?_
  intro i e20
  replace h := h i e20
  refine ⟨[(4, vp (pa a)), (5, vp (pa d))], pk, ?_⟩
  refine T_e ?_
  refine T_sr 5 K15 K16 ?_
  obtain ⟨j, q22, h⟩ := h
  refine T_l (some 19) 31 q22 [(4, vp (pa a)), (5, vp (pa d)), (19, vi j)] ?_
  refine T_ne 1 [(4, vp (pa a)), (5, vp (pa d)), (20, .bool (j != 0))] ?_
  by_cases c23 : j = 0
  ·rw [if_pos c23] at h
   have b24 : (j != 0) = false := bne_eq_false_iff_eq.mpr c23
   refine T_cF 20 K17 K18 b24 ?_
   refine T_k ?_
   refine S_blockEnd ?_
   obtain ⟨q25, h⟩ := h
   exact S_rnormal r9 q25 h
  rw [if_neg c23] at h
  have b24 : (j != 0) = true := bne_iff_ne.mpr c23
  refine T_cT 20 K17 K18 b24 ?_
  refine T_s K19 K20 ?_
  obtain ⟨f, q26, h⟩ := h
  refine S_regionG 6 (Code.ops K19) [(2, (Addr.mk d 0 none), [vi f])] 3 (bv 3 0) (by kernel_rfl) (by kernel_rfl) (by kernel_rfl) (by kernel_rfl) (by kernel_rfl) (show FactsAt _ _ _ from ⟨⟨q26, trivial⟩, trivial⟩) ?_
  refine T_g 0 (some 21) (vi f) (bv 3 1) [(4, vp (pa a)), (5, vp (pa d)), (21, vi f)] (loadN 31 (vp (pa d))) (held_one 2 (fun _=>by kernel_rfl) (List.Mem.head _) (.inl (by kernel_rfl))) ?_
  obtain ⟨q29, h⟩ := h
  refine G_onlyskip 1 none (bv 3 3) (storeN 35 (vp (pa a)) (vu 0)) (fun Hz => Hz = hputs i (Addr.mk a 0 none) [vu 0] 0) (by kernel_rfl) (fun _=>by kernel_rfl) (ss_store [vu 0] 1 (by kernel_rfl) (by kernel_rfl) (fun _=>by kernel_rfl) (by kernel_rfl) q29) (by kernel_rfl) ?_
  intro m e28
  replace h := h m e28
  obtain ⟨f27, h⟩ := h
  refine ⟨[(5, vp (pa d)), (21, vi f)], pk, (show FactsAt _ _ _ from ⟨f27, trivial⟩), ?_⟩
  obtain ⟨q31, h⟩ := h
  refine G_onlyskip 2 none (bv 3 7) (storeN 31 (vp (pa d)) (vi f)) (fun Hz => Hz = hputs m (Addr.mk d 0 none) [vi f] 0) (by kernel_rfl) (fun _=>by kernel_rfl) (ss_store [vi f] 1 (by kernel_rfl) (by kernel_rfl) (fun _=>by kernel_rfl) (by kernel_rfl) q31) (by kernel_rfl) ?_
  intro s e30
  replace h := h s e30
  refine ⟨[], pk, (show FactsAt _ _ _ from ⟨trivial, trivial⟩), ?_⟩
  refine G_sub [] sk ?_
  refine G_end (by kernel_rfl) ?_
  refine S_then ?_
  refine S_ret (by kernel_rfl) ?_
  show At _ _ _ _ _ (roundPost _ _ _ .ret)
  obtain ⟨q32, h⟩ := h
  exact S_rret r9 q32 h
 clear h y12
 rintro _ q (⟨q33, h⟩ | ⟨q33, h⟩)
 ·refine .inl ⟨q33, fun e e43 => ?_⟩
  replace h := h e e43
  refine S_marks (H5.size :: []) rfl ?_
  refine T_su [(4, vp (pa a)), (5, vp (pa d))] ?_
  refine S_blockEnd ?_
  refine S_then ?_
  refine T_sr 7 K21 K22 ?_
  obtain ⟨l, q34, h⟩ := h
  refine T_l (some 22) 35 q34 [(4, vp (pa a)), (5, vp (pa d)), (22, vu l)] ?_
  obtain ⟨q36, h⟩ := h
  refine N_skipop none (storeN 35 (vp (pa a)) (vu l)) (fun Hz => Hz = hputs e (Addr.mk a 0 none) [vu l] 0) (fun _=>by kernel_rfl) (ss_store [vu l] 1 (by kernel_rfl) (by kernel_rfl) (fun _=>by kernel_rfl) (by kernel_rfl) q36) ?_
  intro p e35
  replace h := h p e35
  refine ⟨[(4, vp (pa a)), (5, vp (pa d))], pk, ?_⟩
  obtain ⟨q38, h⟩ := h
  refine N_skipop none (storeN 31 (vp (pa d)) (vi 0)) (fun Hz => Hz = hputs p (Addr.mk d 0 none) [vi 0] 0) (fun _=>by kernel_rfl) (ss_store [vi 0] 1 (by kernel_rfl) (by kernel_rfl) (fun _=>by kernel_rfl) (by kernel_rfl) q38) ?_
  intro y e37
  replace h := h y e37
  refine ⟨[(4, vp (pa a)), (5, vp (pa d))], pk, ?_⟩
  refine T_e ?_
  refine S_ret (by kernel_rfl) ?_
  show At _ _ _ _ _ (Q .ret)
  refine S_doneM (fn := Tryz.f69) (H5.size :: []) hQ (Shut.mono (fun u h => ?_) h)
  obtain ⟨r, q39, h⟩ := h
  obtain ⟨aa, q40, h⟩ := h
  exact ⟨[vu r, vi aa], (show ResOK _ _ _ [.cell 4 35, .cell 5 31] _ from .cell (by kernel_rfl) (loadOK_one (fun _=>by kernel_rfl) q39) (.cell (by kernel_rfl) (loadOK_one (fun _=>by kernel_rfl) q40) (.nil))), h⟩
 refine .inr ⟨_, q33, fun e e43 => ?_⟩
 replace h := h e e43
 refine S_marks (H5.size :: []) rfl ?_
 refine T_su [(4, vp (pa a)), (5, vp (pa d))] ?_
 refine S_ret rfl ?_
 show At _ _ _ _ _ (Q .ret)
 refine S_doneM (fn := Tryz.f69) (H5.size :: []) hQ (Shut.mono (fun ab h => ?_) h)
 obtain ⟨x, q41, h⟩ := h
 obtain ⟨z, q42, h⟩ := h
 exact ⟨[vu x, vi z], (show ResOK _ _ _ [.cell 4 35, .cell 5 31] _ from .cell (by kernel_rfl) (loadOK_one (fun _=>by kernel_rfl) q41) (.cell (by kernel_rfl) (loadOK_one (fun _=>by kernel_rfl) q42) (.nil))), h⟩
end texts_row

/-! moraine/texts.words -/
namespace texts_words
def K0 := Func.code Tryz.f70
def K1 := ca K0
def K2 := cb K0
def K3 := ca K2
def K4 := cb K2
def K5 := ca K4
def K6 := cb K4
def K7 := ca K5
def K8 := cb K5
def K9 := ca K8
def K10 := ca K9
def K11 := ca K10
def K12 := cb K10
def K13 := ca K12
def K14 := cb K12
def K15 := ca K13
def K16 := cb K13
def K17 := ca K14
def K18 := cb K14
def K19 := ca K17
def K20 := ca K19
def K21 := cb K19
def K22 := ca K21
def K23 := cb K21
def K24 := ca K6
def K25 := cb K6
end texts_words
def texts_words.pt (hv : Option Addr) (v : Int) (H : Array Obj) (R : Value → Array Obj → Prop) : Prop :=
 obj_Heap_Len.C hv v H (fun e H1 => ∃ x : Int, e = .int .i64 x ∧ 
 ∃ (d : (Option Addr) → Nat → Nat → Int → Array Obj → Prop) (m11 : (Option Addr) → Nat → Nat → Int → Array Obj → Nat), d none 0 0 0 H1 ∧ ∀ (lB : Option Addr) (lN : Nat) (lC : Nat) (s12 : Int) (H2 : Array Obj), d lB lN lC s12 H2 →
 if s12 < x then (
 obj_Heap_Get.C hv v 1 s12 H2 (fun f H3 => ∃ ra : Int, ∃ rb : Int, f = .tuple #[.int .u64 ra, .int .i64 rb] ∧ 
 ∀ (b : Nat) (H4 : Array Obj), b = H3.size → H4 = H3.push (.cells #[.int .u64 ra] 35) →
 appendK 1 35 8 [.int .u64 0] lB lN lC (some (Addr.mk b 0 none)) 1 H4 (fun ap a H5 =>
 (d ap (lN + 1) a (IntKind.wrap .i64 (s12 + 1)) H5 ∧ m11 ap (lN + 1) a (IntKind.wrap .i64 (s12 + 1)) H5 < m11 lB lN lC s12 H2))))
 else
 R (.slice lB lN lC) H2)
namespace texts_words
set_option maxRecDepth 100000 in
theorem link {hv : Option Addr} {v : Int} {H : Array Obj} {R : Value → Array Obj → Prop} (h : pt hv v H R) : C hv v H R := by
 refine T_en K0 28 Tryz.func70 ?_
 intro w0 Q hQ
 unfold pt at h
 refine T_su [(0, vp hv), (1, vu v)] ?_
 refine T_sr 0 K1 K2 ?_
 refine T_ne 1 [(0, vp hv), (1, vu v)] ?_
 refine T_sr 1 K3 K4 ?_
 refine T_ne 1 [(0, vp hv), (1, vu v), (5, vs none 0 0)] ?_
 refine T_s K5 K6 ?_
 refine T_sr 2 K7 K8 ?_
 refine T_n 2 [(0, vp hv), (1, vu v), (5, vs none 0 0), (9, vp hv), (10, vu v)] ?_
 refine T_c (some 11) h ?_; clear h
 rintro e H1 ⟨x, rfl, h⟩
 refine ⟨[(0, vp hv), (1, vu v), (5, vs none 0 0), (11, vi x)], pk, ?_⟩
 refine T_ne 1 [(0, vp hv), (1, vu v), (5, vs none 0 0), (11, vi x), (12, vi 0)] ?_
 refine T_b 0 K9 ?_
 obtain ⟨d, m11, i1, i2⟩ := h
 refine S_loop (x := K10) (σ := (Option Addr) × Nat × Nat × Int) (fun s_ => [(0, vp hv), (1, vu v), (5, vs s_.1 s_.2.1 s_.2.2.1), (11, vi x), (12, vi s_.2.2.2)]) (fun s_ H => d s_.1 s_.2.1 s_.2.2.1 s_.2.2.2 H) (fun s_ H => m11 s_.1 s_.2.1 s_.2.2.1 s_.2.2.2 H) ((none, 0, 0, 0) : (Option Addr) × Nat × Nat × Int) (by kernel_rfl) i1 sk ?_
 rintro ⟨lB, lN, lC, s12⟩ H2 i3
 have h := i2 lB lN lC s12 H2 i3
 refine T_su [(0, vp hv), (1, vu v), (5, vs lB lN lC), (11, vi x), (12, vi s12)] ?_
 refine T_sr 3 K11 K12 ?_
 refine T_ne 1 [(0, vp hv), (1, vu v), (5, vs lB lN lC), (11, vi x), (12, vi s12), (13, .bool (decide (s12 < x)))] ?_
 refine T_s K13 K14 ?_
 by_cases c4 : s12 < x
 ·rw [if_pos c4] at h
  have b5 : (decide (s12 < x)) = true := decide_eq_true c4
  refine T_cT 13 K15 K16 b5 ?_
  refine T_kt ?_
  refine T_s K17 K18 ?_
  refine T_b 1 K19 ?_
  refine T_sr 4 K20 K21 ?_
  refine T_ne 2 [(0, vp hv), (1, vu v), (5, vs lB lN lC), (6, vi s12), (11, vi x), (12, vi s12)] ?_
  refine T_sr 5 K22 K23 ?_
  refine T_n 3 [(0, vp hv), (1, vu v), (5, vs lB lN lC), (11, vi x), (12, vi s12), (16, vp hv), (17, vu v), (18, vi s12)] ?_
  refine T_c (some 19) h ?_; clear h
  rintro f H3 ⟨ra, rb, rfl, h⟩
  refine ⟨[(0, vp hv), (1, vu v), (5, vs lB lN lC), (11, vi x), (12, vi s12), (19, .tuple #[vu ra, vi rb])], pk, ?_⟩
  refine T_ne 5 [(0, vp hv), (1, vu v), (5, vs lB lN lC), (7, vu ra), (11, vi x), (12, vi s12)] ?_
  refine T_r 6 K23 ?_
  refine T_n 2 [(0, vp hv), (1, vu v), (11, vi x), (12, vi s12), (22, vs lB lN lC), (23, vu ra)] ?_
  refine T_nw (some 24) (fun b => vs (pa b) 1 1) (.cells #[vu ra] 35) ?_
  intro b H4 e6 e7
  replace h := h b H4 e6 e7
  refine ⟨[(0, vp hv), (1, vu v), (11, vi x), (12, vi s12), (22, vs lB lN lC), (24, vs (pa b) 1 1)], pk, ?_⟩
  refine N_op (some 25) (appendN #[43, 43] 43 #[vs lB lN lC, vs (pa b) 1 1]) _ (fun _=>by kernel_rfl) (ss_append (T := 35) (sz := 1) (bytes := 8) (zero := (vu 0 : Value)) Tryz.underlying43 Tryz.underlying43 rfl (show Tryz.prog.info? 35 = some Tryz.t35 from by kernel_rfl) (by kernel_rfl) (by kernel_rfl) (by decide) (by kernel_rfl) (by first | exact h | (simpa only [Value.cells, List.toList_toArray] using h))) ?_; clear h
  rintro _ H5 ⟨ap, a, rfl, h⟩
  refine ⟨[(0, vp hv), (1, vu v), (11, vi x), (12, vi s12), (25, vs ap (lN + 1) a)], pk, ?_⟩
  refine T_n 1 [(0, vp hv), (1, vu v), (5, vs ap (lN + 1) a), (11, vi x), (12, vi s12)] ?_
  refine N_end (by kernel_rfl) ?_
  refine S_blockEnd ?_
  refine S_then ?_
  refine T_r 7 K18 ?_
  refine T_ne 2 [(0, vp hv), (1, vu v), (5, vs ap (lN + 1) a), (11, vi x), (12, vi (IntKind.wrap .i64 (s12 + 1)))] ?_
  exact S_round ((ap, (lN + 1), a, (IntKind.wrap .i64 (s12 + 1))) : (Option Addr) × Nat × Nat × Int) sk h
 rw [if_neg c4] at h
 have b5 : (decide (s12 < x)) = false := decide_eq_false c4
 refine T_cF 13 K15 K16 b5 ?_
 refine S_exit 0 (by kernel_rfl) ?_
 refine S_exitThen ?_
 refine S_exitThen ?_
 refine S_exitHere ?_
 refine S_then ?_
 refine T_sr 8 K24 K25 ?_
 refine T_ne 2 [(4, vs lB lN lC)] ?_
 exact T_ret [4] [vs lB lN lC] hQ h
end texts_words

/-! moraine/texts.ofText -/
namespace texts_ofText
def K0 := Func.code Tryz.f71
def K1 := ca K0
def K2 := cb K0
def K3 := ca K2
def K4 := cb K2
def K5 := ca K4
def K6 := cb K4
def K7 := ca K5
def K8 := cb K5
def K9 := ca K8
def K10 := ca K9
def K11 := ca K10
def K12 := cb K10
def K13 := ca K12
def K14 := cb K12
def K15 := ca K13
def K16 := cb K13
def K17 := ca K14
def K18 := cb K14
def K19 := ca K17
def K20 := ca K19
def K21 := cb K19
def K22 := ca K21
def K23 := cb K21
def K24 := ca K23
def K25 := cb K23
def K26 := ca K6
def K27 := cb K6
def K28 := ca K26
def K29 := cb K26
def K30 := ca K29
def K31 := ca K30
def K32 := cb K30
def K33 := ca K32
def K34 := cb K32
def K35 := ca K33
def K36 := cb K33
def K37 := ca K34
def K38 := cb K34
def K39 := ca K38
def K40 := cb K38
def K41 := ca K39
def K42 := cb K39
def K43 := ca K41
def K44 := cb K41
def K45 := ca K44
def K46 := cb K44
def K47 := ca K46
def K48 := cb K46
def K49 := ca K47
def K50 := cb K47
def K51 := ca K42
def K52 := cb K42
def K53 := ca K40
def K54 := cb K40
def K55 := ca K54
def K56 := cb K54
def K57 := ca K55
def K58 := cb K55
def K59 := ca K58
def K60 := cb K58
def K61 := ca K56
def K62 := cb K56
def K63 := ca K61
def K64 := cb K61
def K65 := ca K64
def K66 := cb K64
def K67 := ca K62
def K68 := cb K62
def K69 := ca K67
def K70 := cb K67
def K71 := ca K68
def K72 := cb K68
def K73 := ca K72
def K74 := cb K72
def K75 := ca K73
def K76 := cb K73
def K77 := ca K74
def K78 := cb K74
def K79 := ca K78
def K80 := cb K78
def K81 := ca K79
def K82 := cb K79
def K83 := ca K80
def K84 := cb K80
def K85 := ca K84
def K86 := cb K84
def K87 := ca K85
def K88 := cb K85
def K89 := ca K27
def K90 := cb K27
def K91 := ca K66
def K92 := cb K66
def K93 := ca K92
def K94 := cb K92
end texts_ofText
set_option maxRecDepth 100000 in def texts_ofText.pt (hv : Option Addr) (nv : Int) (argsB : Option Addr) (argsN : Nat) (argsC : Nat) (H : Array Obj) (R : Value → Array Obj → Prop) : Prop :=
 ∃ (bl : (Option Addr) → Nat → Nat → Int → Array Obj → Prop) (m11 : (Option Addr) → Nat → Nat → Int → Array Obj → Nat), bl none 0 0 0 H ∧ ∀ (d : Option Addr) (allN : Nat) (allC : Nat) (s16 : Int) (H1 : Array Obj), bl d allN allC s16 H1 →
 if s16 < (argsN : Int) then (
 ∃ g : Addr, argsB = some g ∧
 ((0 : Int) ≤ s16 ∧ s16 < (argsN : Int)) ∧
 ∃ x : Int, hat H1 (g.add (Int.toNat s16 * 1)) = some (.int .u64 x) ∧
 texts_is.C hv x 2 H1 (fun v H2 => ∃ a7 : Bool, v = .bool a7 ∧ 
 if a7 = true then (
 texts_runes.C hv x H2 (fun bk H3 => bk = bk ∧ 
 slices_Collect_rune.C bk H3 (fun co H4 => ∃ xB : Option Addr, ∃ xN : Nat, ∃ xC : Nat, co = .slice xB xN xC ∧ 
 ∀ (b : Nat) (H5 : Array Obj), b = H4.size → H5 = H4.push (.cells #[.slice xB xN xC] 65) →
 appendK 1 65 24 [.slice none 0 0] d allN allC (some (Addr.mk b 0 none)) 1 H5 (fun ap be H6 =>
 (bl ap (allN + 1) be (IntKind.wrap .i64 (s16 + 1)) H6 ∧ m11 ap (allN + 1) be (IntKind.wrap .i64 (s16 + 1)) H6 < m11 d allN allC s16 H1)))))
 else
 (bl d allN allC (IntKind.wrap .i64 (s16 + 1)) H2 ∧ m11 d allN allC (IntKind.wrap .i64 (s16 + 1)) H2 < m11 d allN allC s16 H1)))
 else
 if nv = 17 then (
 ∃ ac : Addr, d = some ac ∧
 ((0 : Int) ≤ 0 ∧ 0 < (allN : Int)) ∧
 ∃ br : Option Addr, ∃ al : Nat, ∃ bp : Nat, hat H1 (ac.add (Int.toNat 0 * 1)) = some (.slice br al bp) ∧
 word_Fix.C (al : Int) H1 (fun cr H7 => ∃ ra : Int, ∃ rb : Int, cr = .tuple #[.int .u64 ra, .int .i64 rb] ∧ 
 R (.tuple #[.int .u64 ra, .int .i64 rb]) H7))
 else
 if nv = 18 then (
 ∃ q : Addr, argsB = some q ∧
 ((0 : Int) ≤ 1 ∧ 1 < (argsN : Int)) ∧
 ∃ bj : Int, hat H1 (q.add (Int.toNat 1 * 1)) = some (.int .u64 bj) ∧
 texts_number.C bj H1 (fun cs H8 => ∃ l : Int, cs = .int .i64 l ∧ 
 if l ≥ 0 then (
 ∃ j : Addr, d = some j ∧
 ((0 : Int) ≤ 0 ∧ 0 < (allN : Int)) ∧
 ∃ bo : Option Addr, ∃ ag : Nat, ∃ bq : Nat, hat H8 (j.add (Int.toNat 0 * 1)) = some (.slice bo ag bq) ∧
 if l < (ag : Int) then (
 ((0 : Int) ≤ 0 ∧ 0 < (allN : Int)) ∧
 ∃ a0 : Option Addr, ∃ ah : Nat, ∃ aj : Nat, hat H8 (j.add (Int.toNat 0 * 1)) = some (.slice a0 ah aj) ∧
 ∃ ai : Addr, a0 = some ai ∧
 ((0 : Int) ≤ l ∧ l < (ah : Int)) ∧
 ∃ bm : Int, hat H8 (ai.add (Int.toNat l * 1)) = some (.int .i32 bm) ∧
 word_Char.C bm H8 (fun cd H9 => ∃ a3 : Int, ∃ ar : Int, cd = .tuple #[.int .u64 a3, .int .i64 ar] ∧ 
 R (.tuple #[.int .u64 a3, .int .i64 ar]) H9))
 else
 R (.tuple #[.int .u64 0, .int .i64 4]) H8)
 else
 R (.tuple #[.int .u64 0, .int .i64 4]) H8))
 else
 if nv = 19 then (
 ∃ e : Addr, argsB = some e ∧
 ((0 : Int) ≤ 2 ∧ 2 < (argsN : Int)) ∧
 ∃ bn : Int, hat H1 (e.add (Int.toNat 2 * 1)) = some (.int .u64 bn) ∧
 word_Rune.C bn H1 (fun cg bu => ∃ r : Int, ∃ bs : Bool, cg = .tuple #[.int .i32 r, .bool bs] ∧ 
 ((0 : Int) ≤ 0 ∧ 0 < (argsN : Int)) ∧
 ∃ ae : Int, hat bu (e.add (Int.toNat 0 * 1)) = some (.int .u64 ae) ∧
 ((0 : Int) ≤ 1 ∧ 1 < (argsN : Int)) ∧
 ∃ a6 : Int, hat bu (e.add (Int.toNat 1 * 1)) = some (.int .u64 a6) ∧
 texts_number.C a6 bu (fun ch b0 => ∃ bh : Int, ch = .int .i64 bh ∧ RowAt b0 (e.add (Int.toNat 0 * 1)) 0 [.int .u64 ae] ∧ 
 texts_set.C hv ae bh r b0 (fun ck cn => ∃ u : Int, ∃ ab : Int, ck = .tuple #[.int .u64 u, .int .i64 ab] ∧ 
 R (.tuple #[.int .u64 u, .int .i64 ab]) cn))))
 else
 ∃ J : Bool → Array Obj → Prop, (
 if nv = 20 then (
 J true H1)
 else
 if nv = 21 then (
 J true H1)
 else
 J (nv == 22) H1) ∧ ∀ (a5 : Bool) (H13 : Array Obj), J a5 H13 →
 if a5 = true then (
 texts_rises.C nv d allN allC H13 (fun b6 ce => ∃ bi : Bool, b6 = .bool bi ∧ 
 texts_truth.C bi ce (fun b7 cj => ∃ ao : Int, ∃ au : Int, b7 = .tuple #[.int .u64 ao, .int .i64 au] ∧ 
 R (.tuple #[.int .u64 ao, .int .i64 au]) cj)))
 else
 if nv = 23 then (
 ∃ m : Addr, d = some m ∧
 ((0 : Int) ≤ 0 ∧ 0 < (allN : Int)) ∧
 ∃ o : Option Addr, ∃ n : Nat, ∃ p : Nat, hat H13 (m.add (Int.toNat 0 * 1)) = some (.slice o n p) ∧
 ∃ f : Addr, argsB = some f ∧
 ((0 : Int) ≤ 1 ∧ 1 < (argsN : Int)) ∧
 ∃ ad : Int, hat H13 (f.add (Int.toNat 1 * 1)) = some (.int .u64 ad) ∧
 ((0 : Int) ≤ 2 ∧ 2 < (argsN : Int)) ∧
 ∃ af : Int, hat H13 (f.add (Int.toNat 2 * 1)) = some (.int .u64 af) ∧
 texts_number.C ad H13 (fun b8 bt => ∃ a1 : Int, b8 = .int .i64 a1 ∧ RowAt bt (m.add (Int.toNat 0 * 1)) 0 [.slice o n p] ∧ RowAt bt (f.add (Int.toNat 2 * 1)) 0 [.int .u64 af] ∧ 
 texts_number.C af bt (fun cc b1 => ∃ bf : Int, cc = .int .i64 bf ∧ RowAt b1 (m.add (Int.toNat 0 * 1)) 0 [.slice o n p] ∧ 
 texts_cut.C hv o n p a1 bf b1 (fun bw cq => ∃ s : Int, ∃ aa : Int, bw = .tuple #[.int .u64 s, .int .i64 aa] ∧ 
 R (.tuple #[.int .u64 s, .int .i64 aa]) cq))))
 else
 if nv = 26 then (
 ∃ y : Addr, d = some y ∧
 ((0 : Int) ≤ 0 ∧ 0 < (allN : Int)) ∧
 ∃ a2 : Option Addr, ∃ am : Nat, ∃ a4 : Nat, hat H13 (y.add (Int.toNat 0 * 1)) = some (.slice a2 am a4) ∧
 texts_chars.C a2 am a4 H13 (fun bx ci => ∃ bg : Option Addr, ∃ bd : Nat, ∃ bb : Nat, bx = .slice bg bd bb ∧ 
 texts_row.C hv bg bd bb ci (fun b4 cl => ∃ ax : Int, ∃ aw : Int, b4 = .tuple #[.int .u64 ax, .int .i64 aw] ∧ 
 R (.tuple #[.int .u64 ax, .int .i64 aw]) cl)))
 else
 if nv = 28 then (
 ∃ z : Addr, d = some z ∧
 ((0 : Int) ≤ 0 ∧ 0 < (allN : Int)) ∧
 ∃ ak : Option Addr, ∃ av : Nat, ∃ ba : Nat, hat H13 (z.add (Int.toNat 0 * 1)) = some (.slice ak av ba) ∧
 ∃ rs : List Int, (SrcAt H13 ak (rs.map (Value.int .i32)) ∧ (ak ≠ none → rs.length = av)) ∧
 syms_Intern.C hv (runesStr rs) H13 (fun b2 cf => ∃ az : Int, ∃ ay : Int, b2 = .tuple #[.int .u64 az, .int .i64 ay] ∧ 
 R (.tuple #[.int .u64 az, .int .i64 ay]) cf))
 else
 slices_Concat_rune_rune.C d allN allC H13 (fun b3 cp => ∃ a8 : Option Addr, ∃ a9 : Nat, ∃ bc : Nat, b3 = .slice a8 a9 bc ∧ 
 texts_made.C hv a8 a9 bc cp (fun bz cm => ∃ an : Int, ∃ aq : Int, bz = .tuple #[.int .u64 an, .int .i64 aq] ∧ 
 R (.tuple #[.int .u64 an, .int .i64 aq]) cm))
namespace texts_ofText
set_option maxRecDepth 100000 in
theorem link {hv : Option Addr} {nv : Int} {argsB : Option Addr} {argsN : Nat} {argsC : Nat} {H : Array Obj} {R : Value → Array Obj → Prop} (h : pt hv nv argsB argsN argsC H R) : C hv nv argsB argsN argsC H R := by
 refine T_en K0 140 Tryz.func71 ?_
 intro w0 Q hQ
 unfold pt at h
 refine T_su [(0, vp hv), (1, vi nv), (2, vs argsB argsN argsC)] ?_
 refine T_sr 0 K1 K2 ?_
 refine T_ne 2 [(0, vp hv), (1, vi nv), (2, vs argsB argsN argsC)] ?_
 refine T_sr 1 K3 K4 ?_
 refine T_ne 1 [(0, vp hv), (1, vi nv), (2, vs argsB argsN argsC), (8, vs none 0 0)] ?_
 refine T_s K5 K6 ?_
 refine T_sr 2 K7 K8 ?_
 refine T_ne 3 [(0, vp hv), (1, vi nv), (2, vs argsB argsN argsC), (8, vs none 0 0), (14, vs argsB argsN argsC), (15, vi argsN), (16, vi 0)] ?_
 refine T_b 0 K9 ?_
 obtain ⟨bl, m11, i1, i2⟩ := h
 refine S_loop (x := K10) (σ := (Option Addr) × Nat × Nat × Int) (fun s_ => [(0, vp hv), (1, vi nv), (2, vs argsB argsN argsC), (8, vs s_.1 s_.2.1 s_.2.2.1), (14, vs argsB argsN argsC), (15, vi argsN), (16, vi s_.2.2.2)]) (fun s_ H => bl s_.1 s_.2.1 s_.2.2.1 s_.2.2.2 H) (fun s_ H => m11 s_.1 s_.2.1 s_.2.2.1 s_.2.2.2 H) ((none, 0, 0, 0) : (Option Addr) × Nat × Nat × Int) (by kernel_rfl) i1 sk ?_
 rintro ⟨d, allN, allC, s16⟩ H1 i3
 have h := i2 d allN allC s16 H1 i3
 refine T_su [(0, vp hv), (1, vi nv), (2, vs argsB argsN argsC), (8, vs d allN allC), (14, vs argsB argsN argsC), (15, vi argsN), (16, vi s16)] ?_
 refine T_sr 3 K11 K12 ?_
 refine T_ne 1 [(0, vp hv), (1, vi nv), (2, vs argsB argsN argsC), (8, vs d allN allC), (14, vs argsB argsN argsC), (15, vi argsN), (16, vi s16), (17, .bool (decide (s16 < (argsN : Int))))] ?_
 refine T_s K13 K14 ?_
 by_cases c4 : s16 < (argsN : Int)
 ·rw [if_pos c4] at h
  have b5 : (decide (s16 < (argsN : Int))) = true := decide_eq_true c4
  refine T_cT 17 K15 K16 b5 ?_
  refine T_kt ?_
  refine T_s K17 K18 ?_
  refine T_b 1 K19 ?_
  refine T_sr 4 K20 K21 ?_
  refine T_nu [(0, vp hv), (1, vi nv), (2, vs argsB argsN argsC), (8, vs d allN allC), (14, vs argsB argsN argsC), (15, vi argsN), (16, vi s16)] ?_
  obtain ⟨g, rfl, h⟩ := h
  obtain ⟨q6, h⟩ := h
  refine T_ix (some 18) 43 35 1 g argsN argsC .i64 s16 Tryz.underlying43 q6.1 q6.2 [(0, vp hv), (1, vi nv), (2, vs (some g) argsN argsC), (8, vs d allN allC), (14, vs (some g) argsN argsC), (15, vi argsN), (16, vi s16), (18, vp (some (g.add (Int.toNat s16 * 1))))] ?_
  obtain ⟨x, q7, h⟩ := h
  refine T_l (some 19) 35 q7 [(0, vp hv), (1, vi nv), (2, vs (some g) argsN argsC), (8, vs d allN allC), (14, vs (some g) argsN argsC), (15, vi argsN), (16, vi s16), (19, vu x)] ?_
  refine T_ne 1 [(0, vp hv), (1, vi nv), (2, vs (some g) argsN argsC), (8, vs d allN allC), (10, vu x), (14, vs (some g) argsN argsC), (15, vi argsN), (16, vi s16)] ?_
  refine T_sr 5 K22 K23 ?_
  refine T_n 2 [(0, vp hv), (1, vi nv), (2, vs (some g) argsN argsC), (8, vs d allN allC), (10, vu x), (14, vs (some g) argsN argsC), (15, vi argsN), (16, vi s16), (20, vp hv), (21, vu x)] ?_
  refine T_c (some 22) h ?_; clear h
  rintro v H2 ⟨a7, rfl, h⟩
  refine ⟨[(0, vp hv), (1, vi nv), (2, vs (some g) argsN argsC), (8, vs d allN allC), (10, vu x), (14, vs (some g) argsN argsC), (15, vi argsN), (16, vi s16), (22, .bool a7)], pk, ?_⟩
  refine T_e ?_
  by_cases c8 : a7 = true
  ·rw [if_pos c8] at h
   have b9 : a7 = true := c8
   refine T_cT 22 K24 K25 b9 ?_
   refine T_r 6 K24 ?_
   refine T_n 3 [(0, vp hv), (1, vi nv), (2, vs (some g) argsN argsC), (14, vs (some g) argsN argsC), (15, vi argsN), (16, vi s16), (23, vs d allN allC), (24, vp hv), (25, vu x)] ?_
   refine T_c (some 26) h ?_; clear h
   rintro bk H3 ⟨-, h⟩
   refine ⟨[(0, vp hv), (1, vi nv), (2, vs (some g) argsN argsC), (14, vs (some g) argsN argsC), (15, vi argsN), (16, vi s16), (23, vs d allN allC), (26, bk)], pk, ?_⟩
   refine T_c (some 27) h ?_; clear h
   rintro co H4 ⟨xB, xN, xC, rfl, h⟩
   refine ⟨[(0, vp hv), (1, vi nv), (2, vs (some g) argsN argsC), (14, vs (some g) argsN argsC), (15, vi argsN), (16, vi s16), (23, vs d allN allC), (27, vs xB xN xC)], pk, ?_⟩
   refine T_nw (some 28) (fun b => vs (pa b) 1 1) (.cells #[vs xB xN xC] 65) ?_
   intro b H5 e10 e11
   replace h := h b H5 e10 e11
   refine ⟨[(0, vp hv), (1, vi nv), (2, vs (some g) argsN argsC), (14, vs (some g) argsN argsC), (15, vi argsN), (16, vi s16), (23, vs d allN allC), (28, vs (pa b) 1 1)], pk, ?_⟩
   refine N_op (some 29) (appendN #[134, 134] 134 #[vs d allN allC, vs (pa b) 1 1]) _ (fun _=>by kernel_rfl) (ss_append (T := 65) (sz := 1) (bytes := 24) (zero := (vs none 0 0 : Value)) Tryz.underlying134 Tryz.underlying134 rfl (show Tryz.prog.info? 65 = some Tryz.t65 from by kernel_rfl) (by kernel_rfl) (by kernel_rfl) (by decide) (by kernel_rfl) (by first | exact h | (simpa only [Value.cells, List.toList_toArray] using h))) ?_; clear h
   rintro _ H6 ⟨ap, be, rfl, h⟩
   refine ⟨[(0, vp hv), (1, vi nv), (2, vs (some g) argsN argsC), (14, vs (some g) argsN argsC), (15, vi argsN), (16, vi s16), (29, vs ap (allN + 1) be)], pk, ?_⟩
   refine T_n 1 [(0, vp hv), (1, vi nv), (2, vs (some g) argsN argsC), (8, vs ap (allN + 1) be), (14, vs (some g) argsN argsC), (15, vi argsN), (16, vi s16)] ?_
   refine N_end (by kernel_rfl) ?_
   refine S_blockEnd ?_
   refine S_then ?_
   refine T_r 7 K18 ?_
   refine T_ne 2 [(0, vp hv), (1, vi nv), (2, vs (some g) argsN argsC), (8, vs ap (allN + 1) be), (14, vs (some g) argsN argsC), (15, vi argsN), (16, vi (IntKind.wrap .i64 (s16 + 1)))] ?_
   exact S_round ((ap, (allN + 1), be, (IntKind.wrap .i64 (s16 + 1))) : (Option Addr) × Nat × Nat × Int) sk h
  rw [if_neg c8] at h
  have b9 : a7 = false := eq_false_of_ne_true c8
  refine T_cF 22 K24 K25 b9 ?_
  refine T_k ?_
  refine S_blockEnd ?_
  refine S_then ?_
  refine T_r 7 K18 ?_
  refine T_ne 2 [(0, vp hv), (1, vi nv), (2, vs (some g) argsN argsC), (8, vs d allN allC), (14, vs (some g) argsN argsC), (15, vi argsN), (16, vi (IntKind.wrap .i64 (s16 + 1)))] ?_
  exact S_round ((d, allN, allC, (IntKind.wrap .i64 (s16 + 1))) : (Option Addr) × Nat × Nat × Int) sk h
 rw [if_neg c4] at h
 have b5 : (decide (s16 < (argsN : Int))) = false := decide_eq_false c4
 refine T_cF 17 K15 K16 b5 ?_
 refine S_exit 0 (by kernel_rfl) ?_
 refine S_exitThen ?_
 refine S_exitThen ?_
 refine S_exitHere ?_
 refine S_then ?_
 refine T_s K26 K27 ?_
 refine T_sr 8 K28 K29 ?_
 refine T_ne 1 [(0, vp hv), (1, vi nv), (2, vs argsB argsN argsC), (8, vs d allN allC), (31, vi nv)] ?_
 refine T_b 2 K30 ?_
 refine T_sr 9 K31 K32 ?_
 refine T_ne 2 [(0, vp hv), (1, vi nv), (2, vs argsB argsN argsC), (8, vs d allN allC), (31, vi nv), (32, .bool (nv == 17))] ?_
 by_cases c12 : nv = 17
 ·rw [if_pos c12] at h
  have b13 : (nv == 17) = true := beq_iff_eq.mpr c12
  refine T_cT 32 K33 K34 b13 ?_
  refine T_sr 10 K35 K36 ?_
  refine T_n 1 [(34, vs d allN allC)] ?_
  obtain ⟨ac, rfl, h⟩ := h
  obtain ⟨q14, h⟩ := h
  refine T_ix (some 35) 134 65 1 ac allN allC .i64 0 Tryz.underlying134 q14.1 q14.2 [(35, vp (some (ac.add (Int.toNat 0 * 1))))] ?_
  obtain ⟨br, al, bp, q15, h⟩ := h
  refine T_l (some 36) 65 q15 [(36, vs br al bp)] ?_
  refine T_n 1 [(37, vi al)] ?_
  refine T_c (some 38) h ?_; clear h
  rintro cr H7 ⟨ra, rb, rfl, h⟩
  refine ⟨[(38, .tuple #[vu ra, vi rb])], pk, ?_⟩
  refine T_ne 4 [(6, vu ra), (7, vi rb)] ?_
  exact T_ret [6, 7] [vu ra, vi rb] hQ h
 rw [if_neg c12] at h
 have b13 : (nv == 17) = false := beq_eq_false_iff_ne.mpr c12
 refine T_cF 32 K33 K34 b13 ?_
 refine T_sr 11 K37 K38 ?_
 refine T_ne 2 [(0, vp hv), (1, vi nv), (2, vs argsB argsN argsC), (8, vs d allN allC), (31, vi nv), (41, .bool (nv == 18))] ?_
 by_cases c16 : nv = 18
 ·rw [if_pos c16] at h
  have b17 : (nv == 18) = true := beq_iff_eq.mpr c16
  refine T_cT 41 K39 K40 b17 ?_
  refine T_s K41 K42 ?_
  refine T_sr 12 K43 K44 ?_
  refine T_n 1 [(8, vs d allN allC), (43, vs argsB argsN argsC)] ?_
  obtain ⟨q, rfl, h⟩ := h
  obtain ⟨q18, h⟩ := h
  refine T_ix (some 44) 43 35 1 q argsN argsC .i64 1 Tryz.underlying43 q18.1 q18.2 [(8, vs d allN allC), (44, vp (some (q.add (Int.toNat 1 * 1))))] ?_
  obtain ⟨bj, q19, h⟩ := h
  refine T_l (some 45) 35 q19 [(8, vs d allN allC), (45, vu bj)] ?_
  refine T_c (some 46) h ?_; clear h
  rintro cs H8 ⟨l, rfl, h⟩
  refine ⟨[(8, vs d allN allC), (46, vi l)], pk, ?_⟩
  refine T_ne 1 [(8, vs d allN allC), (11, vi l)] ?_
  refine T_sr 13 K45 K46 ?_
  refine T_n 3 [(8, vs d allN allC), (11, vi l), (49, .bool (decide (l ≥ 0)))] ?_
  by_cases c20 : l ≥ 0
  ·rw [if_pos c20] at h
   have b21 : (decide (l ≥ 0)) = true := decide_eq_true c20
   refine N_env [(8, vs d allN allC), (11, vi l), (49, .bool true)] (by rw [b21]) ?_
   clear b21
   refine T_n 2 [(8, vs d allN allC), (11, vi l), (49, .bool true), (50, vi l), (51, vs d allN allC)] ?_
   obtain ⟨j, rfl, h⟩ := h
   obtain ⟨q22, h⟩ := h
   refine T_ix (some 52) 134 65 1 j allN allC .i64 0 Tryz.underlying134 q22.1 q22.2 [(8, vs (some j) allN allC), (11, vi l), (49, .bool true), (50, vi l), (52, vp (some (j.add (Int.toNat 0 * 1))))] ?_
   obtain ⟨bo, ag, bq, q23, h⟩ := h
   refine T_l (some 53) 65 q23 [(8, vs (some j) allN allC), (11, vi l), (49, .bool true), (50, vi l), (53, vs bo ag bq)] ?_
   refine T_ne 3 [(8, vs (some j) allN allC), (11, vi l), (56, .bool (decide (l < (ag : Int))))] ?_
   by_cases c24 : l < (ag : Int)
   ·rw [if_pos c24] at h
    have b25 : (decide (l < (ag : Int))) = true := decide_eq_true c24
    refine T_cT 56 K47 K48 b25 ?_
    refine T_sr 14 K49 K50 ?_
    refine T_n 1 [(11, vi l), (57, vs (some j) allN allC)] ?_
    obtain ⟨q26, h⟩ := h
    refine T_ix (some 58) 134 65 1 j allN allC .i64 0 Tryz.underlying134 q26.1 q26.2 [(11, vi l), (58, vp (some (j.add (Int.toNat 0 * 1))))] ?_
    obtain ⟨a0, ah, aj, q27, h⟩ := h
    refine T_l (some 59) 65 q27 [(11, vi l), (59, vs a0 ah aj)] ?_
    refine T_n 1 [(59, vs a0 ah aj), (60, vi l)] ?_
    obtain ⟨ai, rfl, h⟩ := h
    obtain ⟨q28, h⟩ := h
    refine T_ix (some 61) 65 21 1 ai ah aj .i64 l Tryz.underlying65 q28.1 q28.2 [(61, vp (some (ai.add (Int.toNat l * 1))))] ?_
    obtain ⟨bm, q29, h⟩ := h
    refine T_l (some 62) 21 q29 [(62, .int .i32 bm)] ?_
    refine T_c (some 63) h ?_; clear h
    rintro cd H9 ⟨a3, ar, rfl, h⟩
    refine ⟨[(63, .tuple #[vu a3, vi ar])], pk, ?_⟩
    refine T_ne 4 [(6, vu a3), (7, vi ar)] ?_
    exact T_ret [6, 7] [vu a3, vi ar] hQ h
   rw [if_neg c24] at h
   have b25 : (decide (l < (ag : Int))) = false := decide_eq_false c24
   refine T_cF 56 K47 K48 b25 ?_
   refine T_kt ?_
   refine T_sr 15 K51 K52 ?_
   refine T_ne 2 [(6, vu 0), (7, vi 4)] ?_
   exact T_ret [6, 7] [vu 0, vi 4] hQ h
  rw [if_neg c20] at h
  have b21 : (decide (l ≥ 0)) = false := decide_eq_false c20
  refine N_env [(8, vs d allN allC), (11, vi l), (49, .bool false)] (by rw [b21]) ?_
  clear b21
  refine T_ne 7 [(8, vs d allN allC), (11, vi l), (56, .bool false)] ?_
  refine T_f 56 K47 K48 ?_
  refine T_kt ?_
  refine T_sr 15 K51 K52 ?_
  refine T_ne 2 [(6, vu 0), (7, vi 4)] ?_
  exact T_ret [6, 7] [vu 0, vi 4] hQ h
 rw [if_neg c16] at h
 have b17 : (nv == 18) = false := beq_eq_false_iff_ne.mpr c16
 refine T_cF 41 K39 K40 b17 ?_
 refine T_sr 16 K53 K54 ?_
 refine T_ne 2 [(0, vp hv), (1, vi nv), (2, vs argsB argsN argsC), (8, vs d allN allC), (31, vi nv), (66, .bool (nv == 19))] ?_
 by_cases c30 : nv = 19
 ·rw [if_pos c30] at h
  have b31 : (nv == 19) = true := beq_iff_eq.mpr c30
  refine T_cT 66 K55 K56 b31 ?_
  refine T_sr 17 K57 K58 ?_
  refine T_n 1 [(0, vp hv), (2, vs argsB argsN argsC), (69, vs argsB argsN argsC)] ?_
  obtain ⟨e, rfl, h⟩ := h
  obtain ⟨q32, h⟩ := h
  refine T_ix (some 70) 43 35 1 e argsN argsC .i64 2 Tryz.underlying43 q32.1 q32.2 [(0, vp hv), (2, vs (some e) argsN argsC), (70, vp (some (e.add (Int.toNat 2 * 1))))] ?_
  obtain ⟨bn, q33, h⟩ := h
  refine T_l (some 71) 35 q33 [(0, vp hv), (2, vs (some e) argsN argsC), (71, vu bn)] ?_
  refine T_c (some 72) h ?_; clear h
  rintro cg bu ⟨r, bs, rfl, h⟩
  refine ⟨[(0, vp hv), (2, vs (some e) argsN argsC), (72, .tuple #[.int .i32 r, .bool bs])], pk, ?_⟩
  refine T_ne 5 [(0, vp hv), (2, vs (some e) argsN argsC), (12, .int .i32 r)] ?_
  refine T_s K59 K60 ?_
  obtain ⟨q34, h⟩ := h
  obtain ⟨ae, q35, h⟩ := h
  obtain ⟨q36, h⟩ := h
  obtain ⟨a6, q37, h⟩ := h
  refine S_regionG 18 (Code.ops K59) [(9, (e.add (Int.toNat 0 * 1)), [vu ae]), (7, (e.add (Int.toNat 1 * 1)), [vu a6])] 14 (bv 14 0) (by kernel_rfl) (by kernel_rfl) (by kernel_rfl) (by kernel_rfl) (by kernel_rfl) (show FactsAt _ _ _ from ⟨⟨q35, trivial⟩, ⟨q37, trivial⟩, trivial⟩) ?_
  refine T_gp 0 (some 75) (vp hv) (bv 14 1) [(2, vs (some e) argsN argsC), (12, .int .i32 r), (75, vp hv)] ?_
  refine T_gp 1 (some 76) (vs (some e) argsN argsC) (bv 14 3) [(2, vs (some e) argsN argsC), (12, .int .i32 r), (75, vp hv), (76, vs (some e) argsN argsC)] ?_
  refine T_g 2 (some 77) (vp (some (e.add (Int.toNat 0 * 1)))) (bv 14 7) [(2, vs (some e) argsN argsC), (12, .int .i32 r), (75, vp hv), (77, vp (some (e.add (Int.toNat 0 * 1))))] (indexAtN 43 (vs (some e) argsN argsC) (vi 0)) (fun _ w _ _ _ => indexAt_run (P := Tryz.prog) (t := 43) (elem := 35) (sz := 1) (a := e) (len := argsN) (cap := argsC) (k := .i64) (i := 0) Tryz.underlying43 (fun _=>by kernel_rfl) q34.1 q34.2 w) ?_
  refine T_g 3 (some 78) (vu ae) (bv 14 15) [(2, vs (some e) argsN argsC), (12, .int .i32 r), (75, vp hv), (78, vu ae)] (loadN 35 (vp (some (e.add (Int.toNat 0 * 1))))) (held_one 9 (fun _=>by kernel_rfl) (List.Mem.head _) (.inl (by kernel_rfl))) ?_
  refine T_gp 4 (some 79) (vs (some e) argsN argsC) (bv 14 31) [(12, .int .i32 r), (75, vp hv), (78, vu ae), (79, vs (some e) argsN argsC)] ?_
  refine T_g 5 (some 80) (vp (some (e.add (Int.toNat 1 * 1)))) (bv 14 63) [(12, .int .i32 r), (75, vp hv), (78, vu ae), (80, vp (some (e.add (Int.toNat 1 * 1))))] (indexAtN 43 (vs (some e) argsN argsC) (vi 1)) (fun _ w _ _ _ => indexAt_run (P := Tryz.prog) (t := 43) (elem := 35) (sz := 1) (a := e) (len := argsN) (cap := argsC) (k := .i64) (i := 1) Tryz.underlying43 (fun _=>by kernel_rfl) q36.1 q36.2 w) ?_
  refine T_g 6 (some 81) (vu a6) (bv 14 127) [(12, .int .i32 r), (75, vp hv), (78, vu ae), (81, vu a6)] (loadN 35 (vp (some (e.add (Int.toNat 1 * 1))))) (held_one 7 (fun _=>by kernel_rfl) (List.Mem.tail _ (List.Mem.head _)) (.inl (by kernel_rfl))) ?_
  refine T_gp 8 (some 83) (.int .i32 r) (bv 14 383) [(75, vp hv), (78, vu ae), (81, vu a6), (83, .int .i32 r)] ?_
  refine G_call 7 (some 82) (bv 14 511) 114 #[vu a6] (by kernel_rfl) (fun _=>by kernel_rfl) h (by kernel_rfl) ?_; clear h
  rintro ch b0 ⟨bh, rfl, h⟩
  obtain ⟨f38, h⟩ := h
  refine ⟨[(75, vp hv), (78, vu ae), (82, vi bh), (83, .int .i32 r)], pk, (show FactsAt _ _ _ from ⟨f38, trivial, trivial⟩), ?_⟩
  refine G_call 9 (some 84) (bv 14 1023) 121 #[vp hv, vu ae, vi bh, .int .i32 r] (by kernel_rfl) (fun _=>by kernel_rfl) h (by kernel_rfl) ?_; clear h
  rintro ck cn ⟨u, ab, rfl, h⟩
  refine ⟨[(84, .tuple #[vu u, vi ab])], pk, (show FactsAt _ _ _ from ⟨trivial, trivial, trivial⟩), ?_⟩
  refine T_g 10 (some 85) (vu u) (bv 14 2047) [(84, .tuple #[vu u, vi ab]), (85, vu u)] (pure (.value (vu u)) : Sem Next) (fun _ _ _ _ _ => rfl) ?_
  refine T_g 11 (some 86) (vi ab) (bv 14 4095) [(85, vu u), (86, vi ab)] (pure (.value (vi ab)) : Sem Next) (fun _ _ _ _ _ => rfl) ?_
  refine T_g 12 (some 6) (vu u) (bv 14 8191) [(6, vu u), (86, vi ab)] (pure (.value (vu u)) : Sem Next) (fun _ _ _ _ _ => rfl) ?_
  refine T_g 13 (some 7) (vi ab) (bv 14 16383) [(6, vu u), (7, vi ab)] (pure (.value (vi ab)) : Sem Next) (fun _ _ _ _ _ => rfl) ?_
  refine G_sub [(6, vu u), (7, vi ab)] sk ?_
  refine G_end (by kernel_rfl) ?_
  refine S_then ?_
  exact T_ret [6, 7] [vu u, vi ab] hQ h
 rw [if_neg c30] at h
 have b31 : (nv == 19) = false := beq_eq_false_iff_ne.mpr c30
 refine T_cF 66 K55 K56 b31 ?_
 refine T_s K61 K62 ?_
 refine T_sr 19 K63 K64 ?_
 refine T_ne 2 [(0, vp hv), (1, vi nv), (2, vs argsB argsN argsC), (8, vs d allN allC), (31, vi nv), (87, .bool (nv == 20))] ?_
 obtain ⟨J, h, j40⟩ := h
 refine S_join (σ := Bool) (fun s_ => [(0, vp hv), (1, vi nv), (2, vs argsB argsN argsC), (8, vs d allN allC), (31, vi nv), (87, .bool s_)]) (fun s_ H => J s_ H) ?_ ?_
 ·rintro a5 H13 j41
  replace h := j40 a5 H13 j41
  refine T_su [(0, vp hv), (1, vi nv), (2, vs argsB argsN argsC), (8, vs d allN allC), (31, vi nv), (87, .bool a5)] ?_
  refine S_then ?_
  by_cases c42 : a5 = true
  ·rw [if_pos c42] at h
   have b43 : a5 = true := c42
   refine S_env [(0, vp hv), (1, vi nv), (2, vs argsB argsN argsC), (8, vs d allN allC), (31, vi nv), (87, .bool true)] (by rw [b43]) ?_
   clear b43
   refine T_t 87 K67 K68 ?_
   refine T_sr 22 K69 K70 ?_
   refine T_n 2 [(91, vi nv), (92, vs d allN allC)] ?_
   refine T_c (some 93) h ?_; clear h
   rintro b6 ce ⟨bi, rfl, h⟩
   refine ⟨[(93, .bool bi)], pk, ?_⟩
   refine T_c (some 94) h ?_; clear h
   rintro b7 cj ⟨ao, au, rfl, h⟩
   refine ⟨[(94, .tuple #[vu ao, vi au])], pk, ?_⟩
   refine T_ne 4 [(6, vu ao), (7, vi au)] ?_
   exact T_ret [6, 7] [vu ao, vi au] hQ h
  rw [if_neg c42] at h
  have b43 : a5 = false := eq_false_of_ne_true c42
  refine S_env [(0, vp hv), (1, vi nv), (2, vs argsB argsN argsC), (8, vs d allN allC), (31, vi nv), (87, .bool false)] (by rw [b43]) ?_
  clear b43
  refine T_f 87 K67 K68 ?_
  refine T_sr 23 K71 K72 ?_
  refine T_ne 2 [(0, vp hv), (2, vs argsB argsN argsC), (8, vs d allN allC), (31, vi nv), (97, .bool (nv == 23))] ?_
  by_cases c44 : nv = 23
  ·rw [if_pos c44] at h
   have b45 : (nv == 23) = true := beq_iff_eq.mpr c44
   refine T_cT 97 K73 K74 b45 ?_
   refine T_s K75 K76 ?_
   obtain ⟨m, rfl, h⟩ := h
   obtain ⟨q46, h⟩ := h
   obtain ⟨o, n, p, q47, h⟩ := h
   obtain ⟨f, rfl, h⟩ := h
   obtain ⟨q48, h⟩ := h
   obtain ⟨ad, q49, h⟩ := h
   obtain ⟨q50, h⟩ := h
   obtain ⟨af, q51, h⟩ := h
   refine S_regionG 24 (Code.ops K75) [(12, (m.add (Int.toNat 0 * 1)), [vs o n p]), (7, (f.add (Int.toNat 1 * 1)), [vu ad]), (11, (f.add (Int.toNat 2 * 1)), [vu af])] 17 (bv 17 0) (by kernel_rfl) (by kernel_rfl) (by kernel_rfl) (by kernel_rfl) (by kernel_rfl) (show FactsAt _ _ _ from ⟨⟨q47, trivial⟩, ⟨q49, trivial⟩, ⟨q51, trivial⟩, trivial⟩) ?_
   refine T_gp 0 (some 99) (vp hv) (bv 17 1) [(2, vs (some f) argsN argsC), (8, vs (some m) allN allC), (99, vp hv)] ?_
   refine T_gp 1 (some 100) (vs (some m) allN allC) (bv 17 3) [(2, vs (some f) argsN argsC), (99, vp hv), (100, vs (some m) allN allC)] ?_
   refine T_g 2 (some 101) (vp (some (m.add (Int.toNat 0 * 1)))) (bv 17 7) [(2, vs (some f) argsN argsC), (99, vp hv), (101, vp (some (m.add (Int.toNat 0 * 1))))] (indexAtN 134 (vs (some m) allN allC) (vi 0)) (fun _ w _ _ _ => indexAt_run (P := Tryz.prog) (t := 134) (elem := 65) (sz := 1) (a := m) (len := allN) (cap := allC) (k := .i64) (i := 0) Tryz.underlying134 (fun _=>by kernel_rfl) q46.1 q46.2 w) ?_
   refine T_g 3 (some 102) (vs o n p) (bv 17 15) [(2, vs (some f) argsN argsC), (99, vp hv), (102, vs o n p)] (loadN 65 (vp (some (m.add (Int.toNat 0 * 1))))) (held_one 12 (fun _=>by kernel_rfl) (List.Mem.head _) (.inl (by kernel_rfl))) ?_
   refine T_gp 4 (some 103) (vs (some f) argsN argsC) (bv 17 31) [(2, vs (some f) argsN argsC), (99, vp hv), (102, vs o n p), (103, vs (some f) argsN argsC)] ?_
   refine T_g 5 (some 104) (vp (some (f.add (Int.toNat 1 * 1)))) (bv 17 63) [(2, vs (some f) argsN argsC), (99, vp hv), (102, vs o n p), (104, vp (some (f.add (Int.toNat 1 * 1))))] (indexAtN 43 (vs (some f) argsN argsC) (vi 1)) (fun _ w _ _ _ => indexAt_run (P := Tryz.prog) (t := 43) (elem := 35) (sz := 1) (a := f) (len := argsN) (cap := argsC) (k := .i64) (i := 1) Tryz.underlying43 (fun _=>by kernel_rfl) q48.1 q48.2 w) ?_
   refine T_g 6 (some 105) (vu ad) (bv 17 127) [(2, vs (some f) argsN argsC), (99, vp hv), (102, vs o n p), (105, vu ad)] (loadN 35 (vp (some (f.add (Int.toNat 1 * 1))))) (held_one 7 (fun _=>by kernel_rfl) (List.Mem.tail _ (List.Mem.head _)) (.inl (by kernel_rfl))) ?_
   refine T_gp 8 (some 107) (vs (some f) argsN argsC) (bv 17 383) [(99, vp hv), (102, vs o n p), (105, vu ad), (107, vs (some f) argsN argsC)] ?_
   refine T_g 9 (some 108) (vp (some (f.add (Int.toNat 2 * 1)))) (bv 17 895) [(99, vp hv), (102, vs o n p), (105, vu ad), (108, vp (some (f.add (Int.toNat 2 * 1))))] (indexAtN 43 (vs (some f) argsN argsC) (vi 2)) (fun _ w _ _ _ => indexAt_run (P := Tryz.prog) (t := 43) (elem := 35) (sz := 1) (a := f) (len := argsN) (cap := argsC) (k := .i64) (i := 2) Tryz.underlying43 (fun _=>by kernel_rfl) q50.1 q50.2 w) ?_
   refine T_g 10 (some 109) (vu af) (bv 17 1919) [(99, vp hv), (102, vs o n p), (105, vu ad), (109, vu af)] (loadN 35 (vp (some (f.add (Int.toNat 2 * 1))))) (held_one 11 (fun _=>by kernel_rfl) (List.Mem.tail _ (List.Mem.tail _ (List.Mem.head _))) (.inl (by kernel_rfl))) ?_
   refine G_call 7 (some 106) (bv 17 2047) 114 #[vu ad] (by kernel_rfl) (fun _=>by kernel_rfl) h (by kernel_rfl) ?_; clear h
   rintro b8 bt ⟨a1, rfl, h⟩
   obtain ⟨f52, f53, h⟩ := h
   refine ⟨[(99, vp hv), (102, vs o n p), (106, vi a1), (109, vu af)], pk, (show FactsAt _ _ _ from ⟨f52, trivial, f53, trivial⟩), ?_⟩
   refine G_call 11 (some 110) (bv 17 4095) 114 #[vu af] (by kernel_rfl) (fun _=>by kernel_rfl) h (by kernel_rfl) ?_; clear h
   rintro cc b1 ⟨bf, rfl, h⟩
   obtain ⟨f54, h⟩ := h
   refine ⟨[(99, vp hv), (102, vs o n p), (106, vi a1), (110, vi bf)], pk, (show FactsAt _ _ _ from ⟨f54, trivial, trivial, trivial⟩), ?_⟩
   refine G_call 12 (some 111) (bv 17 8191) 122 #[vp hv, vs o n p, vi a1, vi bf] (by kernel_rfl) (fun _=>by kernel_rfl) h (by kernel_rfl) ?_; clear h
   rintro bw cq ⟨s, aa, rfl, h⟩
   refine ⟨[(111, .tuple #[vu s, vi aa])], pk, (show FactsAt _ _ _ from ⟨trivial, trivial, trivial, trivial⟩), ?_⟩
   refine T_g 13 (some 112) (vu s) (bv 17 16383) [(111, .tuple #[vu s, vi aa]), (112, vu s)] (pure (.value (vu s)) : Sem Next) (fun _ _ _ _ _ => rfl) ?_
   refine T_g 14 (some 113) (vi aa) (bv 17 32767) [(112, vu s), (113, vi aa)] (pure (.value (vi aa)) : Sem Next) (fun _ _ _ _ _ => rfl) ?_
   refine T_g 15 (some 6) (vu s) (bv 17 65535) [(6, vu s), (113, vi aa)] (pure (.value (vu s)) : Sem Next) (fun _ _ _ _ _ => rfl) ?_
   refine T_g 16 (some 7) (vi aa) (bv 17 131071) [(6, vu s), (7, vi aa)] (pure (.value (vi aa)) : Sem Next) (fun _ _ _ _ _ => rfl) ?_
   refine G_sub [(6, vu s), (7, vi aa)] sk ?_
   refine G_end (by kernel_rfl) ?_
   refine S_then ?_
   exact T_ret [6, 7] [vu s, vi aa] hQ h
  rw [if_neg c44] at h
  have b45 : (nv == 23) = false := beq_eq_false_iff_ne.mpr c44
  refine T_cF 97 K73 K74 b45 ?_
  refine T_sr 25 K77 K78 ?_
  refine T_ne 2 [(0, vp hv), (8, vs d allN allC), (31, vi nv), (114, .bool (nv == 26))] ?_
  by_cases c55 : nv = 26
  ·rw [if_pos c55] at h
   have b56 : (nv == 26) = true := beq_iff_eq.mpr c55
   refine T_cT 114 K79 K80 b56 ?_
   refine T_sr 26 K81 K82 ?_
   refine T_n 2 [(116, vp hv), (117, vs d allN allC)] ?_
   obtain ⟨y, rfl, h⟩ := h
   obtain ⟨q57, h⟩ := h
   refine T_ix (some 118) 134 65 1 y allN allC .i64 0 Tryz.underlying134 q57.1 q57.2 [(116, vp hv), (118, vp (some (y.add (Int.toNat 0 * 1))))] ?_
   obtain ⟨a2, am, a4, q58, h⟩ := h
   refine T_l (some 119) 65 q58 [(116, vp hv), (119, vs a2 am a4)] ?_
   refine T_c (some 120) h ?_; clear h
   rintro bx ci ⟨bg, bd, bb, rfl, h⟩
   refine ⟨[(116, vp hv), (120, vs bg bd bb)], pk, ?_⟩
   refine T_c (some 121) h ?_; clear h
   rintro b4 cl ⟨ax, aw, rfl, h⟩
   refine ⟨[(121, .tuple #[vu ax, vi aw])], pk, ?_⟩
   refine T_ne 4 [(6, vu ax), (7, vi aw)] ?_
   exact T_ret [6, 7] [vu ax, vi aw] hQ h
  rw [if_neg c55] at h
  have b56 : (nv == 26) = false := beq_eq_false_iff_ne.mpr c55
  refine T_cF 114 K79 K80 b56 ?_
  refine T_sr 27 K83 K84 ?_
  refine T_ne 2 [(0, vp hv), (8, vs d allN allC), (124, .bool (nv == 28))] ?_
  by_cases c59 : nv = 28
  ·rw [if_pos c59] at h
   have b60 : (nv == 28) = true := beq_iff_eq.mpr c59
   refine T_cT 124 K85 K86 b60 ?_
   refine T_sr 28 K87 K88 ?_
   refine T_n 2 [(126, vp hv), (127, vs d allN allC)] ?_
   obtain ⟨z, rfl, h⟩ := h
   obtain ⟨q61, h⟩ := h
   refine T_ix (some 128) 134 65 1 z allN allC .i64 0 Tryz.underlying134 q61.1 q61.2 [(126, vp hv), (128, vp (some (z.add (Int.toNat 0 * 1))))] ?_
   obtain ⟨ak, av, ba, q62, h⟩ := h
   refine T_l (some 129) 65 q62 [(126, vp hv), (129, vs ak av ba)] ?_
   obtain ⟨rs, q63, h⟩ := h
   refine T_v (some 130) (convertN 65 9 (vs ak av ba)) (.string (runesStr rs)) (fun w hw => convert_runes Tryz.underlying65 Tryz.underlying9 Tryz.underlying21 (by rw [hw]; exact q63.1) q63.2) [(126, vp hv), (130, .string (runesStr rs))] ?_
   refine T_c (some 131) h ?_; clear h
   rintro b2 cf ⟨az, ay, rfl, h⟩
   refine ⟨[(131, .tuple #[vu az, vi ay])], pk, ?_⟩
   refine T_ne 4 [(6, vu az), (7, vi ay)] ?_
   exact T_ret [6, 7] [vu az, vi ay] hQ h
  rw [if_neg c59] at h
  have b60 : (nv == 28) = false := beq_eq_false_iff_ne.mpr c59
  refine T_cF 124 K85 K86 b60 ?_
  refine T_k ?_
  refine S_blockEnd ?_
  refine S_then ?_
  refine T_sr 29 K89 K90 ?_
  refine T_n 2 [(134, vp hv), (135, vs d allN allC)] ?_
  refine T_c (some 136) h ?_; clear h
  rintro b3 cp ⟨a8, a9, bc, rfl, h⟩
  refine ⟨[(134, vp hv), (136, vs a8 a9 bc)], pk, ?_⟩
  refine T_c (some 137) h ?_; clear h
  rintro bz cm ⟨an, aq, rfl, h⟩
  refine ⟨[(137, .tuple #[vu an, vi aq])], pk, ?_⟩
  refine T_ne 4 [(6, vu an), (7, vi aq)] ?_
  exact T_ret [6, 7] [vu an, vi aq] hQ h
 by_cases c64 : nv = 20
 ·rw [if_pos c64] at h
  have b65 : (nv == 20) = true := beq_iff_eq.mpr c64
  refine S_env [(0, vp hv), (1, vi nv), (2, vs argsB argsN argsC), (8, vs d allN allC), (31, vi nv), (87, .bool true)] (by simp only [b65, Bool.not_true, Bool.not_false]) ?_
  clear b65
  refine T_t 87 K65 K66 ?_
  refine T_kt ?_
  exact S_meet (true : Bool) sk h
 rw [if_neg c64] at h
 have b65 : (nv == 20) = false := beq_eq_false_iff_ne.mpr c64
 refine S_env [(0, vp hv), (1, vi nv), (2, vs argsB argsN argsC), (8, vs d allN allC), (31, vi nv), (87, .bool false)] (by simp only [b65, Bool.not_true, Bool.not_false]) ?_
 clear b65
 refine T_f 87 K65 K66 ?_
 refine T_sr 20 K91 K92 ?_
 refine T_ne 2 [(0, vp hv), (1, vi nv), (2, vs argsB argsN argsC), (8, vs d allN allC), (31, vi nv), (87, .bool (nv == 21))] ?_
 by_cases c66 : nv = 21
 ·rw [if_pos c66] at h
  have b67 : (nv == 21) = true := beq_iff_eq.mpr c66
  refine S_env [(0, vp hv), (1, vi nv), (2, vs argsB argsN argsC), (8, vs d allN allC), (31, vi nv), (87, .bool true)] (by rw [b67]) ?_
  clear b67
  refine T_t 87 K93 K94 ?_
  refine T_kt ?_
  exact S_meet (true : Bool) sk h
 rw [if_neg c66] at h
 have b67 : (nv == 21) = false := beq_eq_false_iff_ne.mpr c66
 refine S_env [(0, vp hv), (1, vi nv), (2, vs argsB argsN argsC), (8, vs d allN allC), (31, vi nv), (87, .bool false)] (by rw [b67]) ?_
 clear b67
 refine T_f 87 K93 K94 ?_
 refine T_r 21 K94 ?_
 refine T_ne 2 [(0, vp hv), (1, vi nv), (2, vs argsB argsN argsC), (8, vs d allN allC), (31, vi nv), (87, .bool (nv == 22))] ?_
 exact S_meet ((nv == 22) : Bool) sk h
end texts_ofText

end Go.Proofs.YthlohokmnajpoaaGreatDoor
