/- Printed: what each function asks, and that it is sound. -/
import Derived.Test.YtdgejifkcfgliaaGreatDoorFnsC
set_option linter.unusedSimpArgs false
set_option linter.unusedVariables false
set_option maxRecDepth 100000
set_option maxHeartbeats 1000000
noncomputable section
namespace Go.Proofs.YtdgejifkcfgliaaGreatDoor
open Go
/-! (*moraine/space.Space).none -/
namespace space_Space_none
def K0 := Func.code Tryz.f41
end space_Space_none
def space_Space_none.pt (s : Option Addr) (H : Array Obj) (R : Value → Array Obj → Prop) : Prop :=
 onPtr s (
 R (.bool true) H) (fun sA =>
 ∃ x : Option Addr, hat H sA = some (.pointer x) ∧
 onPtr x (
 R (.bool true) H) (fun xA =>
 R (.bool false) H))
namespace space_Space_none
theorem link {s : Option Addr} {H : Array Obj} {R : Value → Array Obj → Prop} (h : pt s H R) : C s H R := by
 refine T_en K0 12 Tryz.func41 ?_
 intro w0 Q hQ
 unfold pt at h
 refine T_su [(0, vp s)] <| T_srz 0 <| T_ed 1 [] [] <| T_srz 1 <| T_nd 1 [] [(3, vp s)] ?_
 rcases s with _ | sA
 ·rw [onPtr_none] at h
  exact T_nr 9 [2] [.bool true] hQ h
 rw [onPtr_some] at h
 refine T_n 5 [(5, .bool false), (8, vp (some sA))] ?_
 obtain ⟨x, q1, h⟩ := h
 refine T_l1 9 55 q1 [8] ?_
 rcases x with _ | xA
 ·rw [onPtr_none] at h
  exact T_nr 3 [2] [.bool true] hQ h
 rw [onPtr_some] at h
 exact T_nr 3 [2] [.bool false] hQ h
end space_Space_none

/-! moraine/space.New -/
namespace space_New
def K0 := Func.code Tryz.f48
end space_New
def space_New.pt (a : Int) (H : Array Obj) (R : Value → Array Obj → Prop) : Prop :=
 seg_New.C a H (fun v H1 => ∃ (ra : Option Addr) (rb : Int), v = .tuple #[.pointer ra, .int .i64 rb] ∧ 
 if rb = 0 then (
 ∀ (b : Nat) (H2 : Array Obj), b = H1.size → H2 = H1.push (.cells #[.pointer ra, .int .i64 0, .int .i64 0, .int .i64 0, .int .i64 0, .int .i64 0, .int .i64 0, .int .i64 0, .int .i64 0, .int .i64 0, .int .i64 0, .int .i64 0, .int .i64 0, .int .i64 0, .int .i64 0, .int .i64 0, .int .i64 0, .int .i64 0, .int .i64 0, .int .i64 0, .int .i64 0] 59) →
 R (.tuple #[.pointer (some (ad b)), .int .i64 0]) H2)
 else
 R (.tuple #[.pointer none, .int .i64 rb]) H1)
namespace space_New
theorem link {a : Int} {H : Array Obj} {R : Value → Array Obj → Prop} (h : pt a H R) : C a H R := by
 refine T_en K0 17 Tryz.func48 ?_
 intro w0 Q hQ
 unfold pt at h
 refine T_su [(0, vi a)] <| T_srz 0 <| T_ed 2 [] [] <| T_srz 1 <| T_n 1 [(7, vi a)] ?_
 refine T_c (some 8) h ?_; clear h
 rintro v H1 ⟨ra, rb, rfl, h⟩
 refine ⟨[(8, .tuple #[vp ra, vi rb])], pk, ?_⟩
 refine T_ne 5 [(4, vp ra), (5, vi rb)] <| T_sz <| T_srz 2 <| T_ed 2 [] [(12, .bool (rb != 0))] ?_
 by_cases c1 : rb = 0
 ·rw [if_pos c1] at h
  refine T_cFz 12 (bne_eq_false_iff_eq.mpr c1) <| T_kt <| T_srz 4 <| T_n 2 [(15, .agg #[vp ra, vi 0, vi 0, vi 0, vi 0, vi 0, vi 0, vi 0, vi 0, vi 0, vi 0, vi 0, vi 0, vi 0, vi 0, vi 0, vi 0, vi 0, vi 0, vi 0, vi 0])] <| T_nw (some 16) (fun b => vp (pa b)) (.cells #[vp ra, vi 0, vi 0, vi 0, vi 0, vi 0, vi 0, vi 0, vi 0, vi 0, vi 0, vi 0, vi 0, vi 0, vi 0, vi 0, vi 0, vi 0, vi 0, vi 0, vi 0] 59) ?_
  intro b H2 e3 e4
  replace h := h b H2 e3 e4
  refine ⟨[(16, vp (pa b))], pk, ?_⟩
  exact T_nr 2 [2, 3] [vp (pa b), vi 0] hQ h
 rw [if_neg c1] at h
 exact T_cTz 12 (bne_iff_ne.mpr c1) <| T_srz 3 <| T_nr 3 [2, 3] [vp none, vi rb] hQ h
end space_New

/-! (*moraine/space.Space).Alloc -/
namespace space_Space_Alloc
def K0 := Func.code Tryz.f94
end space_Space_Alloc
def space_Space_Alloc.pt (s : Option Addr) (d b nv : Int) (H : Array Obj) (R : Value → Array Obj → Prop) : Prop :=
 space_Space_none.C s H (fun v H1 => ∃ x : Bool, v = .bool x ∧ 
 if x = true then (
 R (.tuple #[.int .i64 0, .int .i64 1]) H1)
 else
 space_may.C d b nv H1 (fun aa H2 => ∃ o : Bool, aa = .bool o ∧ 
 if o = true then (
 space_Space_Current.C s d b H2 (fun ae H3 => ∃ (ra : Int) (rb : Bool), ae = .tuple #[.int .i64 ra, .bool rb] ∧ 
 ∃ J : Array Obj → Prop, (
 if rb = true then (
 ∃ g : Addr, s = some g ∧
 ∃ r : Option Addr, hat H3 g = some (.pointer r) ∧
 seg_Mem_Bump.C r ra nv H3 (fun z H8 => ∃ j m : Int, z = .tuple #[.int .i64 j, .int .i64 m] ∧ 
 if m = 0 then (
 R (.tuple #[.int .i64 j, .int .i64 0]) H8)
 else
 J H8))
 else
 J H3) ∧ ∀ (H4 : Array Obj), J H4 →
 ∃ sA : Addr, s = some sA ∧
 ∃ u : Option Addr, hat H4 sA = some (.pointer u) ∧
 seg_Mem_Take.C u d b H4 (fun ab H5 => ∃ e f : Int, ab = .tuple #[.int .i64 e, .int .i64 f] ∧ 
 if f = 0 then (
 ((0 : Int) ≤ d ∧ d < (5 : Int)) ∧
 ((0 : Int) ≤ b ∧ b < (4 : Int)) ∧
 (CanPuts H5 (((sA.add 1).add (Int.toNat d * 4)).add (Int.toNat b * 1)) 0 1) ∧ ∀ H6, H6 = hputs H5 (((sA.add 1).add (Int.toNat d * 4)).add (Int.toNat b * 1)) [.int .i64 (IntKind.wrap .i64 (e + 1))] 0 →
 ∃ y : Option Addr, hat H6 sA = some (.pointer y) ∧
 seg_Mem_Bump.C y e nv H6 (fun ac H7 => ∃ p q : Int, ac = .tuple #[.int .i64 p, .int .i64 q] ∧ 
 R (.tuple #[.int .i64 p, .int .i64 q]) H7))
 else
 R (.tuple #[.int .i64 0, .int .i64 f]) H5)))
 else
 R (.tuple #[.int .i64 0, .int .i64 1]) H2))
namespace space_Space_Alloc
theorem link {s : Option Addr} {d b nv : Int} {H : Array Obj} {R : Value → Array Obj → Prop} (h : pt s d b nv H R) : C s d b nv H R := by
 refine T_en K0 77 Tryz.func94 ?_
 intro w0 Q hQ
 unfold pt at h
 refine T_su [(0, vp s), (1, vi d), (2, vi b), (3, vi nv)] <| T_srz 0 <| T_ed 2 [] [] <| T_sz <| T_srz 1 <| T_nd 1 [] [(16, vp s)] ?_
 refine T_c (some 17) h ?_; clear h
 rintro v H1 ⟨x, rfl, h⟩
 refine T_pd [16] [(17, .bool x)] <| T_nd 1 [17] [(18, .bool x)] ?_
 by_cases c1 : x = true
 ·rw [if_pos c1] at h
  exact N_bd 18 c1 <| T_ed 6 [18] [(24, .bool true)] <| T_tz 24 <| T_srz 2 <| T_nr 2 [8, 9] [vi 0, vi 1] hQ h
 rw [if_neg c1] at h
 refine N_bd 18 (eq_false_of_ne_true c1) <| T_nd 3 [] [(19, vi d), (20, vi b), (21, vi nv)] ?_
 refine T_c (some 22) h ?_; clear h
 rintro aa H2 ⟨o, rfl, h⟩
 refine T_pd [19, 20, 21] [(22, .bool o)] <| T_ed 2 [18, 22] [(24, .bool (!o))] ?_
 by_cases c3 : o = true
 ·rw [if_pos c3] at h
  refine T_cFz 24 (congrArg Bool.not (c3)) <| T_kt <| T_sz <| T_srz 3 <| T_nd 3 [24] [(26, vp s), (27, vi d), (28, vi b)] ?_
  refine T_c (some 29) h ?_; clear h
  rintro ae H3 ⟨ra, rb, rfl, h⟩
  refine T_pd [26, 27, 28] [(29, .tuple #[vi ra, .bool rb])] <| T_ed 5 [29] [(10, vi ra), (11, .bool rb)] <| T_srz 4 <| T_ne 1 [(0, vp s), (1, vi d), (2, vi b), (3, vi nv), (10, vi ra), (32, .bool rb)] ?_
  obtain ⟨J, h, j6⟩ := h
  refine S_join (σ := Unit) (fun s_ => [(0, vp s), (1, vi d), (2, vi b), (3, vi nv)]) (fun s_ H => J  H) ?_ ?_
  ·rintro _ H4 j7
   replace h := j6 H4 j7
   refine T_su [(0, vp s), (1, vi d), (2, vi b), (3, vi nv)] ?_
   refine S_then ?_
   refine T_srz 8 <| T_nd 1 [] [(47, vp s)] ?_
   obtain ⟨sA, rfl, h⟩ := h
   refine T_nd 2 [0, 47] [(0, vp (some sA)), (49, vp (some sA))] ?_
   obtain ⟨u, q8, h⟩ := h
   refine T_l1 50 55 q8 [49] <| T_nd 2 [] [(51, vi d), (52, vi b)] ?_
   refine T_c (some 53) h ?_; clear h
   rintro ab H5 ⟨e, f, rfl, h⟩
   refine T_pd [50, 51, 52] [(53, .tuple #[vi e, vi f])] <| T_ed 5 [53] [(14, vi e), (15, vi f)] <| T_sz <| T_srz 9 <| T_ed 2 [] [(57, .bool (f != 0))] ?_
   by_cases c9 : f = 0
   ·rw [if_pos c9] at h
    refine T_cFz 57 (bne_eq_false_iff_eq.mpr c9) <| T_kt <| T_srz 11 <| T_nd 7 [1, 2, 15, 57] [(60, vi d), (61, vi b), (63, vi (IntKind.wrap .i64 (e + 1))), (65, vp (some (sA.add 1)))] ?_
    obtain ⟨q11, h⟩ := h
    refine T_v1 66 (indexAtN 57 (vp (some (sA.add 1))) (vi d)) (vp (some ((sA.add 1).add (Int.toNat d * 4)))) (fun w _ => indexArr_run (P := Tryz.prog) (t := 57) (elem := 56) (sz := 4) (n := 5) (a := (sA.add 1)) (k := .i64) (i := d) Tryz.underlying57 (fun _=>by kernel_rfl) q11.1 q11.2 w) [60, 65] ?_
    obtain ⟨q12, h⟩ := h
    refine T_v1 67 (indexAtN 56 (vp (some ((sA.add 1).add (Int.toNat d * 4)))) (vi b)) (vp (some (((sA.add 1).add (Int.toNat d * 4)).add (Int.toNat b * 1)))) (fun w _ => indexArr_run (P := Tryz.prog) (t := 56) (elem := 3) (sz := 1) (n := 4) (a := ((sA.add 1).add (Int.toNat d * 4))) (k := .i64) (i := b) Tryz.underlying56 (fun _=>by kernel_rfl) q12.1 q12.2 w) [61, 66] ?_
    obtain ⟨q14, h⟩ := h
    refine T_st1 3 (vi (IntKind.wrap .i64 (e + 1))) q14 ?_
    intro H6 e13
    replace h := h H6 e13
    refine T_pd [63, 67] [] <| T_e <| T_srz 12 <| T_nd 3 [0] [(70, vp (some sA))] ?_
    obtain ⟨y, q15, h⟩ := h
    refine T_l1 71 55 q15 [70] <| T_nd 2 [3, 14] [(72, vi e), (73, vi nv)] ?_
    refine T_c (some 74) h ?_; clear h
    rintro ac H7 ⟨p, q, rfl, h⟩
    refine ⟨[(74, .tuple #[vi p, vi q])], pk, ?_⟩
    exact T_nr 4 [8, 9] [vi p, vi q] hQ h
   rw [if_neg c9] at h
   exact T_cTz 57 (bne_iff_ne.mpr c9) <| T_srz 10 <| T_nr 3 [8, 9] [vi 0, vi f] hQ h
  by_cases c16 : rb = true
  ·rw [if_pos c16] at h
   have b17 : rb = true := c16
   refine S_env [(0, vp s), (1, vi d), (2, vi b), (3, vi nv), (10, vi ra), (32, .bool true)] (by simp only [b17, Bool.not_true, Bool.not_false]) ?_
   clear b17
   refine T_tz 32 <| T_srz 5 <| T_nd 1 [32] [(34, vp s)] ?_
   obtain ⟨g, rfl, h⟩ := h
   refine T_nd 2 [0, 34] [(0, vp (some g)), (36, vp (some g))] ?_
   obtain ⟨r, q18, h⟩ := h
   refine T_l1 37 55 q18 [36] <| T_nd 2 [10] [(38, vi ra), (39, vi nv)] ?_
   refine T_c (some 40) h ?_; clear h
   rintro z H8 ⟨j, m, rfl, h⟩
   refine T_pd [37, 38, 39] [(40, .tuple #[vi j, vi m])] <| T_ed 5 [40] [(12, vi j), (13, vi m)] <| T_srz 6 <| T_ed 2 [13] [(44, .bool (m == 0))] ?_
   by_cases c19 : m = 0
   ·rw [if_pos c19] at h
    exact T_cTz 44 (beq_iff_eq.mpr c19) <| T_srz 7 <| T_nr 3 [8, 9] [vi j, vi 0] hQ h
   rw [if_neg c19] at h
   refine T_cFz 44 (beq_eq_false_iff_ne.mpr c19) <| T_kt ?_
   exact S_meet (() : Unit) sk h
  rw [if_neg c16] at h
  have b17 : rb = false := eq_false_of_ne_true c16
  refine S_env [(0, vp s), (1, vi d), (2, vi b), (3, vi nv), (10, vi ra), (32, .bool false)] (by simp only [b17, Bool.not_true, Bool.not_false]) ?_
  clear b17
  refine T_fz 32 <| T_kt ?_
  exact S_meet (() : Unit) sk h
 rw [if_neg c3] at h
 exact T_cTz 24 (congrArg Bool.not (eq_false_of_ne_true c3)) <| T_srz 2 <| T_nr 2 [8, 9] [vi 0, vi 1] hQ h
end space_Space_Alloc

/-! moraine/space.may -/
namespace space_may
def K0 := Func.code Tryz.f120
end space_may
def space_may.pt (b a nv : Int) (H : Array Obj) (R : Value → Array Obj → Prop) : Prop :=
 if ((decide (b < 0)) || (decide (b > 4))) = true then (
 R (.bool false) H)
 else
 if ((a == 0) || (a == 1)) = true then (
 R (.bool (nv == 2)) H)
 else
 R (.bool ((((a == 2) || (a == 3)) && (decide (nv ≥ 1))) && (decide (nv ≤ 63)))) H
namespace space_may
theorem link {b a nv : Int} {H : Array Obj} {R : Value → Array Obj → Prop} (h : pt b a nv H R) : C b a nv H R := by
 refine T_en K0 37 Tryz.func120 ?_
 intro w0 Q hQ
 unfold pt at h
 refine T_su [(0, vi b), (1, vi a), (2, vi nv)] <| T_srz 0 <| T_ed 1 [] [] <| T_sz <| T_bz 0 <| T_srz 1 ?_
 refine N_cut [(1, vi a), (2, vi nv), (7, .bool ((decide (b < 0)) || (decide (b > 4))))] ?_ ?_
 ·refine S_then ?_
  by_cases c3 : ((decide (b < 0)) || (decide (b > 4))) = true
  ·rw [if_pos c3] at h
   exact T_cTz 7 c3 <| T_srz 2 <| T_nr 1 [6] [.bool false] hQ h
  rw [if_neg c3] at h
  refine T_cFz 7 (eq_false_of_ne_true c3) <| T_srz 3 ?_
  refine N_cut [(1, vi a), (2, vi nv), (14, .bool ((a == 0) || (a == 1)))] ?_ ?_
  ·refine S_then ?_
   by_cases c7 : ((a == 0) || (a == 1)) = true
   ·rw [if_pos c7] at h
    exact T_cTz 14 c7 <| T_srz 4 <| T_nr 3 [6] [.bool (nv == 2)] hQ h
   rw [if_neg c7] at h
   refine T_cFz 14 (eq_false_of_ne_true c7) <| T_k ?_
   refine S_blockEnd ?_
   refine S_then ?_
   refine T_srz 5 ?_
   refine N_cut [(6, .bool ((((a == 2) || (a == 3)) && (decide (nv ≥ 1))) && (decide (nv ≤ 63))))] ?_ ?_
   ·refine S_then ?_
    exact T_ret [6] [.bool ((((a == 2) || (a == 3)) && (decide (nv ≥ 1))) && (decide (nv ≤ 63)))] hQ h
   intro hk
   refine T_n 3 [(1, vi a), (2, vi nv), (25, .bool (a == 2))] ?_
   by_cases c9 : a = 2
   ·have b10 : (a == 2) = true := beq_iff_eq.mpr c9
    refine N_env [(1, vi a), (2, vi nv), (25, .bool true)] (by rw [b10]) ?_
    refine T_nd 8 [1, 25] [(33, .bool (decide (nv ≥ 1)))] ?_
    by_cases c11 : nv ≥ 1
    ·have b12 : (decide (nv ≥ 1)) = true := decide_eq_true c11
     refine N_bd 33 b12 <| T_n 4 [(6, .bool (decide (nv ≤ 63)))] ?_
     refine N_end (by kernel_rfl) ?_
     refine S_env [(6, .bool ((((a == 2) || (a == 3)) && (decide (nv ≥ 1))) && (decide (nv ≤ 63))))] (by simp only [b10, b12, BL]) ?_
     exact hk
    have b12 : (decide (nv ≥ 1)) = false := decide_eq_false c11
    refine N_bd 33 b12 <| T_n 4 [(6, .bool false)] ?_
    refine N_end (by kernel_rfl) ?_
    refine S_env [(6, .bool ((((a == 2) || (a == 3)) && (decide (nv ≥ 1))) && (decide (nv ≤ 63))))] (by simp only [b10, b12, BL]) ?_
    exact hk
   have b10 : (a == 2) = false := beq_eq_false_iff_ne.mpr c9
   refine N_env [(1, vi a), (2, vi nv), (25, .bool false)] (by rw [b10]) ?_
   refine T_nd 4 [1, 25] [(29, .bool (a == 3))] ?_
   by_cases c13 : a = 3
   ·have b14 : (a == 3) = true := beq_iff_eq.mpr c13
    refine N_bd 29 b14 <| T_nd 4 [29] [(33, .bool (decide (nv ≥ 1)))] ?_
    by_cases c15 : nv ≥ 1
    ·have b16 : (decide (nv ≥ 1)) = true := decide_eq_true c15
     refine N_bd 33 b16 <| T_n 4 [(6, .bool (decide (nv ≤ 63)))] ?_
     refine N_end (by kernel_rfl) ?_
     refine S_env [(6, .bool ((((a == 2) || (a == 3)) && (decide (nv ≥ 1))) && (decide (nv ≤ 63))))] (by simp only [b10, b14, b16, BL]) ?_
     exact hk
    have b16 : (decide (nv ≥ 1)) = false := decide_eq_false c15
    refine N_bd 33 b16 <| T_n 4 [(6, .bool false)] ?_
    refine N_end (by kernel_rfl) ?_
    refine S_env [(6, .bool ((((a == 2) || (a == 3)) && (decide (nv ≥ 1))) && (decide (nv ≤ 63))))] (by simp only [b10, b14, b16, BL]) ?_
    exact hk
   have b14 : (a == 3) = false := beq_eq_false_iff_ne.mpr c13
   refine N_bd 29 b14 <| T_n 8 [(6, .bool false)] ?_
   refine N_end (by kernel_rfl) ?_
   refine S_env [(6, .bool ((((a == 2) || (a == 3)) && (decide (nv ≥ 1))) && (decide (nv ≤ 63))))] (by simp only [b10, b14, BL]) ?_
   exact hk
  intro hk
  refine T_n 3 [(1, vi a), (2, vi nv), (17, .bool (a == 0))] ?_
  by_cases c5 : a = 0
  ·have b6 : (a == 0) = true := beq_iff_eq.mpr c5
   refine N_env [(1, vi a), (2, vi nv), (17, .bool true)] (by rw [b6]) ?_
   refine T_nd 4 [17] [(14, .bool true)] ?_
   refine N_end (by kernel_rfl) ?_
   refine S_bd 14 (b := true) (v := ((a == 0) || (a == 1))) (by simp only [b6, BL]) ?_
   exact hk
  have b6 : (a == 0) = false := beq_eq_false_iff_ne.mpr c5
  refine N_env [(1, vi a), (2, vi nv), (17, .bool false)] (by rw [b6]) ?_
  refine T_nd 4 [17] [(14, .bool (a == 1))] ?_
  refine N_end (by kernel_rfl) ?_
  refine S_bd 14 (b := (a == 1)) (v := ((a == 0) || (a == 1))) (by simp only [b6, BL]) ?_
  exact hk
 intro hk
 refine T_n 3 [(0, vi b), (1, vi a), (2, vi nv), (10, .bool (decide (b < 0)))] ?_
 by_cases c1 : b < 0
 ·have b2 : (decide (b < 0)) = true := decide_eq_true c1
  refine N_env [(0, vi b), (1, vi a), (2, vi nv), (10, .bool true)] (by rw [b2]) ?_
  refine T_nd 4 [0, 10] [(7, .bool true)] ?_
  refine N_end (by kernel_rfl) ?_
  refine S_bd 7 (b := true) (v := ((decide (b < 0)) || (decide (b > 4)))) (by simp only [b2, BL]) ?_
  exact hk
 have b2 : (decide (b < 0)) = false := decide_eq_false c1
 refine N_env [(0, vi b), (1, vi a), (2, vi nv), (10, .bool false)] (by rw [b2]) ?_
 refine T_nd 4 [0, 10] [(7, .bool (decide (b > 4)))] ?_
 refine N_end (by kernel_rfl) ?_
 refine S_bd 7 (b := (decide (b > 4))) (v := ((decide (b < 0)) || (decide (b > 4)))) (by simp only [b2, BL]) ?_
 exact hk
end space_may

/-! (*moraine/space.Space).Current -/
namespace space_Space_Current
def K0 := Func.code Tryz.f121
end space_Space_Current
def space_Space_Current.pt (s : Option Addr) (d b : Int) (H : Array Obj) (R : Value → Array Obj → Prop) : Prop :=
 onPtr s (
 R (.tuple #[.int .i64 0, .bool false]) H) (fun sA =>
 if d < 0 then (
 R (.tuple #[.int .i64 0, .bool false]) H)
 else
 if d > 4 then (
 R (.tuple #[.int .i64 0, .bool false]) H)
 else
 if b < 0 then (
 R (.tuple #[.int .i64 0, .bool false]) H)
 else
 if b > 3 then (
 R (.tuple #[.int .i64 0, .bool false]) H)
 else
 ((0 : Int) ≤ d ∧ d < (5 : Int)) ∧
 ((0 : Int) ≤ b ∧ b < (4 : Int)) ∧
 ∃ x : Int, hat H (((sA.add 1).add (Int.toNat d * 4)).add (Int.toNat b * 1)) = some (.int .i64 x) ∧
 if x = 0 then (
 R (.tuple #[.int .i64 0, .bool false]) H)
 else
 ((0 : Int) ≤ d ∧ d < (5 : Int)) ∧
 ((0 : Int) ≤ b ∧ b < (4 : Int)) ∧
 ∃ e : Int, hat H (((sA.add 1).add (Int.toNat d * 4)).add (Int.toNat b * 1)) = some (.int .i64 e) ∧
 R (.tuple #[.int .i64 (IntKind.wrap .i64 (e - 1)), .bool true]) H)
namespace space_Space_Current
theorem link {s : Option Addr} {d b : Int} {H : Array Obj} {R : Value → Array Obj → Prop} (h : pt s d b H R) : C s d b H R := by
 refine T_en K0 46 Tryz.func121 ?_
 intro w0 Q hQ
 unfold pt at h
 refine T_su [(0, vp s), (1, vi d), (2, vi b)] <| T_srz 0 <| T_ed 2 [] [] <| T_sz <| T_srz 1 <| T_nd 1 [] [(8, vp s)] ?_
 rcases s with _ | sA
 ·rw [onPtr_none] at h
  exact T_ed 28 [0, 8] [(0, vp none), (36, .bool true)] <| T_tz 36 <| T_srz 2 <| T_nr 2 [6, 7] [vi 0, .bool false] hQ h
 rw [onPtr_some] at h
 refine T_nd 6 [0, 8] [(0, vp (some sA)), (14, .bool (decide (d < 0)))] ?_
 by_cases c1 : d < 0
 ·rw [if_pos c1] at h
  exact N_bd 14 (decide_eq_true c1) <| T_ed 22 [14] [(36, .bool true)] <| T_tz 36 <| T_srz 2 <| T_nr 2 [6, 7] [vi 0, .bool false] hQ h
 rw [if_neg c1] at h
 refine N_bd 14 (decide_eq_false c1) <| T_nd 4 [14] [(18, .bool (decide (d > 4)))] ?_
 by_cases c3 : d > 4
 ·rw [if_pos c3] at h
  exact N_bd 18 (decide_eq_true c3) <| T_ed 18 [18] [(36, .bool true)] <| T_tz 36 <| T_srz 2 <| T_nr 2 [6, 7] [vi 0, .bool false] hQ h
 rw [if_neg c3] at h
 refine N_bd 18 (decide_eq_false c3) <| T_nd 4 [18] [(22, .bool (decide (b < 0)))] ?_
 by_cases c5 : b < 0
 ·rw [if_pos c5] at h
  exact N_bd 22 (decide_eq_true c5) <| T_ed 14 [22] [(36, .bool true)] <| T_tz 36 <| T_srz 2 <| T_nr 2 [6, 7] [vi 0, .bool false] hQ h
 rw [if_neg c5] at h
 refine N_bd 22 (decide_eq_false c5) <| T_nd 4 [22] [(26, .bool (decide (b > 3)))] ?_
 by_cases c7 : b > 3
 ·rw [if_pos c7] at h
  exact N_bd 26 (decide_eq_true c7) <| T_ed 10 [26] [(36, .bool true)] <| T_tz 36 <| T_srz 2 <| T_nr 2 [6, 7] [vi 0, .bool false] hQ h
 rw [if_neg c7] at h
 refine N_bd 26 (decide_eq_false c7) <| T_nd 5 [] [(28, vi d), (29, vi b), (31, vp (some (sA.add 1)))] ?_
 obtain ⟨q9, h⟩ := h
 refine T_v1 32 (indexAtN 57 (vp (some (sA.add 1))) (vi d)) (vp (some ((sA.add 1).add (Int.toNat d * 4)))) (fun w _ => indexArr_run (P := Tryz.prog) (t := 57) (elem := 56) (sz := 4) (n := 5) (a := (sA.add 1)) (k := .i64) (i := d) Tryz.underlying57 (fun _=>by kernel_rfl) q9.1 q9.2 w) [28, 31] ?_
 obtain ⟨q10, h⟩ := h
 refine T_v1 33 (indexAtN 56 (vp (some ((sA.add 1).add (Int.toNat d * 4)))) (vi b)) (vp (some (((sA.add 1).add (Int.toNat d * 4)).add (Int.toNat b * 1)))) (fun w _ => indexArr_run (P := Tryz.prog) (t := 56) (elem := 3) (sz := 1) (n := 4) (a := ((sA.add 1).add (Int.toNat d * 4))) (k := .i64) (i := b) Tryz.underlying56 (fun _=>by kernel_rfl) q10.1 q10.2 w) [29, 32] ?_
 obtain ⟨x, q11, h⟩ := h
 refine T_l1 34 3 q11 [33] <| T_ed 2 [26, 34] [(36, .bool (x == 0))] ?_
 by_cases c12 : x = 0
 ·rw [if_pos c12] at h
  exact T_cTz 36 (beq_iff_eq.mpr c12) <| T_srz 2 <| T_nr 2 [6, 7] [vi 0, .bool false] hQ h
 rw [if_neg c12] at h
 refine T_cFz 36 (beq_eq_false_iff_ne.mpr c12) <| T_kt <| T_srz 3 <| T_n 5 [(38, vi d), (39, vi b), (41, vp (some (sA.add 1)))] ?_
 obtain ⟨q14, h⟩ := h
 refine T_v1 42 (indexAtN 57 (vp (some (sA.add 1))) (vi d)) (vp (some ((sA.add 1).add (Int.toNat d * 4)))) (fun w _ => indexArr_run (P := Tryz.prog) (t := 57) (elem := 56) (sz := 4) (n := 5) (a := (sA.add 1)) (k := .i64) (i := d) Tryz.underlying57 (fun _=>by kernel_rfl) q14.1 q14.2 w) [38, 41] ?_
 obtain ⟨q15, h⟩ := h
 refine T_v1 43 (indexAtN 56 (vp (some ((sA.add 1).add (Int.toNat d * 4)))) (vi b)) (vp (some (((sA.add 1).add (Int.toNat d * 4)).add (Int.toNat b * 1)))) (fun w _ => indexArr_run (P := Tryz.prog) (t := 56) (elem := 3) (sz := 1) (n := 4) (a := ((sA.add 1).add (Int.toNat d * 4))) (k := .i64) (i := b) Tryz.underlying56 (fun _=>by kernel_rfl) q15.1 q15.2 w) [39, 42] ?_
 obtain ⟨e, q16, h⟩ := h
 exact T_l1 44 3 q16 [43] <| T_nr 3 [6, 7] [vi (IntKind.wrap .i64 (e - 1)), .bool true] hQ h
end space_Space_Current

/-! moraine/card.New -/
namespace card_New
def K0 := Func.code Tryz.f24
end card_New
def card_New.pt (a : Int) (H : Array Obj) (R : Value → Array Obj → Prop) : Prop :=
 space_New.C a H (fun v H1 => ∃ (ra : Option Addr) (rb : Int), v = .tuple #[.pointer ra, .int .i64 rb] ∧ 
 if rb = 0 then (
 ∀ (b : Nat) (H2 : Array Obj), b = H1.size → H2 = H1.push (.cells #[.pointer ra] 54) →
 R (.tuple #[.pointer (some (ad b)), .int .i64 0]) H2)
 else
 R (.tuple #[.pointer none, .int .i64 rb]) H1)
namespace card_New
set_option maxRecDepth 100000 in
theorem link {a : Int} {H : Array Obj} {R : Value → Array Obj → Prop} (h : pt a H R) : C a H R := by
 refine T_en K0 17 Tryz.func24 ?_
 intro w0 Q hQ
 unfold pt at h
 refine T_su [(0, vi a)] <| T_srz 0 <| T_ed 2 [] [] <| T_srz 1 <| T_n 1 [(7, vi a)] ?_
 refine T_c (some 8) h ?_; clear h
 rintro v H1 ⟨ra, rb, rfl, h⟩
 refine ⟨[(8, .tuple #[vp ra, vi rb])], pk, ?_⟩
 refine T_ne 5 [(4, vp ra), (5, vi rb)] <| T_sz <| T_srz 2 <| T_ed 2 [] [(12, .bool (rb != 0))] ?_
 by_cases c1 : rb = 0
 ·rw [if_pos c1] at h
  refine T_cFz 12 (bne_eq_false_iff_eq.mpr c1) <| T_kt <| T_srz 4 <| T_n 2 [(15, .agg #[vp ra])] <| T_nw (some 16) (fun b => vp (pa b)) (.cells #[vp ra] 54) ?_
  intro b H2 e3 e4
  replace h := h b H2 e3 e4
  refine ⟨[(16, vp (pa b))], pk, ?_⟩
  exact T_nr 2 [2, 3] [vp (pa b), vi 0] hQ h
 rw [if_neg c1] at h
 exact T_cTz 12 (bne_iff_ne.mpr c1) <| T_srz 3 <| T_nr 3 [2, 3] [vp none, vi rb] hQ h
end card_New

/-! (*moraine/card.Cards).Store -/
/-! (*moraine/obj.Heap).SetCar -/
namespace obj_Heap_Car
def K0 := Func.code Tryz.f23
end obj_Heap_Car
def obj_Heap_Car.pt (hv : Option Addr) (wv : Int) (H : Array Obj) (R : Value → Array Obj → Prop) : Prop :=
 obj_Heap_half.C hv wv 0 H (fun v H1 => ∃ ra rb : Int, v = .tuple #[.int .u64 ra, .int .i64 rb] ∧ 
 R (.tuple #[.int .u64 ra, .int .i64 rb]) H1)
namespace obj_Heap_Car
theorem link {hv : Option Addr} {wv : Int} {H : Array Obj} {R : Value → Array Obj → Prop} (h : pt hv wv H R) : C hv wv H R := by
 refine T_en K0 11 Tryz.func23 ?_
 intro w0 Q hQ
 unfold pt at h
 refine T_su [(0, vp hv), (1, vu wv)] <| T_srz 0 <| T_ed 2 [] [] <| T_srz 1 <| T_n 2 [(6, vp hv), (7, vu wv)] ?_
 refine T_c (some 8) h ?_; clear h
 rintro v H1 ⟨ra, rb, rfl, h⟩
 refine ⟨[(8, .tuple #[vu ra, vi rb])], pk, ?_⟩
 exact T_nr 4 [4, 5] [vu ra, vi rb] hQ h
end obj_Heap_Car

/-! (*moraine/obj.Heap).Cons -/
namespace obj_Heap_Cons
def K0 := Func.code Tryz.f32
end obj_Heap_Cons
def obj_Heap_Cons.pt (hv : Option Addr) (a d : Int) (H : Array Obj) (R : Value → Array Obj → Prop) : Prop :=
 ∀ (b : Nat) (H1 : Array Obj), b = H.size → H1 = H.push (.cells #[.int .u64 a, .int .u64 d] 35) →
 obj_Heap_put.C hv 0 1 (some (ad b)) 2 2 H1 (fun v H2 => ∃ ra rb : Int, v = .tuple #[.int .u64 ra, .int .i64 rb] ∧ 
 R (.tuple #[.int .u64 ra, .int .i64 rb]) H2)
namespace obj_Heap_Cons
theorem link {hv : Option Addr} {a d : Int} {H : Array Obj} {R : Value → Array Obj → Prop} (h : pt hv a d H R) : C hv a d H R := by
 refine T_en K0 15 Tryz.func32 ?_
 intro w0 Q hQ
 unfold pt at h
 refine T_su [(0, vp hv), (1, vu a), (2, vu d)] <| T_srz 0 <| T_ed 2 [] [] <| T_srz 1 <| T_n 3 [(8, vp hv), (9, vu a), (10, vu d)] <| T_nw (some 11) (fun b => vs (pa b) 2 2) (.cells #[vu a, vu d] 35) ?_
 intro b H1 e1 e2
 replace h := h b H1 e1 e2
 refine T_pd [9, 10] [(11, vs (pa b) 2 2)] ?_
 refine T_c (some 12) h ?_; clear h
 rintro v H2 ⟨ra, rb, rfl, h⟩
 refine ⟨[(12, .tuple #[vu ra, vi rb])], pk, ?_⟩
 exact T_nr 4 [6, 7] [vu ra, vi rb] hQ h
end obj_Heap_Cons

/-! (*moraine/obj.Heap).set -/
namespace obj_Heap_half
def K0 := Func.code Tryz.f47
end obj_Heap_half
def obj_Heap_half.pt (hv : Option Addr) (wv i : Int) (H : Array Obj) (R : Value → Array Obj → Prop) : Prop :=
 obj_Heap_pair.C hv wv H (fun v H1 => ∃ (ra : Int) (rb : Bool), v = .tuple #[.int .i64 ra, .bool rb] ∧ 
 if rb = true then (
 ∃ g : Addr, hv = some g ∧
 ∃ x : Option Addr, hat H1 g = some (.pointer x) ∧
 ∃ xA : Addr, x = some xA ∧
 ∃ f : Option Addr, hat H1 xA = some (.pointer f) ∧
 ∃ e : Addr, f = some e ∧
 ∃ d : Option Addr, hat H1 e = some (.pointer d) ∧
 seg_Mem_Read.C d (IntKind.wrap .i64 (ra + i)) H1 (fun j H2 => ∃ b a : Int, j = .tuple #[.int .u64 b, .int .i64 a] ∧ 
 R (.tuple #[.int .u64 b, .int .i64 a]) H2))
 else
 R (.tuple #[.int .u64 0, .int .i64 3]) H1)
namespace obj_Heap_half
theorem link {hv : Option Addr} {wv i : Int} {H : Array Obj} {R : Value → Array Obj → Prop} (h : pt hv wv i H R) : C hv wv i H R := by
 refine T_en K0 34 Tryz.func47 ?_
 intro w0 Q hQ
 unfold pt at h
 refine T_su [(0, vp hv), (1, vu wv), (2, vi i)] <| T_srz 0 <| T_ed 2 [] [] <| T_srz 1 <| T_nd 2 [1] [(11, vp hv), (12, vu wv)] ?_
 refine T_c (some 13) h ?_; clear h
 rintro v H1 ⟨ra, rb, rfl, h⟩
 refine T_pd [11, 12] [(13, .tuple #[vi ra, .bool rb])] <| T_ed 5 [13] [(8, vi ra), (9, .bool rb)] <| T_sz <| T_srz 2 <| T_ed 2 [9] [(17, .bool (!rb))] ?_
 by_cases c1 : rb = true
 ·rw [if_pos c1] at h
  refine T_cFz 17 (congrArg Bool.not (c1)) <| T_kt <| T_srz 4 <| T_nd 1 [0, 17] [(18, vp hv)] ?_
  obtain ⟨g, rfl, h⟩ := h
  refine T_nd 2 [18] [(20, vp (some g))] ?_
  obtain ⟨x, q3, h⟩ := h
  refine T_l1 21 48 q3 [20] ?_
  obtain ⟨xA, rfl, h⟩ := h
  refine T_nd 2 [21] [(23, vp (some xA))] ?_
  obtain ⟨f, q4, h⟩ := h
  refine T_l1 24 52 q4 [23] ?_
  obtain ⟨e, rfl, h⟩ := h
  refine T_nd 2 [24] [(26, vp (some e))] ?_
  obtain ⟨d, q5, h⟩ := h
  refine T_l1 27 55 q5 [26] <| T_nd 3 [2, 8] [(30, vi (IntKind.wrap .i64 (ra + i)))] ?_
  refine T_c (some 31) h ?_; clear h
  rintro j H2 ⟨b, a, rfl, h⟩
  refine ⟨[(31, .tuple #[vu b, vi a])], pk, ?_⟩
  exact T_nr 4 [6, 7] [vu b, vi a] hQ h
 rw [if_neg c1] at h
 exact T_cTz 17 (congrArg Bool.not (eq_false_of_ne_true c1)) <| T_srz 3 <| T_nr 2 [6, 7] [vu 0, vi 3] hQ h
end obj_Heap_half

/-! (*moraine/obj.Heap).pair -/
namespace obj_Heap_pair
def K0 := Func.code Tryz.f61
end obj_Heap_pair
def obj_Heap_pair.pt (hv : Option Addr) (wv : Int) (H : Array Obj) (R : Value → Array Obj → Prop) : Prop :=
 obj_Heap_at.C hv wv 1 0 H (fun v H1 => ∃ (ra : Int) (rb : Bool), v = .tuple #[.int .i64 ra, .bool rb] ∧ 
 if rb = true then (
 R (.tuple #[.int .i64 ra, .bool ((Int.tmod ra 2) == 0)]) H1)
 else
 obj_Heap_at.C hv wv 2 1 H1 (fun d H2 => ∃ (a : Int) (b : Bool), d = .tuple #[.int .i64 a, .bool b] ∧ 
 R (.tuple #[.int .i64 a, .bool (b && ((Int.tmod a 2) == 0))]) H2))
namespace obj_Heap_pair
theorem link {hv : Option Addr} {wv : Int} {H : Array Obj} {R : Value → Array Obj → Prop} (h : pt hv wv H R) : C hv wv H R := by
 refine T_en K0 29 Tryz.func61 ?_
 intro w0 Q hQ
 unfold pt at h
 refine T_su [(0, vp hv), (1, vu wv)] <| T_srz 0 <| T_ed 2 [] [] <| T_srz 1 <| T_nd 2 [] [(9, vp hv), (10, vu wv)] ?_
 refine T_c (some 11) h ?_; clear h
 rintro v H1 ⟨ra, rb, rfl, h⟩
 refine T_pd [9, 10] [(11, .tuple #[vi ra, .bool rb])] <| T_ed 5 [11] [(6, vi ra), (7, .bool rb)] <| T_sz <| T_srz 2 <| T_ed 2 [] [(15, .bool (!rb))] ?_
 by_cases c1 : rb = true
 ·rw [if_pos c1] at h
  have b2 : (!rb) = false := congrArg Bool.not (c1)
  have b22 : rb = true := c1
  refine S_bd 7 (b := rb) (v := true) (by simp only [b2, b22, Bool.not_true, Bool.not_false]) <| S_bd 15 (b := (!rb)) (v := false) (by simp only [b2, b22, Bool.not_true, Bool.not_false]) ?_
  clear b2 b22
  exact T_fz 15 <| T_kt <| T_srz 4 <| T_nr 9 [4, 5] [vi ra, .bool ((Int.tmod ra 2) == 0)] hQ h
 rw [if_neg c1] at h
 have b2 : (!rb) = true := congrArg Bool.not (eq_false_of_ne_true c1)
 have b22 : rb = false := eq_false_of_ne_true c1
 refine S_bd 7 (b := rb) (v := false) (by simp only [b2, b22, Bool.not_true, Bool.not_false]) <| S_bd 15 (b := (!rb)) (v := true) (by simp only [b2, b22, Bool.not_true, Bool.not_false]) ?_
 clear b2 b22
 refine T_tz 15 <| T_rz 3 <| T_n 2 [(17, vp hv), (18, vu wv)] ?_
 refine T_c (some 19) h ?_; clear h
 rintro d H2 ⟨a, b, rfl, h⟩
 refine ⟨[(19, .tuple #[vi a, .bool b])], pk, ?_⟩
 refine T_ne 5 [(6, vi a), (7, .bool b)] <| T_srz 4 ?_
 refine N_cut [(4, vi a), (5, .bool (b && ((Int.tmod a 2) == 0)))] ?_ ?_
 ·refine S_then ?_
  exact T_ret [4, 5] [vi a, .bool (b && ((Int.tmod a 2) == 0))] hQ h
 intro hk
 refine T_n 3 [(6, vi a), (22, vi a), (24, .bool b)] ?_
 by_cases c3 : b = true
 ·have b4 : b = true := c3
  refine N_env [(6, vi a), (22, vi a), (24, .bool true)] (by rw [b4]) ?_
  refine T_n 6 [(4, vi a), (5, .bool ((Int.tmod a 2) == 0))] ?_
  refine N_end (by kernel_rfl) ?_
  refine S_env [(4, vi a), (5, .bool (b && ((Int.tmod a 2) == 0)))] (by simp only [b4, BL]) ?_
  exact hk
 have b4 : b = false := eq_false_of_ne_true c3
 refine N_env [(6, vi a), (22, vi a), (24, .bool false)] (by rw [b4]) ?_
 refine T_n 6 [(4, vi a), (5, .bool false)] ?_
 refine N_end (by kernel_rfl) ?_
 refine S_env [(4, vi a), (5, .bool (b && ((Int.tmod a 2) == 0)))] (by simp only [b4, BL]) ?_
 exact hk
end obj_Heap_pair

/-! (*moraine/obj.Heap).Pair -/
namespace obj_Heap_Pair
def K0 := Func.code Tryz.f71
end obj_Heap_Pair
def obj_Heap_Pair.pt (hv : Option Addr) (wv : Int) (H : Array Obj) (R : Value → Array Obj → Prop) : Prop :=
 obj_Heap_pair.C hv wv H (fun v H1 => ∃ (ra : Int) (rb : Bool), v = .tuple #[.int .i64 ra, .bool rb] ∧ 
 R (.bool rb) H1)
namespace obj_Heap_Pair
theorem link {hv : Option Addr} {wv : Int} {H : Array Obj} {R : Value → Array Obj → Prop} (h : pt hv wv H R) : C hv wv H R := by
 refine T_en K0 14 Tryz.func71 ?_
 intro w0 Q hQ
 unfold pt at h
 refine T_su [(0, vp hv), (1, vu wv)] <| T_srz 0 <| T_ed 1 [] [] <| T_srz 1 <| T_n 2 [(8, vp hv), (9, vu wv)] ?_
 refine T_c (some 10) h ?_; clear h
 rintro v H1 ⟨ra, rb, rfl, h⟩
 refine ⟨[(10, .tuple #[vi ra, .bool rb])], pk, ?_⟩
 exact T_ne 5 [(6, .bool rb)] <| T_srz 2 <| T_nr 2 [4] [.bool rb] hQ h
end obj_Heap_Pair

/-! (*moraine/obj.Heap).Cdr -/
namespace obj_Heap_Cdr
def K0 := Func.code Tryz.f109
end obj_Heap_Cdr
def obj_Heap_Cdr.pt (hv : Option Addr) (wv : Int) (H : Array Obj) (R : Value → Array Obj → Prop) : Prop :=
 obj_Heap_half.C hv wv 1 H (fun v H1 => ∃ ra rb : Int, v = .tuple #[.int .u64 ra, .int .i64 rb] ∧ 
 R (.tuple #[.int .u64 ra, .int .i64 rb]) H1)
namespace obj_Heap_Cdr
theorem link {hv : Option Addr} {wv : Int} {H : Array Obj} {R : Value → Array Obj → Prop} (h : pt hv wv H R) : C hv wv H R := by
 refine T_en K0 11 Tryz.func109 ?_
 intro w0 Q hQ
 unfold pt at h
 refine T_su [(0, vp hv), (1, vu wv)] <| T_srz 0 <| T_ed 2 [] [] <| T_srz 1 <| T_n 2 [(6, vp hv), (7, vu wv)] ?_
 refine T_c (some 8) h ?_; clear h
 rintro v H1 ⟨ra, rb, rfl, h⟩
 refine ⟨[(8, .tuple #[vu ra, vi rb])], pk, ?_⟩
 exact T_nr 4 [4, 5] [vu ra, vi rb] hQ h
end obj_Heap_Cdr

/-! slices.Contains[[]int,int] -/
namespace slices_Contains_int_int
def K0 := Func.code Tryz.f73
end slices_Contains_int_int
def slices_Contains_int_int.pt (sB : Option Addr) (sN sC : Nat) (v : Int) (H : Array Obj) (R : Value → Array Obj → Prop) : Prop :=
 slices_Index_int_int.C sB sN sC v H (fun a H1 => ∃ x : Int, a = .int .i64 x ∧ 
 R (.bool (decide (x ≥ 0))) H1)
namespace slices_Contains_int_int
theorem link {sB : Option Addr} {sN sC : Nat} {v : Int} {H : Array Obj} {R : Value → Array Obj → Prop} (h : pt sB sN sC v H R) : C sB sN sC v H R := by
 refine T_en K0 9 Tryz.func73 ?_
 intro w0 Q hQ
 unfold pt at h
 refine T_su [(0, vs sB sN sC), (1, vi v)] <| T_srz 0 <| T_ed 1 [] [] <| T_srz 1 <| T_n 2 [(5, vs sB sN sC), (6, vi v)] ?_
 refine T_c (some 7) h ?_; clear h
 rintro a H1 ⟨x, rfl, h⟩
 refine ⟨[(7, vi x)], pk, ?_⟩
 exact T_nr 2 [4] [.bool (decide (x ≥ 0))] hQ h
end slices_Contains_int_int

/-! slices.ContainsFunc[[]moraine/api.Datum,moraine/api.Datum] -/
namespace slices_ContainsFunc_api_Datum_api_Datum
def K0 := Func.code Tryz.f87
end slices_ContainsFunc_api_Datum_api_Datum
def slices_ContainsFunc_api_Datum_api_Datum.pt (sB : Option Addr) (sN sC : Nat) (f : Value) (H : Array Obj) (R : Value → Array Obj → Prop) : Prop :=
 slices_IndexFunc_api_Datum_api_Datum.C sB sN sC f H (fun v H1 => ∃ x : Int, v = .int .i64 x ∧ 
 R (.bool (decide (x ≥ 0))) H1)
namespace slices_ContainsFunc_api_Datum_api_Datum
theorem link {sB : Option Addr} {sN sC : Nat} {f : Value} {H : Array Obj} {R : Value → Array Obj → Prop} (h : pt sB sN sC f H R) : C sB sN sC f H R := by
 refine T_en K0 9 Tryz.func87 ?_
 intro w0 Q hQ
 unfold pt at h
 refine T_su [(0, vs sB sN sC), (1, f)] <| T_srz 0 <| T_ed 1 [] [] <| T_srz 1 <| T_n 2 [(5, vs sB sN sC), (6, f)] ?_
 refine T_c (some 7) h ?_; clear h
 rintro v H1 ⟨x, rfl, h⟩
 refine ⟨[(7, vi x)], pk, ?_⟩
 exact T_nr 2 [4] [.bool (decide (x ≥ 0))] hQ h
end slices_ContainsFunc_api_Datum_api_Datum

/-! slices.Index[[]int,int] -/
namespace slices_Index_int_int
def K0 := Func.code Tryz.f110
def K2 := cb K0
def K3 := ca K2
def K6 := cb K3
def K7 := ca K6
def K8 := ca K7
end slices_Index_int_int
def slices_Index_int_int.pt (sB : Option Addr) (sN sC : Nat) (v : Int) (H : Array Obj) (R : Value → Array Obj → Prop) : Prop :=
 ∃ (I9 : Int → Array Obj → Prop) (m9 : Int → Array Obj → Nat), I9 0 H ∧ ∀ (s8 : Int) (H1 : Array Obj), I9 s8 H1 →
 if s8 < (sN : Int) then (
 ∃ b : Addr, sB = some b ∧
 ((0 : Int) ≤ s8 ∧ s8 < (sN : Int)) ∧
 ∃ x : Int, hat H1 (b.add (Int.toNat s8 * 1)) = some (.int .i64 x) ∧
 if v = x then (
 R (.int .i64 s8) H1)
 else
 (I9 (IntKind.wrap .i64 (s8 + 1)) H1 ∧ m9 (IntKind.wrap .i64 (s8 + 1)) H1 < m9 s8 H1))
 else
 R (.int .i64 (-1)) H1
namespace slices_Index_int_int
theorem link {sB : Option Addr} {sN sC : Nat} {v : Int} {H : Array Obj} {R : Value → Array Obj → Prop} (h : pt sB sN sC v H R) : C sB sN sC v H R := by
 refine T_en K0 19 Tryz.func110 ?_
 intro w0 Q hQ
 unfold pt at h
 refine T_su [(0, vs sB sN sC), (1, vi v)] <| T_srz 0 <| T_ed 1 [] [] <| T_sz <| T_srz 1 <| T_ed 3 [] [(7, vi sN), (8, vi 0)] <| T_bz 0 ?_
 obtain ⟨I9, m9, i1, i2⟩ := h
 refine S_loop (x := K8) (σ := Int) (fun s_ => [(0, vs sB sN sC), (1, vi v), (7, vi sN), (8, vi s_)]) (fun s_ H => I9 s_ H) (fun s_ H => m9 s_ H) (0 : Int) (by kernel_rfl) i1 sk ?_
 rintro s8 H1 i3
 have h := i2 s8 H1 i3
 refine T_su [(0, vs sB sN sC), (1, vi v), (7, vi sN), (8, vi s8)] <| T_srz 2 <| T_ed 1 [] [(9, .bool (decide (s8 < (sN : Int))))] <| T_sz ?_
 by_cases c4 : s8 < (sN : Int)
 ·rw [if_pos c4] at h
  refine T_cTz 9 (decide_eq_true c4) <| T_kt <| T_sz <| T_bz 1 <| T_srz 3 <| T_ed 2 [9] [(5, vi s8)] <| T_srz 4 <| T_nd 3 [] [(11, vi v), (12, vs sB sN sC), (13, vi s8)] ?_
  obtain ⟨b, rfl, h⟩ := h
  obtain ⟨q6, h⟩ := h
  refine T_xd (some 14) 88 3 1 b sN sC .i64 s8 Tryz.underlying88 q6.1 q6.2 [0, 12, 13] [(0, vs (some b) sN sC), (14, vp (some (b.add (Int.toNat s8 * 1))))] ?_
  obtain ⟨x, q7, h⟩ := h
  refine T_l1 15 3 q7 [14] <| T_ed 1 [11, 15] [(16, .bool (v == x))] ?_
  by_cases c8 : v = x
  ·rw [if_pos c8] at h
   exact T_cTz 16 (beq_iff_eq.mpr c8) <| T_srz 5 <| T_nr 2 [4] [vi s8] hQ h
  rw [if_neg c8] at h
  refine T_cFz 16 (beq_eq_false_iff_ne.mpr c8) <| T_k ?_
  refine S_blockEnd ?_
  refine S_then ?_
  refine T_rz 6 <| T_ed 2 [5, 8, 16] [(8, vi (IntKind.wrap .i64 (s8 + 1)))] ?_
  exact S_round ((IntKind.wrap .i64 (s8 + 1)) : Int) sk h
 rw [if_neg c4] at h
 refine T_cFz 9 (decide_eq_false c4) ?_
 refine S_exit 0 (by kernel_rfl) ?_
 refine S_exitThen ?_
 refine S_exitThen ?_
 refine S_exitHere ?_
 refine S_then ?_
 exact T_srz 7 <| T_nr 1 [4] [vi (-1)] hQ h
end slices_Index_int_int

/-! slices.Equal[[]uint32,uint32] -/
namespace slices_Equal_uint32_uint32
def K0 := Func.code Tryz.f116
def K2 := cb K0
def K4 := cb K2
def K9 := ca K4
def K12 := cb K9
def K13 := ca K12
def K14 := ca K13
end slices_Equal_uint32_uint32
def slices_Equal_uint32_uint32.pt (o : Option Addr) (b g : Nat) (m : Option Addr) (e f : Nat) (H : Array Obj) (R : Value → Array Obj → Prop) : Prop :=
 if (b : Int) = (e : Int) then (
 ∃ (r : Int → Array Obj → Prop) (m15 : Int → Array Obj → Nat), r 0 H ∧ ∀ (d : Int) (H1 : Array Obj), r d H1 →
 if d < (b : Int) then (
 ∃ j : Addr, o = some j ∧
 ((0 : Int) ≤ d ∧ d < (b : Int)) ∧
 ∃ x : Int, hat H1 (j.add (Int.toNat d * 1)) = some (.int .u32 x) ∧
 ∃ p : Addr, m = some p ∧
 ((0 : Int) ≤ d ∧ d < (e : Int)) ∧
 ∃ q : Int, hat H1 (p.add (Int.toNat d * 1)) = some (.int .u32 q) ∧
 if x = q then (
 (r (IntKind.wrap .i64 (d + 1)) H1 ∧ m15 (IntKind.wrap .i64 (d + 1)) H1 < m15 d H1))
 else
 R (.bool false) H1)
 else
 R (.bool true) H1)
 else
 R (.bool false) H
namespace slices_Equal_uint32_uint32
theorem link {o : Option Addr} {b g : Nat} {m : Option Addr} {e f : Nat} {H : Array Obj} {R : Value → Array Obj → Prop} (h : pt o b g m e f H R) : C o b g m e f H R := by
 refine T_en K0 26 Tryz.func116 ?_
 intro w0 Q hQ
 unfold pt at h
 refine T_su [(0, vs o b g), (1, vs m e f)] <| T_srz 0 <| T_ed 1 [] [] <| T_sz <| T_srz 1 <| T_ed 5 [] [(10, .bool ((b : Int) != (e : Int)))] ?_
 by_cases c1 : (b : Int) = (e : Int)
 ·rw [if_pos c1] at h
  refine T_cFz 10 (bne_eq_false_iff_eq.mpr c1) <| T_kt <| T_sz <| T_srz 3 <| T_ed 3 [10] [(12, vi b), (13, vi 0)] <| T_bz 0 ?_
  obtain ⟨r, m15, i3, i4⟩ := h
  refine S_loop (x := K14) (σ := Int) (fun s_ => [(0, vs o b g), (1, vs m e f), (12, vi b), (13, vi s_)]) (fun s_ H => r s_ H) (fun s_ H => m15 s_ H) (0 : Int) (by kernel_rfl) i3 sk ?_
  rintro d H1 i5
  have h := i4 d H1 i5
  refine T_su [(0, vs o b g), (1, vs m e f), (12, vi b), (13, vi d)] <| T_srz 4 <| T_ed 1 [] [(14, .bool (decide (d < (b : Int))))] <| T_sz ?_
  by_cases c6 : d < (b : Int)
  ·rw [if_pos c6] at h
   refine T_cTz 14 (decide_eq_true c6) <| T_kt <| T_sz <| T_bz 1 <| T_srz 5 <| T_ed 2 [14] [(5, vi d)] <| T_sz <| T_rqz 6 <| T_q1 16 (vs o b g) [] ?_
   refine T_q1 17 (vi d) [] ?_
   obtain ⟨j, rfl, h⟩ := h
   obtain ⟨q8, h⟩ := h
   refine Q_op (some 18) (indexAtN 22 (vs (some j) b g) (vi d)) (vp (some (j.add (Int.toNat d * 1)))) (fun _=>by kernel_rfl) (fun w _ => indexAt_run (P := Tryz.prog) (t := 22) (elem := 94) (sz := 1) (a := j) (len := b) (cap := g) (k := .i64) (i := d) Tryz.underlying22 (fun _=>by kernel_rfl) q8.1 q8.2 w) [(0, vs (some j) b g), (1, vs m e f), (5, vi d), (12, vi b), (13, vi d), (18, vp (some (j.add (Int.toNat d * 1))))] pk ?_
   obtain ⟨x, q9, h⟩ := h
   refine T_ql (some 19) 94 q9 [(0, vs (some j) b g), (1, vs m e f), (5, vi d), (12, vi b), (13, vi d), (19, .int .u32 x)] <| T_q1 20 (vs m e f) [] <| T_q1 21 (vi d) [5] ?_
   obtain ⟨p, rfl, h⟩ := h
   obtain ⟨q10, h⟩ := h
   refine Q_op (some 22) (indexAtN 22 (vs (some p) e f) (vi d)) (vp (some (p.add (Int.toNat d * 1)))) (fun _=>by kernel_rfl) (fun w _ => indexAt_run (P := Tryz.prog) (t := 22) (elem := 94) (sz := 1) (a := p) (len := e) (cap := f) (k := .i64) (i := d) Tryz.underlying22 (fun _=>by kernel_rfl) q10.1 q10.2 w) [(0, vs (some j) b g), (1, vs (some p) e f), (12, vi b), (13, vi d), (19, .int .u32 x), (22, vp (some (p.add (Int.toNat d * 1))))] pk ?_
   obtain ⟨q, q11, h⟩ := h
   refine T_ql (some 23) 94 q11 [(0, vs (some j) b g), (1, vs (some p) e f), (12, vi b), (13, vi d), (19, .int .u32 x), (23, .int .u32 q)] <| T_q1 24 (.bool (x != q)) [19, 23] ?_
   refine Q_sub [(0, vs (some j) b g), (1, vs (some p) e f), (12, vi b), (13, vi d), (24, .bool (x != q))] sk ?_
   refine T_qe ?_
   by_cases c12 : x = q
   ·rw [if_pos c12] at h
    refine T_cFz 24 (bne_eq_false_iff_eq.mpr c12) <| T_k ?_
    refine S_blockEnd ?_
    refine S_then ?_
    refine T_rz 8 <| T_ne 2 [(0, vs (some j) b g), (1, vs (some p) e f), (12, vi b), (13, vi (IntKind.wrap .i64 (d + 1)))] ?_
    exact S_round ((IntKind.wrap .i64 (d + 1)) : Int) sk h
   rw [if_neg c12] at h
   exact T_cTz 24 (bne_iff_ne.mpr c12) <| T_srz 7 <| T_nr 1 [4] [.bool false] hQ h
  rw [if_neg c6] at h
  refine T_cFz 14 (decide_eq_false c6) ?_
  refine S_exit 0 (by kernel_rfl) ?_
  refine S_exitThen ?_
  refine S_exitThen ?_
  refine S_exitHere ?_
  refine S_then ?_
  exact T_srz 9 <| T_nr 1 [4] [.bool true] hQ h
 rw [if_neg c1] at h
 exact T_cTz 10 (bne_iff_ne.mpr c1) <| T_srz 2 <| T_nr 1 [4] [.bool false] hQ h
end slices_Equal_uint32_uint32

/-! slices.IndexFunc[[]moraine/api.Datum,moraine/api.Datum] -/
namespace slices_IndexFunc_api_Datum_api_Datum
def K0 := Func.code Tryz.f117
def K2 := cb K0
def K3 := ca K2
def K6 := cb K3
def K7 := ca K6
def K8 := ca K7
end slices_IndexFunc_api_Datum_api_Datum
def slices_IndexFunc_api_Datum_api_Datum.pt (sB : Option Addr) (sN sC : Nat) (f : Value) (H : Array Obj) (R : Value → Array Obj → Prop) : Prop :=
 ∃ (I9 : Int → Array Obj → Prop) (m9 : Int → Array Obj → Nat), I9 0 H ∧ ∀ (s8 : Int) (H1 : Array Obj), I9 s8 H1 →
 if s8 < (sN : Int) then (
 ∃ b : Addr, sB = some b ∧
 ((0 : Int) ≤ s8 ∧ s8 < (sN : Int)) ∧
 ∃ m xC j g d e xT q o p, RowAt H1 (b.add (Int.toNat s8 * 6)) 0 (DR m xC j g d e xT q o p) ∧
 FC Tryz.prog f #[.agg (DR m xC j g d e xT q o p).toArray] H1 (fun v H2 => ∃ x : Bool, v = .bool x ∧ 
 if x = true then (
 R (.int .i64 s8) H2)
 else
 (I9 (IntKind.wrap .i64 (s8 + 1)) H2 ∧ m9 (IntKind.wrap .i64 (s8 + 1)) H2 < m9 s8 H1)))
 else
 R (.int .i64 (-1)) H1
namespace slices_IndexFunc_api_Datum_api_Datum
theorem link {sB : Option Addr} {sN sC : Nat} {f : Value} {H : Array Obj} {R : Value → Array Obj → Prop} (h : pt sB sN sC f H R) : C sB sN sC f H R := by
 refine T_en K0 19 Tryz.func117 ?_
 intro w0 Q hQ
 unfold pt at h
 refine T_su [(0, vs sB sN sC), (1, f)] <| T_srz 0 <| T_ed 1 [] [] <| T_sz <| T_srz 1 <| T_ed 3 [] [(7, vi sN), (8, vi 0)] <| T_bz 0 ?_
 obtain ⟨I9, m9, i1, i2⟩ := h
 refine S_loop (x := K8) (σ := Int) (fun s_ => [(0, vs sB sN sC), (1, f), (7, vi sN), (8, vi s_)]) (fun s_ H => I9 s_ H) (fun s_ H => m9 s_ H) (0 : Int) (by kernel_rfl) i1 sk ?_
 rintro s8 H1 i3
 have h := i2 s8 H1 i3
 refine T_su [(0, vs sB sN sC), (1, f), (7, vi sN), (8, vi s8)] <| T_srz 2 <| T_ed 1 [] [(9, .bool (decide (s8 < (sN : Int))))] <| T_sz ?_
 by_cases c4 : s8 < (sN : Int)
 ·rw [if_pos c4] at h
  refine T_cTz 9 (decide_eq_true c4) <| T_kt <| T_sz <| T_bz 1 <| T_srz 3 <| T_ed 2 [9] [(5, vi s8)] <| T_srz 4 <| T_nd 3 [] [(11, f), (12, vs sB sN sC), (13, vi s8)] ?_
  obtain ⟨b, rfl, h⟩ := h
  obtain ⟨q6, h⟩ := h
  refine T_xd (some 14) 25 27 6 b sN sC .i64 s8 Tryz.underlying25 q6.1 q6.2 [0, 12, 13] [(0, vs (some b) sN sC), (14, vp (some (b.add (Int.toNat s8 * 6))))] ?_
  obtain ⟨m, xC, j, g, d, e, xT, q, o, p, q7, h⟩ := h
  refine T_lr 15 27 q7 [14] ?_
  refine N_callv (some 16) f #[.agg (DR m xC j g d e xT q o p).toArray] (fun _=>by kernel_rfl) h ?_; clear h
  rintro v H2 ⟨x, rfl, h⟩
  refine T_pd [11, 15] [(16, .bool x)] <| T_e ?_
  by_cases c8 : x = true
  ·rw [if_pos c8] at h
   exact T_cTz 16 c8 <| T_srz 5 <| T_nr 2 [4] [vi s8] hQ h
  rw [if_neg c8] at h
  refine T_cFz 16 (eq_false_of_ne_true c8) <| T_k ?_
  refine S_blockEnd ?_
  refine S_then ?_
  refine T_rz 6 <| T_ed 2 [5, 8, 16] [(8, vi (IntKind.wrap .i64 (s8 + 1)))] ?_
  exact S_round ((IntKind.wrap .i64 (s8 + 1)) : Int) sk h
 rw [if_neg c4] at h
 refine T_cFz 9 (decide_eq_false c4) ?_
 refine S_exit 0 (by kernel_rfl) ?_
 refine S_exitThen ?_
 refine S_exitThen ?_
 refine S_exitHere ?_
 refine S_then ?_
 exact T_srz 7 <| T_nr 1 [4] [vi (-1)] hQ h
end slices_IndexFunc_api_Datum_api_Datum

/-! slices.Clone[[]uint32,uint32] -/
namespace slices_Clone_uint32_uint32
def K0 := Func.code Tryz.f118
end slices_Clone_uint32_uint32
def slices_Clone_uint32_uint32.pt (sB : Option Addr) (sN sC : Nat) (H : Array Obj) (R : Value → Array Obj → Prop) : Prop :=
 onPtr sB (
 R (.slice none 0 0) H) (fun a =>
 ∀ (b : Nat) (H1 : Array Obj), b = H.size → H1 = H.push (.cells #[] 94) →
 appendK 1 94 4 [.int .u32 0] (some (ad b)) 0 0 (some a) sN H1 (fun ap d H2 =>
 R (.slice ap (0 + sN) d) H2))
namespace slices_Clone_uint32_uint32
theorem link {sB : Option Addr} {sN sC : Nat} {H : Array Obj} {R : Value → Array Obj → Prop} (h : pt sB sN sC H R) : C sB sN sC H R := by
 refine T_en K0 8 Tryz.func118 ?_
 intro w0 Q hQ
 unfold pt at h
 refine T_su [(0, vs sB sN sC)] <| T_srz 0 <| T_ed 1 [] [] <| T_sz <| T_srz 1 <| T_nd 1 [] [(3, vs sB sN sC)] ?_
 rcases sB with _ | a
 ·rw [onPtr_none] at h
  exact T_ne 1 [(0, vs none sN sC), (4, .bool true)] <| T_tz 4 <| T_srz 2 <| T_nr 1 [2] [vs none 0 0] hQ h
 rw [onPtr_some] at h
 refine T_ne 1 [(0, vs (some a) sN sC), (4, .bool false)] <| T_fz 4 <| T_kt <| T_srz 3 <| T_ud [4] [] <| T_nw (some 5) (fun b => vs (pa b) 0 0) (.cells #[] 94) ?_
 intro b H1 e1 e2
 replace h := h b H1 e1 e2
 refine T_pd [] [(5, vs (pa b) 0 0)] <| T_nd 1 [0] [(6, vs (some a) sN sC)] ?_
 refine N_op (some 7) (appendN #[22, 22] 22 #[vs (pa b) 0 0, vs (some a) sN sC]) _ (fun _=>by kernel_rfl) (ss_append (T := 94) (sz := 1) (bytes := 4) (zero := (.int .u32 0 : Value)) Tryz.underlying22 Tryz.underlying22 rfl (show Tryz.prog.info? 94 = some Tryz.t94 from by kernel_rfl) (by kernel_rfl) (by kernel_rfl) (by decide) (by kernel_rfl) (by first | exact h | (simpa only [Value.cells, List.toList_toArray] using h))) ?_; clear h
 rintro _ H2 ⟨ap, d, rfl, h⟩
 refine ⟨[(7, vs ap (0 + sN) d)], pk, ?_⟩
 exact T_nr 1 [2] [vs ap (0 + sN) d] hQ h
end slices_Clone_uint32_uint32

/-! moraine/morainelaw17.heavy -/
namespace morainelaw17_heavy
def K0 := Func.code Tryz.f6
end morainelaw17_heavy
def morainelaw17_heavy.pt (m dC : Int) (o : Bool) (g : Option Addr) (i f : Nat) (dT : ByteArray) (t : Option Addr) (u s : Nat) (H : Array Obj) (R : Value → Array Obj → Prop) : Prop :=
 ∀ (b : Nat) (H1 : Array Obj), b = H.size → H1 = H.push (.cells (DR m dC o g i f dT t u s).toArray 27) →
 ∃ k xC j d a e xT r p q, RowAt H1 (ad b) 0 (DR k xC j d a e xT r p q) ∧
 morainelaw17_weigh.C k xC j d a e xT r p q 3000 H1 (fun v H2 => ∃ x : Int, v = .int .i64 x ∧ 
 R (.bool (decide (x < 0))) H2)
namespace morainelaw17_heavy
set_option maxRecDepth 100000 in
theorem link {m dC : Int} {o : Bool} {g : Option Addr} {i f : Nat} {dT : ByteArray} {t : Option Addr} {u s : Nat} {H : Array Obj} {R : Value → Array Obj → Prop} (h : pt m dC o g i f dT t u s H R) : C m dC o g i f dT t u s H R := by
 refine T_en K0 6 Tryz.func6 ?_
 intro w0 Q hQ
 unfold pt at h
 refine T_su [(0, .agg (DR m dC o g i f dT t u s).toArray)] <| T_srz 0 <| T_nw (some 1) (fun b => vp (pa b)) (.cells (DR m dC o g i f dT t u s).toArray 27) ?_
 intro b H1 e1 e2
 replace h := h b H1 e1 e2
 refine ⟨[(1, vp (pa b))], pk, ?_⟩
 refine T_ed 1 [] [] <| T_srz 1 ?_
 obtain ⟨k, xC, j, d, a, e, xT, r, p, q, q3, h⟩ := h
 refine T_lr 3 27 q3 [1] ?_
 refine T_c (some 4) h ?_; clear h
 rintro v H2 ⟨x, rfl, h⟩
 refine ⟨[(4, vi x)], pk, ?_⟩
 exact T_nr 2 [2] [.bool (decide (x < 0))] hQ h
end morainelaw17_heavy

/-! moraine/morainelaw17.weigh -/
namespace morainelaw17_weigh
def K0 := Func.code Tryz.f19
def K2 := cb K0
def K4 := cb K2
def K6 := cb K4
def K13 := ca K6
def K16 := cb K13
def K17 := ca K16
def K18 := ca K17
end morainelaw17_weigh
def morainelaw17_weigh.pt (z dC : Int) (aa : Bool) (p : Option Addr) (q o : Nat) (dT : ByteArray) (ak : Option Addr) (al aj : Nat) (e : Int) (H : Array Obj) (R : Value → Array Obj → Prop) : Prop :=
 ∀ (b : Nat) (H1 : Array Obj), b = H.size → H1 = H.push (.cells (DR z dC aa p q o dT ak al aj).toArray 27) →
 ∃ x : ByteArray, hat H1 ((ad b).add 4) = some (.string x) ∧
 if (x.size : Int) > 1000 then (
 R (.int .i64 (-1)) H1)
 else
 ∃ (xB : Option Addr) (xN xC : Nat), hat H1 (((ad b).add 2).add 1) = some (.slice xB xN xC) ∧
 if (xN : Int) > 300 then (
 R (.int .i64 (-1)) H1)
 else
 ∃ (ao : Int → Int → Array Obj → Prop) (m19 : Int → Int → Array Obj → Nat), ao (IntKind.wrap .i64 (e - 1)) 0 H1 ∧ ∀ (d : Int) (i : Int) (H2 : Array Obj), ao d i H2 →
 ∃ (am : Option Addr) (f an : Nat), hat H2 ((ad b).add 5) = some (.slice am f an) ∧
 if ((decide (i < (f : Int))) && (decide (d ≥ 0))) = true then (
 ∃ (ae : Option Addr) (u ab : Nat), hat H2 ((ad b).add 5) = some (.slice ae u ab) ∧
 ∃ y : Addr, ae = some y ∧
 ((0 : Int) ≤ i ∧ i < (u : Int)) ∧
 ∃ s ac r j g m xT ai ag ah, RowAt H2 (y.add (Int.toNat i * 6)) 0 (DR s ac r j g m xT ai ag ah) ∧
 morainelaw17_weigh.C s ac r j g m xT ai ag ah d H2 (fun v H3 => ∃ af : Int, v = .int .i64 af ∧ 
 (ao af (IntKind.wrap .i64 (i + 1)) H3 ∧ m19 af (IntKind.wrap .i64 (i + 1)) H3 < m19 d i H2)))
 else
 R (.int .i64 d) H2
namespace morainelaw17_weigh
set_option maxRecDepth 100000 in
theorem link {z dC : Int} {aa : Bool} {p : Option Addr} {q o : Nat} {dT : ByteArray} {ak : Option Addr} {al aj : Nat} {e : Int} {H : Array Obj} {R : Value → Array Obj → Prop} (h : pt z dC aa p q o dT ak al aj e H R) : C z dC aa p q o dT ak al aj e H R := by
 refine T_en K0 38 Tryz.func19 ?_
 intro w0 Q hQ
 unfold pt at h
 refine T_su [(0, .agg (DR z dC aa p q o dT ak al aj).toArray), (1, vi e)] <| T_srz 0 <| T_nw (some 2) (fun b => vp (pa b)) (.cells (DR z dC aa p q o dT ak al aj).toArray 27) ?_
 intro b H1 e1 e2
 replace h := h b H1 e1 e2
 refine T_pd [0] [(2, vp (pa b))] <| T_ed 1 [] [] <| T_srz 1 <| T_ed 3 [1] [(1, vi (IntKind.wrap .i64 (e - 1)))] <| T_sz <| T_srz 2 <| T_nd 1 [] [(8, vp (some ((ad b).add 4)))] ?_
 obtain ⟨x, q3, h⟩ := h
 refine T_l1 9 9 q3 [8] <| T_nd 3 [9] [(12, .bool (decide ((x.size : Int) > 1000)))] ?_
 by_cases c4 : (x.size : Int) > 1000
 ·rw [if_pos c4] at h
  exact N_bd 12 (decide_eq_true c4) <| T_ed 6 [12] [(18, .bool true)] <| T_tz 18 <| T_srz 3 <| T_nr 1 [4] [vi (-1)] hQ h
 rw [if_neg c4] at h
 refine N_bd 12 (decide_eq_false c4) <| T_nd 2 [] [(14, vp (some (((ad b).add 2).add 1)))] ?_
 obtain ⟨xB, xN, xC, q6, h⟩ := h
 refine T_l1 15 22 q6 [14] <| T_ed 3 [12, 15] [(18, .bool (decide ((xN : Int) > 300)))] ?_
 by_cases c7 : (xN : Int) > 300
 ·rw [if_pos c7] at h
  exact T_cTz 18 (decide_eq_true c7) <| T_srz 3 <| T_nr 1 [4] [vi (-1)] hQ h
 rw [if_neg c7] at h
 refine T_cFz 18 (decide_eq_false c7) <| T_kt <| T_sz <| T_srz 4 <| T_ed 1 [18] [(5, vi 0)] <| T_bz 0 ?_
 obtain ⟨ao, m19, i9, i10⟩ := h
 refine S_loop (x := K18) (σ := Int × Int) (fun s_ => [(1, vi s_.1), (2, vp (pa b)), (5, vi s_.2)]) (fun s_ H => ao s_.1 s_.2 H) (fun s_ H => m19 s_.1 s_.2 H) (((IntKind.wrap .i64 (e - 1)), 0) : Int × Int) (by kernel_rfl) i9 sk ?_
 rintro ⟨d, i⟩ H2 i11
 have h := i10 d i H2 i11
 refine T_su [(1, vi d), (2, vp (pa b)), (5, vi i)] <| T_sz <| T_srz 5 <| T_nd 2 [] [(19, vi i), (20, vp (some ((ad b).add 5)))] ?_
 obtain ⟨am, f, an, q12, h⟩ := h
 refine T_l1 21 25 q12 [20] <| T_nd 3 [19, 21] [(24, .bool (decide (i < (f : Int))))] ?_
 refine N_cut [(1, vi d), (2, vp (pa b)), (5, vi i), (27, .bool ((decide (i < (f : Int))) && (decide (d ≥ 0))))] ?_ ?_
 ·refine S_then ?_
  by_cases c15 : ((decide (i < (f : Int))) && (decide (d ≥ 0))) = true
  ·rw [if_pos c15] at h
   refine T_cTz 27 c15 <| T_kt <| T_sz <| T_bz 1 <| T_rz 7 <| T_n 1 [(1, vi d), (2, vp (pa b)), (5, vi i), (30, vp (some ((ad b).add 5)))] ?_
   obtain ⟨ae, u, ab, q17, h⟩ := h
   refine T_l1 31 25 q17 [30] <| T_nd 1 [] [(32, vi i)] ?_
   obtain ⟨y, rfl, h⟩ := h
   obtain ⟨q18, h⟩ := h
   refine T_xd (some 33) 25 27 6 y u ab .i64 i Tryz.underlying25 q18.1 q18.2 [31, 32] [(33, vp (some (y.add (Int.toNat i * 6))))] ?_
   obtain ⟨s, ac, r, j, g, m, xT, ai, ag, ah, q19, h⟩ := h
   refine T_lr 34 27 q19 [33] <| T_nd 1 [1] [(35, vi d)] ?_
   refine T_c (some 36) h ?_; clear h
   rintro v H3 ⟨af, rfl, h⟩
   refine T_pd [34, 35] [(36, vi af)] <| T_nd 1 [36] [(1, vi af)] ?_
   refine N_end (by kernel_rfl) ?_
   refine S_blockEnd ?_
   refine S_then ?_
   refine T_rz 6 <| T_ed 3 [5] [(5, vi (IntKind.wrap .i64 (i + 1)))] ?_
   exact S_round ((af, (IntKind.wrap .i64 (i + 1))) : Int × Int) sk h
  rw [if_neg c15] at h
  refine T_cFz 27 (eq_false_of_ne_true c15) ?_
  refine S_exit 0 (by kernel_rfl) ?_
  refine S_exitThen ?_
  refine S_exitThen ?_
  refine S_exitHere ?_
  refine S_then ?_
  exact T_srz 8 <| T_nr 2 [4] [vi d] hQ h
 intro hk
 refine T_nu [(1, vi d), (2, vp (pa b)), (5, vi i), (24, .bool (decide (i < (f : Int))))] ?_
 by_cases c13 : i < (f : Int)
 ·have b14 : (decide (i < (f : Int))) = true := decide_eq_true c13
  refine N_env [(1, vi d), (2, vp (pa b)), (5, vi i), (24, .bool true)] (by rw [b14]) ?_
  refine T_nd 3 [24] [(27, .bool (decide (d ≥ 0)))] ?_
  refine N_end (by kernel_rfl) ?_
  refine S_bd 27 (b := (decide (d ≥ 0))) (v := ((decide (i < (f : Int))) && (decide (d ≥ 0)))) (by simp only [b14, BL]) ?_
  exact hk
 have b14 : (decide (i < (f : Int))) = false := decide_eq_false c13
 refine N_env [(1, vi d), (2, vp (pa b)), (5, vi i), (24, .bool false)] (by rw [b14]) ?_
 refine T_nd 3 [24] [(27, .bool false)] ?_
 refine N_end (by kernel_rfl) ?_
 refine S_bd 27 (b := false) (v := ((decide (i < (f : Int))) && (decide (d ≥ 0)))) (by simp only [b14, BL]) ?_
 exact hk
end morainelaw17_weigh

/-! moraine/syms.Intern -/
namespace syms_Intern
def K0 := Func.code Tryz.f30
end syms_Intern
def syms_Intern.pt (hv : Option Addr) (a : ByteArray) (H : Array Obj) (R : Value → Array Obj → Prop) : Prop :=
 if a.toList = (ByteArray.mk #[]).toList then (
 R (.tuple #[.int .u64 0, .int .i64 1]) H)
 else
 unicode_utf8_ValidString.C a H (fun v H1 => ∃ x : Bool, v = .bool x ∧ 
 if x = true then (
 unicode_utf8_RuneCountInString.C a H1 (fun o H2 => ∃ j : Int, o = .int .i64 j ∧ 
 if j > 62 then (
 R (.tuple #[.int .u64 0, .int .i64 6]) H2)
 else
 syms_Find.C hv a H2 (fun r H3 => ∃ (ra : Int) (rb : Bool), r = .tuple #[.int .u64 ra, .bool rb] ∧ 
 if rb = true then (
 R (.tuple #[.int .u64 ra, .int .i64 0]) H3)
 else
 onPtr hv (
 R (.tuple #[.int .u64 0, .int .i64 2]) H3) (fun d =>
 obj_Heap_String.C (some d) a H3 (fun p H4 => ∃ i g : Int, p = .tuple #[.int .u64 i, .int .i64 g] ∧ 
 if g = 0 then (
 ∀ (b : Nat) (H5 : Array Obj), b = H4.size → H5 = H4.push (.cells #[.int .u64 i] 35) →
 obj_Heap_Make.C (some d) 4 0 (some (ad b)) 1 1 H5 (fun q H6 => ∃ f e : Int, q = .tuple #[.int .u64 f, .int .i64 e] ∧ 
 if e = 0 then (
 ∃ (xB : Option Addr) (xN xC : Nat), hat H6 (d.add 1) = some (.slice xB xN xC) ∧
 ∀ (m : Nat) (H7 : Array Obj), m = H6.size → H7 = H6.push (.cells #[.int .u64 f] 35) →
 appendK 1 35 8 [.int .u64 0] xB xN xC (some (ad m)) 1 H7 (fun ap k H8 =>
 (CanPuts H8 (d.add 1) 0 1) ∧ ∀ H9, H9 = hputs H8 (d.add 1) [.slice ap (xN + 1) k] 0 →
 R (.tuple #[.int .u64 f, .int .i64 e]) H9))
 else
 R (.tuple #[.int .u64 f, .int .i64 e]) H6))
 else
 R (.tuple #[.int .u64 0, .int .i64 g]) H4)))))
 else
 R (.tuple #[.int .u64 0, .int .i64 1]) H1)
namespace syms_Intern
theorem link {hv : Option Addr} {a : ByteArray} {H : Array Obj} {R : Value → Array Obj → Prop} (h : pt hv a H R) : C hv a H R := by
 refine T_en K0 63 Tryz.func30 ?_
 intro w0 Q hQ
 unfold pt at h
 refine T_su [(0, vp hv), (1, .string a)] <| T_srz 0 <| T_ed 2 [] [] <| T_sz <| T_bz 0 <| T_srz 1 <| T_nd 3 [] [(14, .bool (a.toList == (ByteArray.mk #[]).toList))] ?_
 by_cases c1 : a.toList = (ByteArray.mk #[]).toList
 ·rw [if_pos c1] at h
  exact N_bd 14 (beq_iff_eq.mpr c1) <| T_ed 5 [14] [(11, .bool true)] <| T_tz 11 <| T_srz 2 <| T_nr 2 [4, 5] [vu 0, vi 1] hQ h
 rw [if_neg c1] at h
 refine N_bd 14 (beq_eq_false_iff_ne.mpr c1) <| T_nd 1 [] [(15, .string a)] ?_
 refine T_c (some 16) h ?_; clear h
 rintro v H1 ⟨x, rfl, h⟩
 refine T_pd [15] [(16, .bool x)] <| T_ed 3 [14, 16] [(11, .bool (!x))] ?_
 by_cases c3 : x = true
 ·rw [if_pos c3] at h
  refine T_cFz 11 (congrArg Bool.not (c3)) <| T_srz 3 <| T_nd 1 [11] [(20, .string a)] ?_
  refine T_c (some 21) h ?_; clear h
  rintro o H2 ⟨j, rfl, h⟩
  refine T_pd [20] [(21, vi j)] <| T_ed 2 [21] [(19, .bool (decide (j > 62)))] ?_
  by_cases c5 : j > 62
  ·rw [if_pos c5] at h
   exact T_cTz 19 (decide_eq_true c5) <| T_srz 4 <| T_nr 2 [4, 5] [vu 0, vi 6] hQ h
  rw [if_neg c5] at h
  refine T_cFz 19 (decide_eq_false c5) <| T_k ?_
  refine S_blockEnd ?_
  refine S_then ?_
  refine T_sz <| T_srz 5 <| T_nd 2 [19] [(24, vp hv), (25, .string a)] ?_
  refine T_c (some 26) h ?_; clear h
  rintro r H3 ⟨ra, rb, rfl, h⟩
  refine T_pd [24, 25] [(26, .tuple #[vu ra, .bool rb])] <| T_ed 5 [26] [(6, vu ra), (7, .bool rb)] <| T_srz 6 <| T_ed 1 [7] [(29, .bool rb)] ?_
  by_cases c7 : rb = true
  ·rw [if_pos c7] at h
   exact T_cTz 29 c7 <| T_srz 7 <| T_nr 3 [4, 5] [vu ra, vi 0] hQ h
  rw [if_neg c7] at h
  refine T_cFz 29 (eq_false_of_ne_true c7) <| T_kt <| T_sz <| T_srz 8 <| T_nd 1 [6, 29] [(31, vp hv)] ?_
  rcases hv with _ | d
  ·rw [onPtr_none] at h
   exact T_ed 1 [0, 31] [(0, vp none), (32, .bool true)] <| T_tz 32 <| T_srz 9 <| T_nr 2 [4, 5] [vu 0, vi 2] hQ h
  rw [onPtr_some] at h
  refine T_ed 1 [0, 31] [(0, vp (some d)), (32, .bool false)] <| T_fz 32 <| T_kt <| T_srz 10 <| T_nd 2 [1, 32] [(34, vp (some d)), (35, .string a)] ?_
  refine T_c (some 36) h ?_; clear h
  rintro p H4 ⟨i, g, rfl, h⟩
  refine T_pd [34, 35] [(36, .tuple #[vu i, vi g])] <| T_ed 5 [36] [(8, vu i), (9, vi g)] <| T_sz <| T_srz 11 <| T_ed 2 [] [(40, .bool (g != 0))] ?_
  by_cases c9 : g = 0
  ·rw [if_pos c9] at h
   refine T_cFz 40 (bne_eq_false_iff_eq.mpr c9) <| T_kt <| T_srz 13 <| T_nd 2 [8, 9, 40] [(43, vp (some d)), (44, vu i)] <| T_nw (some 45) (fun b => vs (pa b) 1 1) (.cells #[vu i] 35) ?_
   intro b H5 e11 e12
   replace h := h b H5 e11 e12
   refine T_pd [44] [(45, vs (pa b) 1 1)] ?_
   refine T_c (some 46) h ?_; clear h
   rintro q H6 ⟨f, e, rfl, h⟩
   refine T_pd [43, 45] [(46, .tuple #[vu f, vi e])] <| T_ed 5 [46] [(9, vi e), (10, vu f)] <| T_sz <| T_srz 14 <| T_ed 2 [] [(50, .bool (e == 0))] ?_
   by_cases c13 : e = 0
   ·rw [if_pos c13] at h
    refine T_cTz 50 (beq_iff_eq.mpr c13) <| T_rz 15 <| T_nd 4 [0, 50] [(51, vp (some d)), (54, vp (some (d.add 1)))] ?_
    obtain ⟨xB, xN, xC, q15, h⟩ := h
    refine T_l1 55 43 q15 [54] <| T_nd 1 [] [(56, vu f)] <| T_nw (some 57) (fun b => vs (pa b) 1 1) (.cells #[vu f] 35) ?_
    intro m H7 e16 e17
    replace h := h m H7 e16 e17
    refine T_pd [56] [(57, vs (pa m) 1 1)] ?_
    refine N_op (some 58) (appendN #[43, 43] 43 #[vs xB xN xC, vs (pa m) 1 1]) _ (fun _=>by kernel_rfl) (ss_append (T := 35) (sz := 1) (bytes := 8) (zero := (vu 0 : Value)) Tryz.underlying43 Tryz.underlying43 rfl (show Tryz.prog.info? 35 = some Tryz.t35 from by kernel_rfl) (by kernel_rfl) (by kernel_rfl) (by decide) (by kernel_rfl) (by first | exact h | (simpa only [Value.cells, List.toList_toArray] using h))) ?_; clear h
    rintro _ H8 ⟨ap, k, rfl, h⟩
    refine T_pd [55, 57] [(58, vs ap (xN + 1) k)] <| T_nd 2 [51] [(60, vp (some (d.add 1)))] ?_
    obtain ⟨q19, h⟩ := h
    refine T_st1 43 (vs ap (xN + 1) k) q19 ?_
    intro H9 e18
    replace h := h H9 e18
    exact T_pd [58, 60] [] <| T_e <| T_srz 16 <| T_nr 4 [4, 5] [vu f, vi e] hQ h
   rw [if_neg c13] at h
   exact T_cFz 50 (beq_eq_false_iff_ne.mpr c13) <| T_kt <| T_srz 16 <| T_nr 4 [4, 5] [vu f, vi e] hQ h
  rw [if_neg c9] at h
  exact T_cTz 40 (bne_iff_ne.mpr c9) <| T_srz 12 <| T_nr 3 [4, 5] [vu 0, vi g] hQ h
 rw [if_neg c3] at h
 exact T_cTz 11 (congrArg Bool.not (eq_false_of_ne_true c3)) <| T_srz 2 <| T_nr 2 [4, 5] [vu 0, vi 1] hQ h
end syms_Intern

/-! moraine/syms.Find -/
namespace syms_Find
def K0 := Func.code Tryz.f57
def K2 := cb K0
def K4 := cb K2
def K11 := ca K4
def K14 := cb K11
def K15 := ca K14
def K16 := ca K15
def K17 := cb K15
end syms_Find
def syms_Find.pt (hv : Option Addr) (j : ByteArray) (H : Array Obj) (R : Value → Array Obj → Prop) : Prop :=
 ∀ (b : Nat) (H1 : Array Obj), b = H.size → H1 = H.push (.cells #[.string j] 9) →
 ∀ (a : Nat) (H2 : Array Obj), a = H1.size → H2 = H1.push (.cells #[.int .u64 0] 35) →
 ∀ (d : Nat) (H3 : Array Obj), d = H2.size → H3 = H2.push (.cells #[.bool false] 4) →
 onPtr hv (
 (CanPuts H3 (ad a) 0 1) ∧ ∀ H4, H4 = hputs H3 (ad a) [.int .u64 0] 0 →
 (CanPuts H4 (ad d) 0 1) ∧ ∀ H5, H5 = hputs H4 (ad d) [.bool false] 0 →
 ∃ r : Int, hat H5 (ad a) = some (.int .u64 r) ∧
 ∃ u : Bool, hat H5 (ad d) = some (.bool u) ∧
 R (.tuple #[.int .u64 r, .bool u]) H5) (fun o =>
 syms_named.C (some o) H3 (fun v H6 => v = v ∧ 
 ∀ (rc : LoopState → Option Code → Obj) (lp : Nat) (H7 : Array Obj), lp = H6.size + 1 → H7 = (H6.push (.deferred (some []))).push (rc .ready none) →
 ∀ vY : Value, (∀ (e : Int) (x_3 : ByteArray) (H8 : Array Obj) (vRy : Value → Array Obj → Prop), H8[lp]? = some (rc .ready none) →
 ( H8[lp]? = some (rc .ready none) ∧ ∀ H9 : Array Obj, H9 = setBlk H8 lp (rc .busy none) →
 ∃ i : ByteArray, hat H9 (ad b) = some (.string i) ∧
 if x_3.toList = i.toList then (
 (CanPuts H9 (ad a) 0 1) ∧ ∀ m, m = hputs H9 (ad a) [.int .u64 e] 0 →
 (CanPuts m (ad d) 0 1) ∧ ∀ q, q = hputs m (ad d) [.bool true] 0 →
 q[lp]? = some (rc .busy none) ∧
 vRy (.bool false) (setBlk q lp (rc .done (some .ret))))
 else
 H9[lp]? = some (rc .busy none) ∧
 vRy (.bool true) (setBlk H9 lp (rc .ready none))) →
 FC Tryz.prog vY #[.int .u64 e, .string x_3] H8 vRy) →
 FE Tryz.prog v #[vY] H7 (fun _ p =>
 (p[lp]? = some (rc .ready none) ∧ ∀ f : Array Obj, f = setBlk p lp (rc .exhausted none) →
 (CanPuts f (ad a) 0 1) ∧ ∀ k, k = hputs f (ad a) [.int .u64 0] 0 →
 (CanPuts k (ad d) 0 1) ∧ ∀ t, t = hputs k (ad d) [.bool false] 0 →
 Shut (H6.size :: []) t (fun s =>
 ∃ z : Int, hat s (ad a) = some (.int .u64 z) ∧
 ∃ aa : Bool, hat s (ad d) = some (.bool aa) ∧
 R (.tuple #[.int .u64 z, .bool aa]) s)) ∨
 (p[lp]? = some (rc .done (some .ret)) ∧ ∀ f : Array Obj, f = setBlk p lp (rc .exhausted (some .ret)) →
 Shut (H6.size :: []) f (fun y =>
 ∃ x : Int, hat y (ad a) = some (.int .u64 x) ∧
 ∃ ab : Bool, hat y (ad d) = some (.bool ab) ∧
 R (.tuple #[.int .u64 x, .bool ab]) y)))))
namespace syms_Find
theorem link {hv : Option Addr} {j : ByteArray} {H : Array Obj} {R : Value → Array Obj → Prop} (h : pt hv j H R) : C hv j H R := by
 refine T_en K0 18 Tryz.func57 ?_
 intro w0 Q hQ
 unfold pt at h
 refine T_su [(0, vp hv), (1, .string j)] <| T_srz 0 <| T_nw (some 3) (fun b => vp (pa b)) (.cells #[.string j] 9) ?_
 intro b H1 e1 e2
 replace h := h b H1 e1 e2
 refine T_pd [1] [(3, vp (pa b))] <| T_nw (some 4) (fun b => vp (pa b)) (.cells #[vu 0] 35) ?_
 intro a H2 e3 e4
 replace h := h a H2 e3 e4
 refine T_pd [] [(4, vp (pa a))] <| T_nw (some 5) (fun b => vp (pa b)) (.cells #[.bool false] 4) ?_
 intro d H3 e5 e6
 replace h := h d H3 e5 e6
 refine T_pd [] [(5, vp (pa d))] <| T_e <| T_sz <| T_srz 1 <| T_nd 1 [] [(8, vp hv)] ?_
 rcases hv with _ | o
 ·rw [onPtr_none] at h
  refine T_ed 1 [0, 8] [(0, vp none), (9, .bool true)] <| T_tz 9 <| T_srz 2 <| T_ud [0, 3, 9] [] ?_
  obtain ⟨q8, h⟩ := h
  refine T_st1 35 (vu 0) q8 ?_
  intro H4 e7
  replace h := h H4 e7
  refine T_pd [] [] ?_
  obtain ⟨q10, h⟩ := h
  refine T_st1 4 (.bool false) q10 ?_
  intro H5 e9
  replace h := h H5 e9
  refine T_pd [] [] <| T_e ?_
  refine S_ret (by kernel_rfl) ?_
  show At _ _ _ _ _ (Q .ret)
  obtain ⟨r, q11, h⟩ := h
  obtain ⟨u, q12, h⟩ := h
  exact S_done (fn := Tryz.f57) [vu r, .bool u] hQ (show ResOK _ _ _ [.cell 4 35, .cell 5 4] _ from .cell (by kernel_rfl) (loadOK_one (fun _=>by kernel_rfl) q11) (.cell (by kernel_rfl) (loadOK_one (fun _=>by kernel_rfl) q12) (.nil))) h
 rw [onPtr_some] at h
 refine T_ed 1 [0, 8] [(0, vp (some o)), (9, .bool false)] <| T_fz 9 <| T_kt <| T_sz <| T_srz 3 <| T_nd 1 [0, 9] [(10, vp (some o))] ?_
 refine T_c (some 11) h ?_; clear h
 rintro v H6 ⟨-, h⟩
 refine T_pd [10] [(11, v)] <| T_e <| T_bz 0 ?_
 refine S_range (g := .tmp 11) (ps := #[12, 13]) (assign := K16) (body := K17) (v) (by kernel_rfl) (by kernel_rfl) (by kernel_rfl) ?_
 intro rc lp H7 r13 e14 e15 y16
 refine FE.mono (h rc lp H7 e14 e15 (.func (.yield lp) #[] #[]) ?_) ?_
 ·clear h
  intro e x_3 H8 vRy q17 h
  refine y16 #[vu e, .string x_3] H8 vRy (by kernel_rfl) q17 (fun w1x => ?_)
  refine T_sd [] [(12, vu e), (13, .string x_3)] <| T_srz 4 <| T_ed 1 [11, 12] [(6, vu e)] <| T_rz 5 <| T_nd 1 [13] [(7, .string x_3)] ?_
  refine N_end (by kernel_rfl) ?_
  obtain ⟨q19, h⟩ := h
  refine S_then ?_
  refine S_begin r13 q19 ?_
  intro H9 e18
  replace h := h H9 e18
  refine T_bz 1 <| T_srz 6 <| T_nd 1 [7] [(14, .string x_3)] ?_
  obtain ⟨i, q20, h⟩ := h
  refine T_l1 15 9 q20 [3] <| T_ed 1 [14, 15] [(16, .bool (x_3.toList == i.toList))] ?_
  by_cases c21 : x_3.toList = i.toList
  ·rw [if_pos c21] at h
   refine T_cTz 16 (beq_iff_eq.mpr c21) <| T_srz 7 <| T_nd 1 [6, 16] [(17, vu e)] ?_
   obtain ⟨q24, h⟩ := h
   refine T_st1 35 (vu e) q24 ?_
   intro m e23
   replace h := h m e23
   refine T_pd [4, 17] [] ?_
   obtain ⟨q26, h⟩ := h
   refine T_st1 4 (.bool true) q26 ?_
   intro q e25
   replace h := h q e25
   refine ⟨[], pk, ?_⟩
   refine T_e ?_
   refine S_ret (by kernel_rfl) ?_
   show At _ _ _ _ _ (roundPost _ _ _ .ret)
   obtain ⟨q27, h⟩ := h
   exact S_rret r13 q27 h
  rw [if_neg c21] at h
  refine T_cFz 16 (beq_eq_false_iff_ne.mpr c21) <| T_k ?_
  refine S_blockEnd ?_
  obtain ⟨q28, h⟩ := h
  exact S_rnormal r13 q28 h
 clear h y16
 rintro _ p (⟨q29, h⟩ | ⟨q29, h⟩)
 ·refine .inl ⟨q29, fun f e38 => ?_⟩
  replace h := h f e38
  refine S_marks (H6.size :: []) rfl ?_
  refine T_sd [3, 11] [] ?_
  refine S_blockEnd ?_
  refine S_then ?_
  refine T_srz 8 ?_
  obtain ⟨q31, h⟩ := h
  refine T_st1 35 (vu 0) q31 ?_
  intro k e30
  replace h := h k e30
  refine T_pd [] [] ?_
  obtain ⟨q33, h⟩ := h
  refine T_st1 4 (.bool false) q33 ?_
  intro t e32
  replace h := h t e32
  refine T_pd [] [] <| T_e ?_
  refine S_ret (by kernel_rfl) ?_
  show At _ _ _ _ _ (Q .ret)
  refine S_doneM (fn := Tryz.f57) (H6.size :: []) hQ (Shut.mono (fun s h => ?_) h)
  obtain ⟨z, q34, h⟩ := h
  obtain ⟨aa, q35, h⟩ := h
  exact ⟨[vu z, .bool aa], (show ResOK _ _ _ [.cell 4 35, .cell 5 4] _ from .cell (by kernel_rfl) (loadOK_one (fun _=>by kernel_rfl) q34) (.cell (by kernel_rfl) (loadOK_one (fun _=>by kernel_rfl) q35) (.nil))), h⟩
 refine .inr ⟨_, q29, fun f e38 => ?_⟩
 replace h := h f e38
 refine S_marks (H6.size :: []) rfl ?_
 refine T_sd [3, 11] [] ?_
 refine S_ret rfl ?_
 show At _ _ _ _ _ (Q .ret)
 refine S_doneM (fn := Tryz.f57) (H6.size :: []) hQ (Shut.mono (fun y h => ?_) h)
 obtain ⟨x, q36, h⟩ := h
 obtain ⟨ab, q37, h⟩ := h
 exact ⟨[vu x, .bool ab], (show ResOK _ _ _ [.cell 4 35, .cell 5 4] _ from .cell (by kernel_rfl) (loadOK_one (fun _=>by kernel_rfl) q36) (.cell (by kernel_rfl) (loadOK_one (fun _=>by kernel_rfl) q37) (.nil))), h⟩
end syms_Find

/-! moraine/syms.Name -/
namespace syms_Name
def K0 := Func.code Tryz.f68
end syms_Name
def syms_Name.pt (hv : Option Addr) (wv : Int) (H : Array Obj) (R : Value → Array Obj → Prop) : Prop :=
 onPtr hv (
 R (.tuple #[.string (ByteArray.mk #[]), .int .i64 3]) H) (fun a =>
 obj_Heap_Get.C (some a) wv 4 0 H (fun v H1 => ∃ ra rb : Int, v = .tuple #[.int .u64 ra, .int .i64 rb] ∧ 
 if rb = 0 then (
 obj_Heap_Text.C (some a) ra H1 (fun e H2 => ∃ (d : ByteArray) (b : Int), e = .tuple #[.string d, .int .i64 b] ∧ 
 R (.tuple #[.string d, .int .i64 b]) H2))
 else
 R (.tuple #[.string (ByteArray.mk #[]), .int .i64 3]) H1))
namespace syms_Name
theorem link {hv : Option Addr} {wv : Int} {H : Array Obj} {R : Value → Array Obj → Prop} (h : pt hv wv H R) : C hv wv H R := by
 refine T_en K0 23 Tryz.func68 ?_
 intro w0 Q hQ
 unfold pt at h
 refine T_su [(0, vp hv), (1, vu wv)] <| T_srz 0 <| T_ed 2 [] [] <| T_sz <| T_srz 1 <| T_nd 1 [] [(8, vp hv)] ?_
 rcases hv with _ | a
 ·rw [onPtr_none] at h
  exact T_ed 1 [0, 8] [(0, vp none), (9, .bool true)] <| T_tz 9 <| T_srz 2 <| T_nr 2 [4, 5] [.string (ByteArray.mk #[]), vi 3] hQ h
 rw [onPtr_some] at h
 refine T_ed 1 [0, 8] [(0, vp (some a)), (9, .bool false)] <| T_fz 9 <| T_kt <| T_srz 3 <| T_nd 2 [1, 9] [(11, vp (some a)), (12, vu wv)] ?_
 refine T_c (some 13) h ?_; clear h
 rintro v H1 ⟨ra, rb, rfl, h⟩
 refine T_pd [11, 12] [(13, .tuple #[vu ra, vi rb])] <| T_ed 5 [13] [(6, vu ra), (7, vi rb)] <| T_sz <| T_srz 4 <| T_ed 2 [7] [(17, .bool (rb != 0))] ?_
 by_cases c1 : rb = 0
 ·rw [if_pos c1] at h
  refine T_cFz 17 (bne_eq_false_iff_eq.mpr c1) <| T_kt <| T_srz 6 <| T_n 2 [(18, vp (some a)), (19, vu ra)] ?_
  refine T_c (some 20) h ?_; clear h
  rintro e H2 ⟨d, b, rfl, h⟩
  refine ⟨[(20, .tuple #[.string d, vi b])], pk, ?_⟩
  exact T_nr 4 [4, 5] [.string d, vi b] hQ h
 rw [if_neg c1] at h
 exact T_cTz 17 (bne_iff_ne.mpr c1) <| T_srz 5 <| T_nr 2 [4, 5] [.string (ByteArray.mk #[]), vi 3] hQ h
end syms_Name

/-! moraine/syms.named -/
namespace syms_named
def K0 := Func.code Tryz.f92
end syms_named
def syms_named.pt (hv : Option Addr) (H : Array Obj) (R : Value → Array Obj → Prop) : Prop :=
 ∀ (b : Nat) (H1 : Array Obj), b = H.size → H1 = H.push (.cells #[.pointer hv] 30) →
 R (.func (.func 119) #[] #[.pointer (some (ad b))]) H1
namespace syms_named
theorem link {hv : Option Addr} {H : Array Obj} {R : Value → Array Obj → Prop} (h : pt hv H R) : C hv H R := by
 refine T_en K0 4 Tryz.func92 ?_
 intro w0 Q hQ
 unfold pt at h
 refine T_su [(0, vp hv)] <| T_srz 0 <| T_nw (some 1) (fun b => vp (pa b)) (.cells #[vp hv] 30) ?_
 intro b H1 e1 e2
 replace h := h b H1 e1 e2
 refine ⟨[(1, vp (pa b))], pk, ?_⟩
 exact T_ed 1 [] [] <| T_srz 1 <| T_nr 2 [2] [.func (.func 119) #[] #[vp (pa b)]] hQ h
end syms_named

/-! moraine/syms.named.1 -/
namespace syms_named_1
def K0 := Func.code Tryz.f119
def K2 := cb K0
def K3 := ca K2
def K4 := ca K3
end syms_named_1
def syms_named_1.pt (b : Value) (o : Option Addr) (H : Array Obj) (R : Value → Array Obj → Prop) : Prop :=
 ∃ d : Addr, o = some d ∧
 ∃ x : Option Addr, hat H d = some (.pointer x) ∧
 ∃ xA : Addr, x = some xA ∧
 ∃ (xB : Option Addr) (xN xC : Nat), hat H (xA.add 1) = some (.slice xB xN xC) ∧
 ∃ (I5 : Int → Array Obj → Prop) (m5 : Int → Array Obj → Nat), I5 0 H ∧ ∀ (e : Int) (H1 : Array Obj), I5 e H1 →
 if e < (xN : Int) then (
 ∃ f : Addr, xB = some f ∧
 ((0 : Int) ≤ e ∧ e < (xN : Int)) ∧
 ∃ g : Int, hat H1 (f.add (Int.toNat e * 1)) = some (.int .u64 g) ∧
 ∃ m : Option Addr, hat H1 d = some (.pointer m) ∧
 syms_Name.C m g H1 (fun v H2 => ∃ (ra : ByteArray) (rb : Int), v = .tuple #[.string ra, .int .i64 rb] ∧ 
 if rb = 0 then (
 FC Tryz.prog b #[.int .u64 g, .string ra] H2 (fun p H3 => ∃ j : Bool, p = .bool j ∧ 
 if j = true then (
 (I5 (IntKind.wrap .i64 (e + 1)) H3 ∧ m5 (IntKind.wrap .i64 (e + 1)) H3 < m5 e H1))
 else
 R (.tuple #[]) H3))
 else
 (I5 (IntKind.wrap .i64 (e + 1)) H2 ∧ m5 (IntKind.wrap .i64 (e + 1)) H2 < m5 e H1)))
 else
 R (.tuple #[]) H1
namespace syms_named_1
theorem link {b : Value} {o : Option Addr} {H : Array Obj} {R : Value → Array Obj → Prop} (h : pt b o H R) : C b o H R := by
 refine T_en K0 32 Tryz.func119 ?_
 intro w0 Q hQ
 unfold pt at h
 refine T_su [(0, b), (1, vp o)] <| T_srz 0 ?_
 obtain ⟨d, rfl, h⟩ := h
 obtain ⟨x, q1, h⟩ := h
 refine T_ld (some 7) 30 q1 [1] [(1, vp (some d)), (7, vp x)] ?_
 obtain ⟨xA, rfl, h⟩ := h
 refine T_nd 2 [7] [(9, vp (some (xA.add 1)))] ?_
 obtain ⟨xB, xN, xC, q2, h⟩ := h
 refine T_l1 10 43 q2 [9] <| T_ed 2 [] [(11, vi xN), (12, vi 0)] <| T_bz 0 ?_
 obtain ⟨I5, m5, i3, i4⟩ := h
 refine S_loop (x := K4) (σ := Int) (fun s_ => [(0, b), (1, vp (some d)), (10, vs xB xN xC), (11, vi xN), (12, vi s_)]) (fun s_ H => I5 s_ H) (fun s_ H => m5 s_ H) (0 : Int) (by kernel_rfl) i3 sk ?_
 rintro e H1 i5
 have h := i4 e H1 i5
 refine T_su [(0, b), (1, vp (some d)), (10, vs xB xN xC), (11, vi xN), (12, vi e)] <| T_srz 1 <| T_ed 1 [] [(13, .bool (decide (e < (xN : Int))))] <| T_sz ?_
 by_cases c6 : e < (xN : Int)
 ·rw [if_pos c6] at h
  refine T_cTz 13 (decide_eq_true c6) <| T_kt <| T_sz <| T_bz 1 <| T_srz 2 <| T_ud [13] [] ?_
  obtain ⟨f, rfl, h⟩ := h
  obtain ⟨q8, h⟩ := h
  refine T_xd (some 14) 43 35 1 f xN xC .i64 e Tryz.underlying43 q8.1 q8.2 [10] [(10, vs (some f) xN xC), (14, vp (some (f.add (Int.toNat e * 1))))] ?_
  obtain ⟨g, q9, h⟩ := h
  refine T_l1 15 35 q9 [14] <| T_ed 1 [15] [(4, vu g)] <| T_srz 3 ?_
  obtain ⟨m, q10, h⟩ := h
  refine T_l1 17 30 q10 [] <| T_nd 1 [] [(18, vu g)] ?_
  refine T_c (some 19) h ?_; clear h
  rintro v H2 ⟨ra, rb, rfl, h⟩
  refine T_pd [17, 18] [(19, .tuple #[.string ra, vi rb])] <| T_ed 5 [19] [(5, .string ra), (6, vi rb)] <| T_srz 4 <| T_nd 3 [6] [(24, .bool (rb == 0))] ?_
  by_cases c11 : rb = 0
  ·rw [if_pos c11] at h
   refine N_bd 24 (beq_iff_eq.mpr c11) <| T_nd 3 [4, 5] [(25, b), (26, vu g), (27, .string ra)] ?_
   refine N_callv (some 28) b #[vu g, .string ra] (fun _=>by kernel_rfl) h ?_; clear h
   rintro p H3 ⟨j, rfl, h⟩
   refine T_pd [25, 26, 27] [(28, .bool j)] <| T_ed 2 [24, 28] [(30, .bool (!j))] ?_
   by_cases c13 : j = true
   ·rw [if_pos c13] at h
    refine T_cFz 30 (congrArg Bool.not (c13)) <| T_k ?_
    refine S_blockEnd ?_
    refine S_then ?_
    refine T_rz 5 <| T_ed 2 [12, 30] [(12, vi (IntKind.wrap .i64 (e + 1)))] ?_
    exact S_round ((IntKind.wrap .i64 (e + 1)) : Int) sk h
   rw [if_neg c13] at h
   exact T_cTz 30 (congrArg Bool.not (eq_false_of_ne_true c13)) <| T_ret [] [] hQ h
  rw [if_neg c11] at h
  refine N_bd 24 (beq_eq_false_iff_ne.mpr c11) <| T_ed 6 [4, 5, 24] [(30, .bool false)] <| T_fz 30 <| T_k ?_
  refine S_blockEnd ?_
  refine S_then ?_
  refine T_rz 5 <| T_ed 2 [12, 30] [(12, vi (IntKind.wrap .i64 (e + 1)))] ?_
  exact S_round ((IntKind.wrap .i64 (e + 1)) : Int) sk h
 rw [if_neg c6] at h
 refine T_cFz 13 (decide_eq_false c6) ?_
 refine S_exit 0 (by kernel_rfl) ?_
 refine S_exitThen ?_
 refine S_exitThen ?_
 refine S_exitHere ?_
 exact S_doneN (fn := Tryz.f119) [] hQ (show ResOK _ _ _ [] _ from .nil) h
end syms_named_1

/-! (*moraine/seg.Mem).Free -/
namespace seg_Mem_Taken
def K0 := Func.code Tryz.f42
def K2 := cb K0
def K4 := cb K2
def K12 := cb K4
def K13 := ca K12
def K16 := cb K13
def K17 := ca K16
def K18 := ca K17
end seg_Mem_Taken
def seg_Mem_Taken.pt (m f : Option Addr) (d e : Nat) (H : Array Obj) (R : Value → Array Obj → Prop) : Prop :=
 ∀ (b : Nat) (H1 : Array Obj), b = H.size → H1 = H.push (.cells #[.pointer m] 55) →
 ∃ x : Option Addr, hat H1 (ad b) = some (.pointer x) ∧
 onPtr x (
 R (.slice none 0 0) H1) (fun xA =>
 ∃ ae : Option Addr, hat H1 (ad b) = some (.pointer ae) ∧
 ∃ ag : Addr, ae = some ag ∧
 ∃ (xB : Option Addr) (xN xC : Nat), hat H1 ag = some (.slice xB xN xC) ∧
 ∃ (y : (Option Addr) → Nat → Nat → Int → Array Obj → Prop) (m19 : (Option Addr) → Nat → Nat → Int → Array Obj → Nat), y none 0 0 0 H1 ∧ ∀ (lB : Option Addr) (lN : Nat) (lC : Nat) (s15 : Int) (H2 : Array Obj), y lB lN lC s15 H2 →
 if s15 < (xN : Int) then (
 ∃ ah : Option Addr, hat H2 (ad b) = some (.pointer ah) ∧
 ∃ af : Addr, ah = some af ∧
 ∃ (s : Option Addr) (o q : Nat), hat H2 af = some (.slice s o q) ∧
 ∃ g : Addr, s = some g ∧
 ((0 : Int) ≤ s15 ∧ s15 < (o : Int)) ∧
 ∃ r : Int, hat H2 ((g.add (Int.toNat s15 * 72)).add 7) = some (.int .i64 r) ∧
 if r > 0 then (
 if (d : Int) = 0 then (
 ∀ (aa : Nat) (H3 : Array Obj), aa = H2.size → H3 = H2.push (.cells #[.int .i64 s15] 3) →
 appendK 1 3 8 [.int .i64 0] lB lN lC (some (ad aa)) 1 H3 (fun ap z H4 =>
 (y ap (lN + 1) z (IntKind.wrap .i64 (s15 + 1)) H4 ∧ m19 ap (lN + 1) z (IntKind.wrap .i64 (s15 + 1)) H4 < m19 lB lN lC s15 H2)))
 else
 ∃ ac : Int, hat H2 (g.add (Int.toNat s15 * 72)) = some (.int .i64 ac) ∧
 slices_Contains_int_int.C f d e ac H2 (fun v H5 => ∃ u : Bool, v = .bool u ∧ 
 if u = true then (
 ∀ (ab : Nat) (H6 : Array Obj), ab = H5.size → H6 = H5.push (.cells #[.int .i64 s15] 3) →
 appendK 1 3 8 [.int .i64 0] lB lN lC (some (ad ab)) 1 H6 (fun p j H7 =>
 (y p (lN + 1) j (IntKind.wrap .i64 (s15 + 1)) H7 ∧ m19 p (lN + 1) j (IntKind.wrap .i64 (s15 + 1)) H7 < m19 lB lN lC s15 H2)))
 else
 (y lB lN lC (IntKind.wrap .i64 (s15 + 1)) H5 ∧ m19 lB lN lC (IntKind.wrap .i64 (s15 + 1)) H5 < m19 lB lN lC s15 H2)))
 else
 (y lB lN lC (IntKind.wrap .i64 (s15 + 1)) H2 ∧ m19 lB lN lC (IntKind.wrap .i64 (s15 + 1)) H2 < m19 lB lN lC s15 H2))
 else
 slices_SortFunc_int_int.C lB lN lC (.func (.func 75) #[] #[.pointer (some (ad b))]) H2 (fun _ H8 =>
 R (.slice lB lN lC) H8))
namespace seg_Mem_Taken
theorem link {m f : Option Addr} {d e : Nat} {H : Array Obj} {R : Value → Array Obj → Prop} (h : pt m f d e H R) : C m f d e H R := by
 refine T_en K0 52 Tryz.func42 ?_
 intro w0 Q hQ
 unfold pt at h
 refine T_su [(0, vp m), (1, vs f d e)] <| T_srz 0 <| T_nw (some 2) (fun b => vp (pa b)) (.cells #[vp m] 55) ?_
 intro b H1 e1 e2
 replace h := h b H1 e1 e2
 refine T_pd [0] [(2, vp (pa b))] <| T_ed 1 [] [] <| T_sz <| T_srz 1 ?_
 obtain ⟨x, q3, h⟩ := h
 refine T_l1 8 55 q3 [] ?_
 rcases x with _ | xA
 ·rw [onPtr_none] at h
  exact T_ed 1 [8] [(9, .bool true)] <| T_tz 9 <| T_srz 2 <| T_nr 1 [4] [vs none 0 0] hQ h
 rw [onPtr_some] at h
 refine T_ed 1 [8] [(9, .bool false)] <| T_fz 9 <| T_kt <| T_srz 3 <| T_ed 1 [9] [(5, vs none 0 0)] <| T_sz <| T_srz 4 ?_
 obtain ⟨ae, q4, h⟩ := h
 refine T_l1 10 55 q4 [] ?_
 obtain ⟨ag, rfl, h⟩ := h
 refine T_nd 2 [10] [(12, vp (some ag))] ?_
 obtain ⟨xB, xN, xC, q5, h⟩ := h
 refine T_l1 13 95 q5 [12] <| T_ed 2 [13] [(14, vi xN), (15, vi 0)] <| T_bz 0 ?_
 obtain ⟨y, m19, i6, i7⟩ := h
 refine S_loop (x := K18) (σ := (Option Addr) × Nat × Nat × Int) (fun s_ => [(1, vs f d e), (2, vp (pa b)), (5, vs s_.1 s_.2.1 s_.2.2.1), (14, vi xN), (15, vi s_.2.2.2)]) (fun s_ H => y s_.1 s_.2.1 s_.2.2.1 s_.2.2.2 H) (fun s_ H => m19 s_.1 s_.2.1 s_.2.2.1 s_.2.2.2 H) ((none, 0, 0, 0) : (Option Addr) × Nat × Nat × Int) (by kernel_rfl) i6 sk ?_
 rintro ⟨lB, lN, lC, s15⟩ H2 i8
 have h := i7 lB lN lC s15 H2 i8
 refine T_su [(1, vs f d e), (2, vp (pa b)), (5, vs lB lN lC), (14, vi xN), (15, vi s15)] <| T_srz 5 <| T_ed 1 [] [(16, .bool (decide (s15 < (xN : Int))))] <| T_sz ?_
 by_cases c9 : s15 < (xN : Int)
 ·rw [if_pos c9] at h
  refine T_cTz 16 (decide_eq_true c9) <| T_kt <| T_sz <| T_bz 1 <| T_srz 6 <| T_ed 2 [16] [(6, vi s15)] <| T_srz 7 ?_
  obtain ⟨ah, q11, h⟩ := h
  refine T_l1 18 55 q11 [] ?_
  obtain ⟨af, rfl, h⟩ := h
  refine T_nd 2 [18] [(20, vp (some af))] ?_
  obtain ⟨s, o, q, q12, h⟩ := h
  refine T_l1 21 95 q12 [20] <| T_nd 1 [] [(22, vi s15)] ?_
  obtain ⟨g, rfl, h⟩ := h
  obtain ⟨q13, h⟩ := h
  refine T_xd (some 23) 95 141 72 g o q .i64 s15 Tryz.underlying95 q13.1 q13.2 [21, 22] [(23, vp (some (g.add (Int.toNat s15 * 72))))] <| T_ed 1 [23] [(7, vp (some (g.add (Int.toNat s15 * 72))))] <| T_srz 8 <| T_nd 3 [] [(26, vp (some ((g.add (Int.toNat s15 * 72)).add 7)))] ?_
  obtain ⟨r, q14, h⟩ := h
  refine T_l1 27 3 q14 [26] <| T_nd 2 [27] [(29, .bool (decide (r > 0)))] ?_
  by_cases c15 : r > 0
  ·rw [if_pos c15] at h
   refine N_bd 29 (decide_eq_true c15) <| T_nd 4 [] [(33, .bool ((d : Int) == 0))] ?_
   by_cases c17 : (d : Int) = 0
   ·rw [if_pos c17] at h
    refine N_bd 33 (beq_iff_eq.mpr c17) <| T_ed 9 [7, 29, 33] [(42, .bool true)] <| T_tz 42 <| T_rz 9 <| T_nd 2 [5, 6, 42] [(43, vs lB lN lC), (44, vi s15)] <| T_nw (some 45) (fun b => vs (pa b) 1 1) (.cells #[vi s15] 3) ?_
    intro aa H3 e19 e20
    replace h := h aa H3 e19 e20
    refine T_pd [44] [(45, vs (pa aa) 1 1)] ?_
    refine N_op (some 46) (appendN #[88, 88] 88 #[vs lB lN lC, vs (pa aa) 1 1]) _ (fun _=>by kernel_rfl) (ss_append (T := 3) (sz := 1) (bytes := 8) (zero := (vi 0 : Value)) Tryz.underlying88 Tryz.underlying88 rfl (show Tryz.prog.info? 3 = some Tryz.t3 from by kernel_rfl) (by kernel_rfl) (by kernel_rfl) (by decide) (by kernel_rfl) (by first | exact h | (simpa only [Value.cells, List.toList_toArray] using h))) ?_; clear h
    rintro _ H4 ⟨ap, z, rfl, h⟩
    refine T_pd [43, 45] [(46, vs ap (lN + 1) z)] <| T_nd 1 [46] [(5, vs ap (lN + 1) z)] ?_
    refine N_end (by kernel_rfl) ?_
    refine S_blockEnd ?_
    refine S_then ?_
    refine T_rz 10 <| T_ed 2 [15] [(15, vi (IntKind.wrap .i64 (s15 + 1)))] ?_
    exact S_round ((ap, (lN + 1), z, (IntKind.wrap .i64 (s15 + 1))) : (Option Addr) × Nat × Nat × Int) sk h
   rw [if_neg c17] at h
   refine N_bd 33 (beq_eq_false_iff_ne.mpr c17) <| T_nd 5 [7] [(34, vs f d e), (38, vp (some (g.add (Int.toNat s15 * 72))))] ?_
   obtain ⟨ac, q21, h⟩ := h
   refine T_l1 39 3 q21 [38] ?_
   refine T_c (some 40) h ?_; clear h
   rintro v H5 ⟨u, rfl, h⟩
   refine T_pd [34, 39] [(40, .bool u)] <| T_ed 2 [29, 33, 40] [(42, .bool u)] ?_
   by_cases c22 : u = true
   ·rw [if_pos c22] at h
    refine T_cTz 42 c22 <| T_rz 9 <| T_nd 2 [5, 6, 42] [(43, vs lB lN lC), (44, vi s15)] <| T_nw (some 45) (fun b => vs (pa b) 1 1) (.cells #[vi s15] 3) ?_
    intro ab H6 e24 e25
    replace h := h ab H6 e24 e25
    refine T_pd [44] [(45, vs (pa ab) 1 1)] ?_
    refine N_op (some 46) (appendN #[88, 88] 88 #[vs lB lN lC, vs (pa ab) 1 1]) _ (fun _=>by kernel_rfl) (ss_append (T := 3) (sz := 1) (bytes := 8) (zero := (vi 0 : Value)) Tryz.underlying88 Tryz.underlying88 rfl (show Tryz.prog.info? 3 = some Tryz.t3 from by kernel_rfl) (by kernel_rfl) (by kernel_rfl) (by decide) (by kernel_rfl) (by first | exact h | (simpa only [Value.cells, List.toList_toArray] using h))) ?_; clear h
    rintro _ H7 ⟨p, j, rfl, h⟩
    refine T_pd [43, 45] [(46, vs p (lN + 1) j)] <| T_nd 1 [46] [(5, vs p (lN + 1) j)] ?_
    refine N_end (by kernel_rfl) ?_
    refine S_blockEnd ?_
    refine S_then ?_
    refine T_rz 10 <| T_ed 2 [15] [(15, vi (IntKind.wrap .i64 (s15 + 1)))] ?_
    exact S_round ((p, (lN + 1), j, (IntKind.wrap .i64 (s15 + 1))) : (Option Addr) × Nat × Nat × Int) sk h
   rw [if_neg c22] at h
   refine T_cFz 42 (eq_false_of_ne_true c22) <| T_k ?_
   refine S_blockEnd ?_
   refine S_then ?_
   refine T_rz 10 <| T_ed 2 [6, 15, 42] [(15, vi (IntKind.wrap .i64 (s15 + 1)))] ?_
   exact S_round ((lB, lN, lC, (IntKind.wrap .i64 (s15 + 1))) : (Option Addr) × Nat × Nat × Int) sk h
  rw [if_neg c15] at h
  refine N_bd 29 (decide_eq_false c15) <| T_ed 13 [7, 29] [(42, .bool false)] <| T_fz 42 <| T_k ?_
  refine S_blockEnd ?_
  refine S_then ?_
  refine T_rz 10 <| T_ed 2 [6, 15, 42] [(15, vi (IntKind.wrap .i64 (s15 + 1)))] ?_
  exact S_round ((lB, lN, lC, (IntKind.wrap .i64 (s15 + 1))) : (Option Addr) × Nat × Nat × Int) sk h
 rw [if_neg c9] at h
 refine T_cFz 16 (decide_eq_false c9) ?_
 refine S_exit 0 (by kernel_rfl) ?_
 refine S_exitThen ?_
 refine S_exitThen ?_
 refine S_exitHere ?_
 refine S_then ?_
 refine T_srz 11 <| T_n 2 [(5, vs lB lN lC), (48, vs lB lN lC), (49, .func (.func 75) #[] #[vp (pa b)])] ?_
 refine T_c (some 50) h ?_; clear h
 intro v_2 H8 h
 exact T_pd [48, 49] [] <| T_e <| T_srz 12 <| T_nr 2 [4] [vs lB lN lC] hQ h
end seg_Mem_Taken

/-! (*moraine/seg.Mem).Taken.1 -/
namespace seg_Mem_Taken_1
def K0 := Func.code Tryz.f75
def K2 := cb K0
def K3 := ca K2
end seg_Mem_Taken_1
def seg_Mem_Taken_1.pt (a b : Int) (q : Option Addr) (H : Array Obj) (R : Value → Array Obj → Prop) : Prop :=
 ∃ d : Addr, q = some d ∧
 ∃ x : Option Addr, hat H d = some (.pointer x) ∧
 ∃ xA : Addr, x = some xA ∧
 ∃ (xB : Option Addr) (xN xC : Nat), hat H xA = some (.slice xB xN xC) ∧
 ∃ f : Addr, xB = some f ∧
 ((0 : Int) ≤ a ∧ a < (xN : Int)) ∧
 ∃ g : Int, hat H ((f.add (Int.toNat a * 72)).add 7) = some (.int .i64 g) ∧
 ∃ u : Option Addr, hat H d = some (.pointer u) ∧
 ∃ j : Addr, u = some j ∧
 ∃ (s : Option Addr) (m o : Nat), hat H j = some (.slice s m o) ∧
 ∃ e : Addr, s = some e ∧
 ((0 : Int) ≤ b ∧ b < (m : Int)) ∧
 ∃ r : Int, hat H ((e.add (Int.toNat b * 72)).add 7) = some (.int .i64 r) ∧
 cmp_Compare_int.C g r H (fun v H1 => ∃ p : Int, v = .int .i64 p ∧ 
 R (.int .i64 p) H1)
namespace seg_Mem_Taken_1
theorem link {a b : Int} {q : Option Addr} {H : Array Obj} {R : Value → Array Obj → Prop} (h : pt a b q H R) : C a b q H R := by
 refine T_en K0 23 Tryz.func75 ?_
 intro w0 Q hQ
 unfold pt at h
 refine T_su [(0, vi a), (1, vi b), (2, vp q)] <| T_srz 0 <| T_ed 1 [] [] <| T_sz ?_
 obtain ⟨d, rfl, h⟩ := h
 obtain ⟨x, q1, h⟩ := h
 obtain ⟨xA, rfl, h⟩ := h
 obtain ⟨xB, xN, xC, q2, h⟩ := h
 obtain ⟨f, rfl, h⟩ := h
 obtain ⟨q3, h⟩ := h
 obtain ⟨g, q4, h⟩ := h
 obtain ⟨u, q5, h⟩ := h
 obtain ⟨j, rfl, h⟩ := h
 obtain ⟨s, m, o, q6, h⟩ := h
 obtain ⟨e, rfl, h⟩ := h
 obtain ⟨q7, h⟩ := h
 obtain ⟨r, q8, h⟩ := h
 refine S_regionG 1 (Code.ops K3) [(16, d, [vp (some xA)]), (16, xA, [vs (some f) xN xC]), (16, ((f.add (Int.toNat a * 72)).add 7), [vi g]), (16, d, [vp (some j)]), (16, j, [vs (some e) m o]), (16, ((e.add (Int.toNat b * 72)).add 7), [vi r])] 18 (bv 18 0) (by kernel_rfl) (by kernel_rfl) (by kernel_rfl) (by kernel_rfl) (by kernel_rfl) (show FactsAt _ _ _ from ⟨⟨q1, trivial⟩, ⟨q2, trivial⟩, ⟨q4, trivial⟩, ⟨q5, trivial⟩, ⟨q6, trivial⟩, ⟨q8, trivial⟩, trivial⟩) ?_
 refine T_g 0 (some 6) (vp (some xA)) (bv 18 1) [(0, vi a), (1, vi b), (2, vp (some d)), (6, vp (some xA))] (loadN 55 (vp (some d))) (held_one 16 (fun _=>by kernel_rfl) (List.Mem.head _) (.inl (by kernel_rfl))) <| T_gp1 1 7 (vp (some xA)) (bv 18 3) [6] <| T_gp1 2 8 (vp (some xA)) (bv 18 7) [7] <| T_g1 3 9 (vs (some f) xN xC) (bv 18 15) [8] (loadN 95 (vp (some xA))) (held_one 16 (fun _=>by kernel_rfl) (List.Mem.tail _ (List.Mem.head _)) (.inl (by kernel_rfl))) <| T_gp1 4 10 (vi a) (bv 18 31) [0] <| T_g1 5 11 (vp (some (f.add (Int.toNat a * 72)))) (bv 18 63) [9, 10] (indexAtN 95 (vs (some f) xN xC) (vi a)) (fun _ w _ _ _ => indexAt_run (P := Tryz.prog) (t := 95) (elem := 141) (sz := 72) (a := f) (len := xN) (cap := xC) (k := .i64) (i := a) Tryz.underlying95 (fun _=>by kernel_rfl) q3.1 q3.2 w) <| T_gp1 6 12 (vp (some ((f.add (Int.toNat a * 72)).add 7))) (bv 18 127) [11] <| T_g1 7 13 (vi g) (bv 18 255) [12] (loadN 3 (vp (some ((f.add (Int.toNat a * 72)).add 7)))) (held_one 16 (fun _=>by kernel_rfl) (List.Mem.tail _ (List.Mem.tail _ (List.Mem.head _))) (.inl (by kernel_rfl))) <| T_g1 8 14 (vp (some j)) (bv 18 511) [2] (loadN 55 (vp (some d))) (held_one 16 (fun _=>by kernel_rfl) (List.Mem.tail _ (List.Mem.tail _ (List.Mem.tail _ (List.Mem.head _)))) (.inl (by kernel_rfl))) ?_
 refine T_gp1 9 15 (vp (some j)) (bv 18 1023) [14] <| T_gp1 10 16 (vp (some j)) (bv 18 2047) [15] <| T_g1 11 17 (vs (some e) m o) (bv 18 4095) [16] (loadN 95 (vp (some j))) (held_one 16 (fun _=>by kernel_rfl) (List.Mem.tail _ (List.Mem.tail _ (List.Mem.tail _ (List.Mem.tail _ (List.Mem.head _))))) (.inl (by kernel_rfl))) <| T_gp1 12 18 (vi b) (bv 18 8191) [1] <| T_g1 13 19 (vp (some (e.add (Int.toNat b * 72)))) (bv 18 16383) [17, 18] (indexAtN 95 (vs (some e) m o) (vi b)) (fun _ w _ _ _ => indexAt_run (P := Tryz.prog) (t := 95) (elem := 141) (sz := 72) (a := e) (len := m) (cap := o) (k := .i64) (i := b) Tryz.underlying95 (fun _=>by kernel_rfl) q7.1 q7.2 w) <| T_gp1 14 20 (vp (some ((e.add (Int.toNat b * 72)).add 7))) (bv 18 32767) [19] <| T_g1 15 21 (vi r) (bv 18 65535) [20] (loadN 3 (vp (some ((e.add (Int.toNat b * 72)).add 7)))) (held_one 16 (fun _=>by kernel_rfl) (List.Mem.tail _ (List.Mem.tail _ (List.Mem.tail _ (List.Mem.tail _ (List.Mem.tail _ (List.Mem.head _)))))) (.inl (by kernel_rfl))) ?_
 refine G_call 16 (some 22) (bv 18 131071) 76 #[vi g, vi r] (by kernel_rfl) (fun _=>by kernel_rfl) h (by kernel_rfl) ?_; clear h
 rintro v H1 ⟨p, rfl, h⟩
 refine ⟨[(22, vi p)], pk, (show FactsAt _ _ _ from ⟨trivial, trivial, trivial, trivial, trivial, trivial, trivial⟩), ?_⟩
 refine T_g 17 (some 5) (vi p) (bv 18 262143) [(5, vi p)] (pure (.value (vi p)) : Sem Next) (fun _ _ _ _ _ => rfl) ?_
 refine G_sub [(5, vi p)] sk ?_
 refine G_end (by kernel_rfl) ?_
 refine S_then ?_
 exact T_ret [5] [vi p] hQ h
end seg_Mem_Taken_1

/-! (*moraine/space.Space).Words -/
namespace space_Space_Words
def K0 := Func.code Tryz.f18
def K2 := cb K0
def K4 := cb K2
def K12 := cb K4
def K13 := ca K12
def K16 := cb K13
def K17 := ca K16
def K18 := ca K17
end space_Space_Words
def space_Space_Words.pt (s p : Option Addr) (o m : Nat) (H : Array Obj) (R : Value → Array Obj → Prop) : Prop :=
 space_Space_none.C s H (fun v H1 => ∃ x : Bool, v = .bool x ∧ 
 if x = true then (
 R (.int .i64 0) H1)
 else
 ∃ sA : Addr, s = some sA ∧
 ∃ ab : Option Addr, hat H1 sA = some (.pointer ab) ∧
 seg_Mem_Taken.C ab p o m H1 (fun af H2 => ∃ (xB : Option Addr) (xN xC : Nat), af = .slice xB xN xC ∧ 
 ∃ (ae : Int → Int → Array Obj → Prop) (m19 : Int → Int → Array Obj → Nat), ae 0 0 H2 ∧ ∀ (d : Int) (s19 : Int) (H3 : Array Obj), ae d s19 H3 →
 if s19 < (xN : Int) then (
 ∃ q : Addr, xB = some q ∧
 ((0 : Int) ≤ s19 ∧ s19 < (xN : Int)) ∧
 ∃ y : Int, hat H3 (q.add (Int.toNat s19 * 1)) = some (.int .i64 y) ∧
 ∃ ac : Option Addr, hat H3 sA = some (.pointer ac) ∧
 seg_Mem_Seg.C ac y H3 (fun ag H4 => ∃ (u r aa e j f g : Int) (rb : Bool), ag = .tuple #[.agg #[.int .i64 u, .int .i64 r, .int .i64 aa, .int .i64 e, .int .i64 j, .int .i64 f, .int .i64 g], .bool rb] ∧ 
 ∀ (b : Nat) (H5 : Array Obj), b = H4.size → H5 = H4.push (.cells #[.int .i64 0, .int .i64 0, .int .i64 0, .int .i64 0, .int .i64 0, .int .i64 0, .int .i64 0] 103) →
 (CanPuts H5 (ad b) 0 7) ∧ ∀ H6, H6 = hputs H5 (ad b) [.int .i64 u, .int .i64 r, .int .i64 aa, .int .i64 e, .int .i64 j, .int .i64 f, .int .i64 g] 0 →
 ∃ z : Int, hat H6 ((ad b).add 2) = some (.int .i64 z) ∧
 (ae (IntKind.wrap .i64 (d + z)) (IntKind.wrap .i64 (s19 + 1)) H6 ∧ m19 (IntKind.wrap .i64 (d + z)) (IntKind.wrap .i64 (s19 + 1)) H6 < m19 d s19 H3)))
 else
 R (.int .i64 d) H3))
namespace space_Space_Words
set_option maxRecDepth 100000 in
theorem link {s p : Option Addr} {o m : Nat} {H : Array Obj} {R : Value → Array Obj → Prop} (h : pt s p o m H R) : C s p o m H R := by
 refine T_en K0 38 Tryz.func18 ?_
 intro w0 Q hQ
 unfold pt at h
 refine T_su [(0, vp s), (1, vs p o m)] <| T_srz 0 <| T_ed 1 [] [] <| T_sz <| T_srz 1 <| T_nd 1 [] [(10, vp s)] ?_
 refine T_c (some 11) h ?_; clear h
 rintro v H1 ⟨x, rfl, h⟩
 refine T_pd [10] [(11, .bool x)] <| T_e ?_
 by_cases c1 : x = true
 ·rw [if_pos c1] at h
  exact T_cTz 11 c1 <| T_srz 2 <| T_nr 1 [4] [vi 0] hQ h
 rw [if_neg c1] at h
 refine T_cFz 11 (eq_false_of_ne_true c1) <| T_kt <| T_srz 3 <| T_ed 1 [11] [(5, vi 0)] <| T_sz <| T_srz 4 <| T_nd 1 [] [(12, vp s)] ?_
 obtain ⟨sA, rfl, h⟩ := h
 refine T_nd 2 [0, 12] [(0, vp (some sA)), (14, vp (some sA))] ?_
 obtain ⟨ab, q3, h⟩ := h
 refine T_l1 15 55 q3 [14] <| T_nd 1 [1] [(16, vs p o m)] ?_
 refine T_c (some 17) h ?_; clear h
 rintro af H2 ⟨xB, xN, xC, rfl, h⟩
 refine T_pd [15, 16] [(17, vs xB xN xC)] <| T_ed 2 [] [(18, vi xN), (19, vi 0)] <| T_bz 0 ?_
 obtain ⟨ae, m19, i4, i5⟩ := h
 refine S_loop (x := K18) (σ := Int × Int) (fun s_ => [(0, vp (some sA)), (5, vi s_.1), (17, vs xB xN xC), (18, vi xN), (19, vi s_.2)]) (fun s_ H => ae s_.1 s_.2 H) (fun s_ H => m19 s_.1 s_.2 H) ((0, 0) : Int × Int) (by kernel_rfl) i4 sk ?_
 rintro ⟨d, s19⟩ H3 i6
 have h := i5 d s19 H3 i6
 refine T_su [(0, vp (some sA)), (5, vi d), (17, vs xB xN xC), (18, vi xN), (19, vi s19)] <| T_srz 5 <| T_ed 1 [] [(20, .bool (decide (s19 < (xN : Int))))] <| T_sz ?_
 by_cases c7 : s19 < (xN : Int)
 ·rw [if_pos c7] at h
  refine T_cTz 20 (decide_eq_true c7) <| T_kt <| T_sz <| T_bz 1 <| T_srz 6 <| T_ud [20] [] ?_
  obtain ⟨q, rfl, h⟩ := h
  obtain ⟨q9, h⟩ := h
  refine T_xd (some 21) 88 3 1 q xN xC .i64 s19 Tryz.underlying88 q9.1 q9.2 [17] [(17, vs (some q) xN xC), (21, vp (some (q.add (Int.toNat s19 * 1))))] ?_
  obtain ⟨y, q10, h⟩ := h
  refine T_l1 22 3 q10 [21] <| T_ed 1 [22] [(7, vi y)] <| T_srz 7 <| T_nd 3 [] [(26, vp (some sA))] ?_
  obtain ⟨ac, q11, h⟩ := h
  refine T_l1 27 55 q11 [26] <| T_nd 1 [7] [(28, vi y)] ?_
  refine T_c (some 29) h ?_; clear h
  rintro ag H4 ⟨u, r, aa, e, j, f, g, rb, rfl, h⟩
  refine T_pd [27, 28] [(29, .tuple #[.agg #[vi u, vi r, vi aa, vi e, vi j, vi f, vi g], .bool rb])] <| T_nd 3 [29] [(30, .agg #[vi u, vi r, vi aa, vi e, vi j, vi f, vi g]), (31, .bool rb)] <| T_nw (some 8) (fun b => vp (pa b)) (.cells #[vi 0, vi 0, vi 0, vi 0, vi 0, vi 0, vi 0] 103) ?_
  intro b H5 e12 e13
  replace h := h b H5 e12 e13
  refine T_pd [] [(8, vp (pa b))] ?_
  obtain ⟨q15, h⟩ := h
  refine T_sta 103 [vi u, vi r, vi aa, vi e, vi j, vi f, vi g] q15 ?_
  intro H6 e14
  replace h := h H6 e14
  refine T_pd [30] [] <| T_ed 1 [31] [] <| T_rz 8 <| T_nd 2 [5, 8] [(32, vi d), (33, vp (some ((ad b).add 2)))] ?_
  obtain ⟨z, q16, h⟩ := h
  refine T_l1 34 3 q16 [33] <| T_nd 2 [32, 34] [(5, vi (IntKind.wrap .i64 (d + z)))] ?_
  refine N_end (by kernel_rfl) ?_
  refine S_blockEnd ?_
  refine S_then ?_
  refine T_rz 9 <| T_ed 2 [19] [(19, vi (IntKind.wrap .i64 (s19 + 1)))] ?_
  exact S_round (((IntKind.wrap .i64 (d + z)), (IntKind.wrap .i64 (s19 + 1))) : Int × Int) sk h
 rw [if_neg c7] at h
 refine T_cFz 20 (decide_eq_false c7) ?_
 refine S_exit 0 (by kernel_rfl) ?_
 refine S_exitThen ?_
 refine S_exitThen ?_
 refine S_exitHere ?_
 refine S_then ?_
 exact T_srz 10 <| T_nr 2 [4] [vi d] hQ h
end space_Space_Words

/-! cmp.Compare[int] -/
namespace cmp_Compare_int
def K0 := Func.code Tryz.f76
end cmp_Compare_int
def cmp_Compare_int.pt (x y : Int) (H : Array Obj) (R : Value → Array Obj → Prop) : Prop :=
 cmp_isNaN_int.C x H (fun v H1 => ∃ b : Bool, v = .bool b ∧ 
 cmp_isNaN_int.C y H1 (fun d H2 => ∃ a : Bool, d = .bool a ∧ 
 if b = true then (
 if a = true then (
 R (.int .i64 0) H2)
 else
 R (.int .i64 (-1)) H2)
 else
 if a = true then (
 R (.int .i64 1) H2)
 else
 if x < y then (
 R (.int .i64 (-1)) H2)
 else
 if x > y then (
 R (.int .i64 1) H2)
 else
 R (.int .i64 0) H2))
namespace cmp_Compare_int
theorem link {x y : Int} {H : Array Obj} {R : Value → Array Obj → Prop} (h : pt x y H R) : C x y H R := by
 refine T_en K0 20 Tryz.func76 ?_
 intro w0 Q hQ
 unfold pt at h
 refine T_su [(0, vi x), (1, vi y)] <| T_srz 0 <| T_ed 1 [] [] <| T_srz 1 <| T_nd 1 [] [(7, vi x)] ?_
 refine T_c (some 8) h ?_; clear h
 rintro v H1 ⟨b, rfl, h⟩
 refine T_pd [7] [(8, .bool b)] <| T_ed 1 [8] [(5, .bool b)] <| T_srz 2 <| T_nd 1 [] [(9, vi y)] ?_
 refine T_c (some 10) h ?_; clear h
 rintro d H2 ⟨a, rfl, h⟩
 refine T_pd [9] [(10, .bool a)] <| T_ed 1 [10] [(6, .bool a)] <| T_sz <| T_srz 3 <| T_ed 1 [5] [(11, .bool b)] ?_
 by_cases c1 : b = true
 ·rw [if_pos c1] at h
  refine T_cTz 11 c1 <| T_sz <| T_srz 4 <| T_ne 1 [(12, .bool a)] ?_
  by_cases c3 : a = true
  ·rw [if_pos c3] at h
   exact T_cTz 12 c3 <| T_srz 5 <| T_nr 1 [4] [vi 0] hQ h
  rw [if_neg c3] at h
  exact T_cFz 12 (eq_false_of_ne_true c3) <| T_kt <| T_srz 6 <| T_nr 1 [4] [vi (-1)] hQ h
 rw [if_neg c1] at h
 refine T_cFz 11 (eq_false_of_ne_true c1) <| T_kt <| T_sz <| T_srz 7 <| T_ed 1 [6, 11] [(13, .bool a)] ?_
 by_cases c5 : a = true
 ·rw [if_pos c5] at h
  exact T_cTz 13 c5 <| T_srz 8 <| T_nr 1 [4] [vi 1] hQ h
 rw [if_neg c5] at h
 refine T_cFz 13 (eq_false_of_ne_true c5) <| T_kt <| T_sz <| T_srz 9 <| T_ed 3 [13] [(16, .bool (decide (x < y)))] ?_
 by_cases c7 : x < y
 ·rw [if_pos c7] at h
  exact T_cTz 16 (decide_eq_true c7) <| T_srz 10 <| T_nr 1 [4] [vi (-1)] hQ h
 rw [if_neg c7] at h
 refine T_cFz 16 (decide_eq_false c7) <| T_kt <| T_sz <| T_srz 11 <| T_ne 3 [(19, .bool (decide (x > y)))] ?_
 by_cases c9 : x > y
 ·rw [if_pos c9] at h
  exact T_cTz 19 (decide_eq_true c9) <| T_srz 12 <| T_nr 1 [4] [vi 1] hQ h
 rw [if_neg c9] at h
 exact T_cFz 19 (decide_eq_false c9) <| T_kt <| T_srz 13 <| T_nr 1 [4] [vi 0] hQ h
end cmp_Compare_int

/-! cmp.isNaN[int] -/
namespace cmp_isNaN_int
def K0 := Func.code Tryz.f113
end cmp_isNaN_int
def cmp_isNaN_int.pt (x : Int) (H : Array Obj) (R : Value → Array Obj → Prop) : Prop :=
 R (.bool (x != x)) H
namespace cmp_isNaN_int
theorem link {x : Int} {H : Array Obj} {R : Value → Array Obj → Prop} (h : pt x H R) : C x H R := by
 refine T_en K0 6 Tryz.func113 ?_
 intro w0 Q hQ
 unfold pt at h
 exact T_su [(0, vi x)] <| T_srz 0 <| T_ed 1 [] [] <| T_srz 1 <| T_nr 4 [2] [.bool (x != x)] hQ h
end cmp_isNaN_int

/-! moraine/morainelaw17.awake -/
namespace morainelaw17_awake
def K0 := Func.code Tryz.f8
end morainelaw17_awake
def morainelaw17_awake.pt  (H : Array Obj) (R : Value → Array Obj → Prop) : Prop :=
 obj_New.C 16 H (fun v H1 => ∃ (ra : Option Addr) (rb : Int), v = .tuple #[.pointer ra, .int .i64 rb] ∧ 
 if rb = 0 then (
 ∀ (b : Nat) (H2 : Array Obj), b = H1.size → H2 = H1.push (.cells #[.int .i64 1, .int .i32 0, .bool false, .slice none 0 0, .string (ByteArray.mk #[]), .slice none 0 0, .int .i64 6, .int .i32 0, .bool false, .slice none 0 0, .string (ByteArray.mk #[97]), .slice none 0 0] 27) →
 moraineref03_List.C (some (ad b)) 2 2 H2 (fun bh H3 => ∃ (ao xC : Int) (an : Bool) (ah : Option Addr) (ag ai : Nat) (xT : ByteArray) (be : Option Addr) (bc bd : Nat), bh = .agg (DR ao xC an ah ag ai xT be bc bd).toArray ∧ 
 ∀ (e : Nat) (H4 : Array Obj), e = H3.size → H4 = H3.push (.cells (DR 0 0 false none 0 0 (ByteArray.mk #[]) none 0 0).toArray 27) →
 (CanPuts H4 (ad e) 0 6) ∧ ∀ H5, H5 = hputs H4 (ad e) (DR ao xC an ah ag ai xT be bc bd) 0 →
 ∃ ak bb am z aa af a9 a1 a2 az, RowAt H5 (ad e) 0 (DR ak bb am z aa af a9 a1 a2 az) ∧
 build_Heap.C ra ak bb am z aa af a9 a1 a2 az H5 (fun bl H6 => ∃ m g : Int, bl = .tuple #[.int .u64 m, .int .i64 g] ∧ 
 build_Datum.C ra m H6 (fun bi H7 => ∃ (s a6 : Int) (t : Bool) (k : Option Addr) (i j : Nat) (a7 : ByteArray) (aq : Option Addr) (av au : Nat) (f : Int), bi = .tuple #[.agg (DR s a6 t k i j a7 aq av au).toArray, .int .i64 f] ∧ 
 ∀ (o : Nat) (H8 : Array Obj), o = H7.size → H8 = H7.push (.cells (DR 0 0 false none 0 0 (ByteArray.mk #[]) none 0 0).toArray 27) →
 (CanPuts H8 (ad o) 0 6) ∧ ∀ H9, H9 = hputs H8 (ad o) (DR s a6 t k i j a7 aq av au) 0 →
 obj_Heap_Car.C ra m H9 (fun bj bf => ∃ a d : Int, bj = .tuple #[.int .u64 a, .int .i64 d] ∧ 
 if g = 0 then (
 if f = 0 then (
 ∃ u a4 ae p r q a5 aw ax ap, RowAt bf (ad o) 0 (DR u a4 ae p r q a5 aw ax ap) ∧
 ∃ aj a8 al ab y ac ba a3 a0 ay, RowAt bf (ad e) 0 (DR aj a8 al ab y ac ba a3 a0 ay) ∧
 moraineref03_Same.C u a4 ae p r q a5 aw ax ap aj a8 al ab y ac ba a3 a0 ay bf (fun bg bk => ∃ x : Bool, bg = .bool x ∧ 
 R (.bool ((x && (d == 0)) && (a == 12))) bk))
 else
 R (.bool false) bf)
 else
 R (.bool false) bf)))))
 else
 R (.bool false) H1)
namespace morainelaw17_awake
set_option maxRecDepth 100000 in
theorem link  {H : Array Obj} {R : Value → Array Obj → Prop} (h : pt  H R) : C  H R := by
 refine T_en K0 57 Tryz.func8 ?_
 intro w0 Q hQ
 unfold pt at h
 refine T_su [] <| T_srz 0 <| T_ne 1 [] <| T_srz 1 ?_
 refine T_c (some 11) h ?_; clear h
 rintro v H1 ⟨ra, rb, rfl, h⟩
 refine ⟨[(11, .tuple #[vp ra, vi rb])], pk, ?_⟩
 refine T_ne 5 [(1, vp ra), (2, vi rb)] <| T_sz <| T_srz 2 <| T_ed 2 [2] [(15, .bool (rb != 0))] ?_
 by_cases c1 : rb = 0
 ·rw [if_pos c1] at h
  refine T_cFz 15 (bne_eq_false_iff_eq.mpr c1) <| T_kt <| T_srz 4 <| T_nd 2 [15] [(16, .agg (DR 1 0 false none 0 0 (ByteArray.mk #[]) none 0 0).toArray), (17, .agg (DR 6 0 false none 0 0 (ByteArray.mk #[97]) none 0 0).toArray)] <| T_nw (some 18) (fun b => vs (pa b) 2 2) (.cells #[vi 1, .int .i32 0, .bool false, vs none 0 0, .string (ByteArray.mk #[]), vs none 0 0, vi 6, .int .i32 0, .bool false, vs none 0 0, .string (ByteArray.mk #[97]), vs none 0 0] 27) ?_
  intro b H2 e3 e4
  replace h := h b H2 e3 e4
  refine T_pd [16, 17] [(18, vs (pa b) 2 2)] ?_
  refine T_c (some 19) h ?_; clear h
  rintro bh H3 ⟨ao, xC, an, ah, ag, ai, xT, be, bc, bd, rfl, h⟩
  refine T_pd [18] [(19, .agg (DR ao xC an ah ag ai xT be bc bd).toArray)] <| T_nw (some 3) (fun b => vp (pa b)) (.cells (DR 0 0 false none 0 0 (ByteArray.mk #[]) none 0 0).toArray 27) ?_
  intro e H4 e5 e6
  replace h := h e H4 e5 e6
  refine T_pd [] [(3, vp (pa e))] ?_
  obtain ⟨q8, h⟩ := h
  refine T_sta 27 (DR ao xC an ah ag ai xT be bc bd) q8 ?_
  intro H5 e7
  replace h := h H5 e7
  refine T_pd [19] [] <| T_e <| T_srz 5 <| T_nd 1 [] [(21, vp ra)] ?_
  obtain ⟨ak, bb, am, z, aa, af, a9, a1, a2, az, q9, h⟩ := h
  refine T_lr 22 27 q9 [] ?_
  refine T_c (some 23) h ?_; clear h
  rintro bl H6 ⟨m, g, rfl, h⟩
  refine T_pd [21, 22] [(23, .tuple #[vu m, vi g])] <| T_ed 5 [23] [(4, vu m), (5, vi g)] <| T_srz 6 <| T_nd 2 [] [(27, vp ra), (28, vu m)] ?_
  refine T_c (some 29) h ?_; clear h
  rintro bi H7 ⟨s, a6, t, k, i, j, a7, aq, av, au, f, rfl, h⟩
  refine T_pd [27, 28] [(29, .tuple #[.agg (DR s a6 t k i j a7 aq av au).toArray, vi f])] <| T_nd 3 [29] [(30, .agg (DR s a6 t k i j a7 aq av au).toArray), (31, vi f)] <| T_nw (some 6) (fun b => vp (pa b)) (.cells (DR 0 0 false none 0 0 (ByteArray.mk #[]) none 0 0).toArray 27) ?_
  intro o H8 e10 e11
  replace h := h o H8 e10 e11
  refine T_pd [] [(6, vp (pa o))] ?_
  obtain ⟨q13, h⟩ := h
  refine T_sta 27 (DR s a6 t k i j a7 aq av au) q13 ?_
  intro H9 e12
  replace h := h H9 e12
  refine T_pd [30] [] <| T_ed 1 [31] [(7, vi f)] <| T_srz 7 <| T_nd 2 [1, 4] [(33, vp ra), (34, vu m)] ?_
  refine T_c (some 35) h ?_; clear h
  rintro bj bf ⟨a, d, rfl, h⟩
  refine T_pd [33, 34] [(35, .tuple #[vu a, vi d])] <| T_ed 5 [35] [(8, vu a), (9, vi d)] <| T_srz 8 <| T_nd 3 [5] [(40, .bool (g == 0))] ?_
  by_cases c14 : g = 0
  ·rw [if_pos c14] at h
   refine N_bd 40 (beq_iff_eq.mpr c14) <| T_nd 4 [7, 40] [(44, .bool (f == 0))] ?_
   by_cases c16 : f = 0
   ·rw [if_pos c16] at h
    refine N_bd 44 (beq_iff_eq.mpr c16) ?_
    obtain ⟨u, a4, ae, p, r, q, a5, aw, ax, ap, q18, h⟩ := h
    refine T_lr 45 27 q18 [6] ?_
    obtain ⟨aj, a8, al, ab, y, ac, ba, a3, a0, ay, q19, h⟩ := h
    refine T_lr 46 27 q19 [3] ?_
    refine T_c (some 47) h ?_; clear h
    rintro bg bk ⟨x, rfl, h⟩
    refine T_pd [45, 46] [(47, .bool x)] <| T_nd 2 [44, 47] [(49, .bool x)] ?_
    refine N_cut [(0, .bool ((x && (d == 0)) && (a == 12)))] ?_ ?_
    ·refine S_then ?_
     exact T_ret [0] [.bool ((x && (d == 0)) && (a == 12))] hQ h
    intro hk
    refine T_nu [(8, vu a), (9, vi d), (49, .bool x)] ?_
    by_cases c20 : x = true
    ·have b21 : x = true := c20
     refine N_env [(8, vu a), (9, vi d), (49, .bool true)] (by rw [b21]) ?_
     refine T_nd 4 [9, 49] [(53, .bool (d == 0))] ?_
     by_cases c22 : d = 0
     ·have b23 : (d == 0) = true := beq_iff_eq.mpr c22
      refine N_bd 53 b23 <| T_n 4 [(0, .bool (a == 12))] ?_
      refine N_end (by kernel_rfl) ?_
      refine S_env [(0, .bool ((x && (d == 0)) && (a == 12)))] (by simp only [b21, b23, BL]) ?_
      exact hk
     have b23 : (d == 0) = false := beq_eq_false_iff_ne.mpr c22
     refine N_bd 53 b23 <| T_n 4 [(0, .bool false)] ?_
     refine N_end (by kernel_rfl) ?_
     refine S_env [(0, .bool ((x && (d == 0)) && (a == 12)))] (by simp only [b21, b23, BL]) ?_
     exact hk
    have b21 : x = false := eq_false_of_ne_true c20
    refine N_env [(8, vu a), (9, vi d), (49, .bool false)] (by rw [b21]) ?_
    refine T_n 8 [(0, .bool false)] ?_
    refine N_end (by kernel_rfl) ?_
    refine S_env [(0, .bool ((x && (d == 0)) && (a == 12)))] (by simp only [b21, BL]) ?_
    exact hk
   rw [if_neg c16] at h
   exact N_bd 44 (beq_eq_false_iff_ne.mpr c16) <| T_nr 13 [0] [.bool false] hQ h
  rw [if_neg c14] at h
  exact N_bd 40 (beq_eq_false_iff_ne.mpr c14) <| T_nr 17 [0] [.bool false] hQ h
 rw [if_neg c1] at h
 exact T_cTz 15 (bne_iff_ne.mpr c1) <| T_srz 3 <| T_nr 1 [0] [.bool false] hQ h
end morainelaw17_awake

/-! moraine/morainelaw17.size -/
namespace morainelaw17_size
def K0 := Func.code Tryz.f17
def K2 := cb K0
def K3 := ca K2
def K4 := cb K2
def K6 := cb K3
def K7 := ca K6
def K9 := cb K7
def K11 := cb K9
def K17 := cb K11
def K18 := ca K17
def K20 := ca K18
def K23 := cb K20
def K24 := ca K23
def K25 := ca K24
def K62 := cb K4
def K64 := cb K62
def K70 := cb K64
def K75 := ca K70
def K78 := cb K75
def K79 := ca K78
def K80 := ca K79
end morainelaw17_size
def morainelaw17_size.pt (aj dC : Int) (ak : Bool) (y : Option Addr) (z u : Nat) (dT : ByteArray) (bd : Option Addr) (be bc : Nat) (f : Option Addr) (d e : Nat) (H : Array Obj) (R : Value → Array Obj → Prop) : Prop :=
 ∀ (b : Nat) (H1 : Array Obj), b = H.size → H1 = H.push (.cells (DR aj dC ak y z u dT bd be bc).toArray 27) →
 ∃ x : Int, hat H1 (ad b) = some (.int .i64 x) ∧
 if x = 5 then (
 ∃ a9 : ByteArray, hat H1 ((ad b).add 4) = some (.string a9) ∧
 moraineref03_Runes.C a9 H1 (fun v H2 => ∃ (bp : Option Addr) (a5 bq : Nat) (rb : Bool), v = .tuple #[.slice bp a5 bq, .bool rb] ∧ 
 R (.tuple #[.int .i64 (IntKind.wrap .i64 (1 + (a5 : Int))), .slice f d e]) H2))
 else
 if x = 6 then (
 ∃ (bn : Int → Array Obj → Prop) (m26 : Int → Array Obj → Nat), bn 0 H1 ∧ ∀ (i : Int) (H3 : Array Obj), bn i H3 →
 if i < (d : Int) then (
 ∃ m : Addr, f = some m ∧
 ((0 : Int) ≤ i ∧ i < (d : Int)) ∧
 ∃ s : ByteArray, hat H3 (m.add (Int.toNat i * 1)) = some (.string s) ∧
 ∃ ai : ByteArray, hat H3 ((ad b).add 4) = some (.string ai) ∧
 if s.toList = ai.toList then (
 R (.tuple #[.int .i64 0, .slice (some m) d e]) H3)
 else
 (bn (IntKind.wrap .i64 (i + 1)) H3 ∧ m26 (IntKind.wrap .i64 (i + 1)) H3 < m26 i H3))
 else
 ∃ bb : ByteArray, hat H3 ((ad b).add 4) = some (.string bb) ∧
 moraineref03_Runes.C bb H3 (fun bs H4 => ∃ (a3 : Option Addr) (o a2 : Nat) (bo : Bool), bs = .tuple #[.slice a3 o a2, .bool bo] ∧ 
 ∃ ba : ByteArray, hat H4 ((ad b).add 4) = some (.string ba) ∧
 ∀ (a8 : Nat) (H5 : Array Obj), a8 = H4.size → H5 = H4.push (.cells #[.string ba] 9) →
 appendK 1 9 16 [.string (ByteArray.mk #[])] f d e (some (ad a8)) 1 H5 (fun ap bl H6 =>
 R (.tuple #[.int .i64 (IntKind.wrap .i64 (3 + (o : Int))), .slice ap (d + 1) bl]) H6)))
 else
 if x = 4 then (
 ∃ (xB : Option Addr) (xN xC : Nat), hat H1 (((ad b).add 2).add 1) = some (.slice xB xN xC) ∧
 ∃ J : Bool → Array Obj → Prop, (
 if (xN : Int) < 2 then (
 J true H1)
 else
 if (xN : Int) = 2 then (
 ∃ j : Addr, xB = some j ∧
 ((0 : Int) ≤ 1 ∧ 1 < (xN : Int)) ∧
 ∃ aw : Int, hat H1 (j.add (Int.toNat 1 * 1)) = some (.int .u32 aw) ∧
 if aw < 268435456 then (
 J true H1)
 else
 ∃ ax : Bool, hat H1 ((ad b).add 2) = some (.bool ax) ∧
 if ax = true then (
 ((0 : Int) ≤ 1 ∧ 1 < (xN : Int)) ∧
 ∃ au : Int, hat H1 (j.add (Int.toNat 1 * 1)) = some (.int .u32 au) ∧
 if au = 268435456 then (
 ((0 : Int) ≤ 0 ∧ 0 < (xN : Int)) ∧
 ∃ aq : Int, hat H1 (j.add (Int.toNat 0 * 1)) = some (.int .u32 aq) ∧
 J (aq == 0) H1)
 else
 J false H1)
 else
 J false H1)
 else
 J false H1) ∧ ∀ (a1 : Bool) (H7 : Array Obj), J a1 H7 →
 if a1 = true then (
 R (.tuple #[.int .i64 0, .slice f d e]) H7)
 else
 R (.tuple #[.int .i64 (IntKind.wrap .i64 (1 + (xN : Int))), .slice f d e]) H7)
 else
 ∃ ac : Int, hat H1 (ad b) = some (.int .i64 ac) ∧
 ∃ bk : Int → Array Obj → Prop, (
 if ac = 7 then (
 bk 2 H1)
 else
 bk 0 H1) ∧ ∀ (nv : Int) (H8 : Array Obj), bk nv H8 →
 ∃ ab : Int, hat H8 (ad b) = some (.int .i64 ab) ∧
 ∃ bm : Int → Array Obj → Prop, (
 if ab = 8 then (
 ∃ (bf : Option Addr) (al bg : Nat), hat H8 ((ad b).add 5) = some (.slice bf al bg) ∧
 bm (IntKind.wrap .i64 (1 + (al : Int))) H8)
 else
 bm nv H8) ∧ ∀ (an : Int) (H9 : Array Obj), bm an H9 →
 ∃ (bj : (Option Addr) → Nat → Nat → Int → Int → Array Obj → Prop) (m81 : (Option Addr) → Nat → Nat → Int → Int → Array Obj → Nat), bj f d e an 0 H9 ∧ ∀ (g : Option Addr) (symsN_2 : Nat) (symsC_2 : Nat) (nv_3 : Int) (i_2 : Int) (H10 : Array Obj), bj g symsN_2 symsC_2 nv_3 i_2 H10 →
 ∃ (bh : Option Addr) (aa bi : Nat), hat H10 ((ad b).add 5) = some (.slice bh aa bi) ∧
 if i_2 < (aa : Int) then (
 ∃ (a0 : Option Addr) (ag am : Nat), hat H10 ((ad b).add 5) = some (.slice a0 ag am) ∧
 ∃ ah : Addr, a0 = some ah ∧
 ((0 : Int) ≤ i_2 ∧ i_2 < (ag : Int)) ∧
 ∃ af ao ae q p r xT a7 a4 a6, RowAt H10 (ah.add (Int.toNat i_2 * 6)) 0 (DR af ao ae q p r xT a7 a4 a6) ∧
 morainelaw17_size.C af ao ae q p r xT a7 a4 a6 g symsN_2 symsC_2 H10 (fun bt br => ∃ (ra : Int) (az : Option Addr) (av ay : Nat), bt = .tuple #[.int .i64 ra, .slice az av ay] ∧ 
 (bj az av ay (IntKind.wrap .i64 (nv_3 + ra)) (IntKind.wrap .i64 (i_2 + 1)) br ∧ m81 az av ay (IntKind.wrap .i64 (nv_3 + ra)) (IntKind.wrap .i64 (i_2 + 1)) br < m81 g symsN_2 symsC_2 nv_3 i_2 H10)))
 else
 R (.tuple #[.int .i64 nv_3, .slice g symsN_2 symsC_2]) H10
namespace morainelaw17_size
theorem link {aj dC : Int} {ak : Bool} {y : Option Addr} {z u : Nat} {dT : ByteArray} {bd : Option Addr} {be bc : Nat} {f : Option Addr} {d e : Nat} {H : Array Obj} {R : Value → Array Obj → Prop} (h : pt aj dC ak y z u dT bd be bc f d e H R) : C aj dC ak y z u dT bd be bc f d e H R := by
 refine T_en K0 132 Tryz.func17 ?_
 intro w0 Q hQ
 unfold pt at h
 refine T_su [(0, .agg (DR aj dC ak y z u dT bd be bc).toArray), (1, vs f d e)] <| T_srz 0 <| T_nw (some 2) (fun b => vp (pa b)) (.cells (DR aj dC ak y z u dT bd be bc).toArray 27) ?_
 intro b H1 e1 e2
 replace h := h b H1 e1 e2
 refine T_pd [0] [(2, vp (pa b))] <| T_ed 2 [] [] <| T_sz <| T_srz 1 <| T_nd 1 [] [(15, vp (pa b))] ?_
 obtain ⟨x, q3, h⟩ := h
 refine T_l1 16 3 q3 [15] <| T_e <| T_bz 0 <| T_srz 2 <| T_ed 2 [] [(17, .bool (x == 5))] ?_
 by_cases c4 : x = 5
 ·rw [if_pos c4] at h
  refine T_cTz 17 (beq_iff_eq.mpr c4) <| T_srz 3 <| T_nd 1 [2, 16, 17] [(20, vp (some ((ad b).add 4)))] ?_
  obtain ⟨a9, q6, h⟩ := h
  refine T_l1 21 9 q6 [20] ?_
  refine T_c (some 22) h ?_; clear h
  rintro v H2 ⟨bp, a5, bq, rb, rfl, h⟩
  exact T_pd [21] [(22, .tuple #[vs bp a5 bq, .bool rb])] <| T_ed 5 [22] [(6, vs bp a5 bq)] <| T_srz 4 <| T_nr 6 [4, 5] [vi (IntKind.wrap .i64 (1 + (a5 : Int))), vs f d e] hQ h
 rw [if_neg c4] at h
 refine T_cFz 17 (beq_eq_false_iff_ne.mpr c4) <| T_srz 5 <| T_ed 2 [17] [(29, .bool (x == 6))] ?_
 by_cases c7 : x = 6
 ·rw [if_pos c7] at h
  refine T_cTz 29 (beq_iff_eq.mpr c7) <| T_sz <| T_srz 6 <| T_ed 1 [16, 29] [(8, vi 0)] <| T_bz 1 ?_
  obtain ⟨bn, m26, i9, i10⟩ := h
  refine S_loop (x := K25) (σ := Int) (fun s_ => [(1, vs f d e), (2, vp (pa b)), (8, vi s_)]) (fun s_ H => bn s_ H) (fun s_ H => m26 s_ H) (0 : Int) (by kernel_rfl) i9 sk ?_
  rintro i H3 i11
  have h := i10 i H3 i11
  refine T_su [(1, vs f d e), (2, vp (pa b)), (8, vi i)] <| T_sz <| T_srz 7 <| T_ed 4 [] [(34, .bool (decide (i < (d : Int))))] ?_
  by_cases c12 : i < (d : Int)
  ·rw [if_pos c12] at h
   refine T_cTz 34 (decide_eq_true c12) <| T_kt <| T_sz <| T_bz 2 <| T_sz <| T_rqz 9 <| T_q1 37 (vs f d e) [34] <| T_q1 38 (vi i) [] ?_
   obtain ⟨m, rfl, h⟩ := h
   obtain ⟨q14, h⟩ := h
   refine Q_op (some 39) (indexAtN 65 (vs (some m) d e) (vi i)) (vp (some (m.add (Int.toNat i * 1)))) (fun _=>by kernel_rfl) (fun w _ => indexAt_run (P := Tryz.prog) (t := 65) (elem := 9) (sz := 1) (a := m) (len := d) (cap := e) (k := .i64) (i := i) Tryz.underlying65 (fun _=>by kernel_rfl) q14.1 q14.2 w) [(1, vs (some m) d e), (2, vp (pa b)), (8, vi i), (39, vp (some (m.add (Int.toNat i * 1))))] pk ?_
   obtain ⟨s, q15, h⟩ := h
   refine T_ql (some 40) 9 q15 [(1, vs (some m) d e), (2, vp (pa b)), (8, vi i), (40, .string s)] <| T_q1 41 (vp (some ((ad b).add 4))) [] ?_
   obtain ⟨ai, q16, h⟩ := h
   refine T_qld (some 42) 9 q16 [41] [(42, .string ai)] <| T_q1 43 (.bool (s.toList == ai.toList)) [40, 42] ?_
   refine Q_sub [(1, vs (some m) d e), (2, vp (pa b)), (8, vi i), (43, .bool (s.toList == ai.toList))] sk ?_
   refine T_qe ?_
   by_cases c17 : s.toList = ai.toList
   ·rw [if_pos c17] at h
    exact T_cTz 43 (beq_iff_eq.mpr c17) <| T_srz 10 <| T_nr 3 [4, 5] [vi 0, vs (some m) d e] hQ h
   rw [if_neg c17] at h
   refine T_cFz 43 (beq_eq_false_iff_ne.mpr c17) <| T_k ?_
   refine S_blockEnd ?_
   refine S_then ?_
   refine T_rz 8 <| T_ne 3 [(1, vs (some m) d e), (2, vp (pa b)), (8, vi (IntKind.wrap .i64 (i + 1)))] ?_
   exact S_round ((IntKind.wrap .i64 (i + 1)) : Int) sk h
  rw [if_neg c12] at h
  refine T_cFz 34 (decide_eq_false c12) ?_
  refine S_exit 1 (by kernel_rfl) ?_
  refine S_exitThen ?_
  refine S_exitThen ?_
  refine S_exitHere ?_
  refine S_then ?_
  refine T_srz 11 <| T_nd 1 [8, 34] [(46, vp (some ((ad b).add 4)))] ?_
  obtain ⟨bb, q19, h⟩ := h
  refine T_l1 47 9 q19 [46] ?_
  refine T_c (some 48) h ?_; clear h
  rintro bs H4 ⟨a3, o, a2, bo, rfl, h⟩
  refine T_pd [47] [(48, .tuple #[vs a3 o a2, .bool bo])] <| T_ed 5 [48] [(9, vs a3 o a2)] <| T_srz 12 <| T_n 5 [(53, vi (IntKind.wrap .i64 (3 + (o : Int)))), (54, vs f d e), (55, vp (some ((ad b).add 4)))] ?_
  obtain ⟨ba, q20, h⟩ := h
  refine T_l1 56 9 q20 [55] <| T_nw (some 57) (fun b => vs (pa b) 1 1) (.cells #[.string ba] 9) ?_
  intro a8 H5 e21 e22
  replace h := h a8 H5 e21 e22
  refine T_pd [56] [(57, vs (pa a8) 1 1)] ?_
  refine N_op (some 58) (appendN #[65, 65] 65 #[vs f d e, vs (pa a8) 1 1]) _ (fun _=>by kernel_rfl) (ss_append (T := 9) (sz := 1) (bytes := 16) (zero := (.string (ByteArray.mk #[]) : Value)) Tryz.underlying65 Tryz.underlying65 rfl (show Tryz.prog.info? 9 = some Tryz.t9 from by kernel_rfl) (by kernel_rfl) (by kernel_rfl) (by decide) (by kernel_rfl) (by first | exact h | (simpa only [Value.cells, List.toList_toArray] using h))) ?_; clear h
  rintro _ H6 ⟨ap, bl, rfl, h⟩
  exact T_pd [54, 57] [(58, vs ap (d + 1) bl)] <| T_nr 2 [4, 5] [vi (IntKind.wrap .i64 (3 + (o : Int))), vs ap (d + 1) bl] hQ h
 rw [if_neg c7] at h
 refine T_cFz 29 (beq_eq_false_iff_ne.mpr c7) <| T_srz 13 <| T_ed 2 [16, 29] [(59, .bool (x == 4))] ?_
 by_cases c23 : x = 4
 ·rw [if_pos c23] at h
  refine T_cTz 59 (beq_iff_eq.mpr c23) <| T_srz 14 <| T_nd 2 [59] [(62, vp (some (((ad b).add 2).add 1)))] ?_
  obtain ⟨xB, xN, xC, q25, h⟩ := h
  refine T_l1 63 22 q25 [62] <| T_ne 1 [(1, vs f d e), (2, vp (pa b)), (11, vs xB xN xC)] <| T_sz <| T_sz ?_
  obtain ⟨J, h, j27⟩ := h
  refine S_join (σ := Bool) (fun s_ => [(1, vs f d e), (11, vs xB xN xC), (94, .bool s_)]) (fun s_ H => J s_ H) ?_ ?_
  ·rintro a1 H7 j28
   replace h := j27 a1 H7 j28
   refine T_su [(1, vs f d e), (11, vs xB xN xC), (94, .bool a1)] ?_
   refine S_then ?_
   by_cases c29 : a1 = true
   ·rw [if_pos c29] at h
    have b30 : a1 = true := c29
    refine S_env [(1, vs f d e), (11, vs xB xN xC), (94, .bool true)] (by rw [b30]) ?_
    clear b30
    exact T_tz 94 <| T_srz 16 <| T_nr 3 [4, 5] [vi 0, vs f d e] hQ h
   rw [if_neg c29] at h
   have b30 : a1 = false := eq_false_of_ne_true c29
   refine S_env [(1, vs f d e), (11, vs xB xN xC), (94, .bool false)] (by rw [b30]) ?_
   clear b30
   exact T_fz 94 <| T_kt <| T_srz 17 <| T_nr 6 [4, 5] [vi (IntKind.wrap .i64 (1 + (xN : Int))), vs f d e] hQ h
  refine T_rz 15 <| T_n 4 [(1, vs f d e), (2, vp (pa b)), (11, vs xB xN xC), (67, .bool (decide ((xN : Int) < 2)))] ?_
  by_cases c31 : (xN : Int) < 2
  ·rw [if_pos c31] at h
   have b32 : (decide ((xN : Int) < 2)) = true := decide_eq_true c31
   refine N_env [(1, vs f d e), (2, vp (pa b)), (11, vs xB xN xC), (67, .bool true)] (by rw [b32]) ?_
   clear b32
   refine T_ed 27 [2, 67] [(94, .bool true)] ?_
   exact S_meet (true : Bool) sk h
  rw [if_neg c31] at h
  have b32 : (decide ((xN : Int) < 2)) = false := decide_eq_false c31
  refine N_env [(1, vs f d e), (2, vp (pa b)), (11, vs xB xN xC), (67, .bool false)] (by rw [b32]) ?_
  clear b32
  refine T_nd 4 [] [(71, .bool ((xN : Int) == 2))] ?_
  by_cases c33 : (xN : Int) = 2
  ·rw [if_pos c33] at h
   refine N_bd 71 (beq_iff_eq.mpr c33) <| T_nd 1 [] [(72, vs xB xN xC)] ?_
   obtain ⟨j, rfl, h⟩ := h
   obtain ⟨q35, h⟩ := h
   refine T_xd (some 73) 22 94 1 j xN xC .i64 1 Tryz.underlying22 q35.1 q35.2 [11, 72] [(11, vs (some j) xN xC), (73, vp (some (j.add (Int.toNat 1 * 1))))] ?_
   obtain ⟨aw, q36, h⟩ := h
   refine T_l1 74 94 q36 [73] <| T_nd 2 [74] [(76, .bool (decide (aw < 268435456)))] ?_
   by_cases c37 : aw < 268435456
   ·rw [if_pos c37] at h
    refine N_bd 76 (decide_eq_true c37) <| T_ed 18 [2, 67, 71, 76] [(94, .bool true)] ?_
    exact S_meet (true : Bool) sk h
   rw [if_neg c37] at h
   refine N_bd 76 (decide_eq_false c37) <| T_nd 2 [2] [(78, vp (some ((ad b).add 2)))] ?_
   obtain ⟨ax, q39, h⟩ := h
   refine T_l1 79 4 q39 [78] <| T_nd 1 [79] [(80, .bool ax)] ?_
   by_cases c40 : ax = true
   ·rw [if_pos c40] at h
    refine N_bd 80 c40 <| T_nd 1 [] [(81, vs (some j) xN xC)] ?_
    obtain ⟨q42, h⟩ := h
    refine T_xd (some 82) 22 94 1 j xN xC .i64 1 Tryz.underlying22 q42.1 q42.2 [81] [(82, vp (some (j.add (Int.toNat 1 * 1))))] ?_
    obtain ⟨au, q43, h⟩ := h
    refine T_l1 83 94 q43 [82] <| T_nd 3 [80, 83] [(86, .bool (au == 268435456))] ?_
    by_cases c44 : au = 268435456
    ·rw [if_pos c44] at h
     refine N_bd 86 (beq_iff_eq.mpr c44) <| T_nd 1 [] [(87, vs (some j) xN xC)] ?_
     obtain ⟨q46, h⟩ := h
     refine T_xd (some 88) 22 94 1 j xN xC .i64 0 Tryz.underlying22 q46.1 q46.2 [87] [(88, vp (some (j.add (Int.toNat 0 * 1))))] ?_
     obtain ⟨aq, q47, h⟩ := h
     refine T_l1 89 94 q47 [88] <| T_ed 5 [67, 71, 76, 86, 89] [(94, .bool (aq == 0))] ?_
     exact S_meet ((aq == 0) : Bool) sk h
    rw [if_neg c44] at h
    refine N_bd 86 (beq_eq_false_iff_ne.mpr c44) <| T_ed 8 [67, 71, 76, 86] [(94, .bool false)] ?_
    exact S_meet (false : Bool) sk h
   rw [if_neg c40] at h
   refine N_bd 80 (eq_false_of_ne_true c40) <| T_ed 14 [67, 71, 76, 80] [(94, .bool false)] ?_
   exact S_meet (false : Bool) sk h
  rw [if_neg c33] at h
  refine N_bd 71 (beq_eq_false_iff_ne.mpr c33) <| T_ed 23 [2, 67, 71] [(94, .bool false)] ?_
  exact S_meet (false : Bool) sk h
 rw [if_neg c23] at h
 refine T_cFz 59 (beq_eq_false_iff_ne.mpr c23) <| T_k ?_
 refine S_blockEnd ?_
 refine S_then ?_
 refine T_srz 18 <| T_ed 1 [59] [(12, vi 0)] <| T_sz <| T_srz 19 <| T_nd 1 [] [(100, vp (pa b))] ?_
 obtain ⟨ac, q48, h⟩ := h
 refine T_l1 101 3 q48 [100] <| T_ne 1 [(1, vs f d e), (2, vp (pa b)), (12, vi 0), (102, .bool (ac == 7))] ?_
 obtain ⟨bk, h, j50⟩ := h
 refine S_join (σ := Int) (fun s_ => [(1, vs f d e), (2, vp (pa b)), (12, vi s_)]) (fun s_ H => bk s_ H) ?_ ?_
 ·rintro nv H8 j51
  replace h := j50 nv H8 j51
  refine T_su [(1, vs f d e), (2, vp (pa b)), (12, vi nv)] ?_
  refine S_then ?_
  refine T_sz <| T_srz 21 <| T_nd 1 [] [(103, vp (pa b))] ?_
  obtain ⟨ab, q52, h⟩ := h
  refine T_l1 104 3 q52 [103] <| T_ne 1 [(1, vs f d e), (2, vp (pa b)), (12, vi nv), (105, .bool (ab == 8))] ?_
  obtain ⟨bm, h, j54⟩ := h
  refine S_join (σ := Int) (fun s_ => [(1, vs f d e), (2, vp (pa b)), (12, vi s_)]) (fun s_ H => bm s_ H) ?_ ?_
  ·rintro an H9 j55
   replace h := j54 an H9 j55
   refine T_su [(1, vs f d e), (2, vp (pa b)), (12, vi an)] ?_
   refine S_then ?_
   refine T_sz <| T_srz 23 <| T_ed 1 [] [(13, vi 0)] <| T_bz 3 ?_
   obtain ⟨bj, m81, i56, i57⟩ := h
   refine S_loop (x := K80) (σ := (Option Addr) × Nat × Nat × Int × Int) (fun s_ => [(1, vs s_.1 s_.2.1 s_.2.2.1), (2, vp (pa b)), (12, vi s_.2.2.2.1), (13, vi s_.2.2.2.2)]) (fun s_ H => bj s_.1 s_.2.1 s_.2.2.1 s_.2.2.2.1 s_.2.2.2.2 H) (fun s_ H => m81 s_.1 s_.2.1 s_.2.2.1 s_.2.2.2.1 s_.2.2.2.2 H) ((f, d, e, an, 0) : (Option Addr) × Nat × Nat × Int × Int) (by kernel_rfl) i56 sk ?_
   rintro ⟨g, symsN_2, symsC_2, nv_3, i_2⟩ H10 i58
   have h := i57 g symsN_2 symsC_2 nv_3 i_2 H10 i58
   refine T_su [(1, vs g symsN_2 symsC_2), (2, vp (pa b)), (12, vi nv_3), (13, vi i_2)] <| T_sz <| T_srz 24 <| T_nd 2 [] [(110, vi i_2), (111, vp (some ((ad b).add 5)))] ?_
   obtain ⟨bh, aa, bi, q59, h⟩ := h
   refine T_l1 112 25 q59 [111] <| T_ed 2 [110, 112] [(114, .bool (decide (i_2 < (aa : Int))))] ?_
   by_cases c60 : i_2 < (aa : Int)
   ·rw [if_pos c60] at h
    refine T_cTz 114 (decide_eq_true c60) <| T_kt <| T_sz <| T_bz 4 <| T_srz 26 <| T_ed 1 [114] [] <| T_srz 27 <| T_nd 1 [] [(118, vp (some ((ad b).add 5)))] ?_
    obtain ⟨a0, ag, am, q62, h⟩ := h
    refine T_l1 119 25 q62 [118] <| T_nd 1 [] [(120, vi i_2)] ?_
    obtain ⟨ah, rfl, h⟩ := h
    obtain ⟨q63, h⟩ := h
    refine T_xd (some 121) 25 27 6 ah ag am .i64 i_2 Tryz.underlying25 q63.1 q63.2 [119, 120] [(121, vp (some (ah.add (Int.toNat i_2 * 6))))] ?_
    obtain ⟨af, ao, ae, q, p, r, xT, a7, a4, a6, q64, h⟩ := h
    refine T_lr 122 27 q64 [121] <| T_nd 1 [1] [(123, vs g symsN_2 symsC_2)] ?_
    refine T_c (some 124) h ?_; clear h
    rintro bt br ⟨ra, az, av, ay, rfl, h⟩
    refine T_pd [122, 123] [(124, .tuple #[vi ra, vs az av ay])] <| T_ed 5 [124] [(1, vs az av ay), (14, vi ra)] <| T_rz 28 <| T_nd 4 [12, 14] [(12, vi (IntKind.wrap .i64 (nv_3 + ra)))] ?_
    refine N_end (by kernel_rfl) ?_
    refine S_blockEnd ?_
    refine S_then ?_
    refine T_rz 25 <| T_ed 3 [13] [(13, vi (IntKind.wrap .i64 (i_2 + 1)))] ?_
    exact S_round ((az, av, ay, (IntKind.wrap .i64 (nv_3 + ra)), (IntKind.wrap .i64 (i_2 + 1))) : (Option Addr) × Nat × Nat × Int × Int) sk h
   rw [if_neg c60] at h
   refine T_cFz 114 (decide_eq_false c60) ?_
   refine S_exit 3 (by kernel_rfl) ?_
   refine S_exitThen ?_
   refine S_exitThen ?_
   refine S_exitHere ?_
   refine S_then ?_
   exact T_srz 29 <| T_nr 4 [4, 5] [vi nv_3, vs g symsN_2 symsC_2] hQ h
  by_cases c65 : ab = 8
  ·rw [if_pos c65] at h
   have b66 : (ab == 8) = true := beq_iff_eq.mpr c65
   refine S_env [(1, vs f d e), (2, vp (pa b)), (12, vi nv), (105, .bool true)] (by simp only [b66, Bool.not_true, Bool.not_false]) ?_
   clear b66
   refine T_tz 105 <| T_rz 22 <| T_nd 1 [12, 105] [(106, vp (some ((ad b).add 5)))] ?_
   obtain ⟨bf, al, bg, q67, h⟩ := h
   refine T_l1 107 25 q67 [106] <| T_ed 3 [107] [(12, vi (IntKind.wrap .i64 (1 + (al : Int))))] ?_
   exact S_meet ((IntKind.wrap .i64 (1 + (al : Int))) : Int) sk h
  rw [if_neg c65] at h
  have b66 : (ab == 8) = false := beq_eq_false_iff_ne.mpr c65
  refine S_env [(1, vs f d e), (2, vp (pa b)), (12, vi nv), (105, .bool false)] (by simp only [b66, Bool.not_true, Bool.not_false]) ?_
  clear b66
  refine T_fz 105 <| T_kt ?_
  exact S_meet (nv : Int) sk h
 by_cases c68 : ac = 7
 ·rw [if_pos c68] at h
  have b69 : (ac == 7) = true := beq_iff_eq.mpr c68
  refine S_env [(1, vs f d e), (2, vp (pa b)), (12, vi 0), (102, .bool true)] (by simp only [b69, Bool.not_true, Bool.not_false]) ?_
  clear b69
  refine T_tz 102 <| T_rz 20 <| T_ed 1 [12, 102] [(12, vi 2)] ?_
  exact S_meet (2 : Int) sk h
 rw [if_neg c68] at h
 have b69 : (ac == 7) = false := beq_eq_false_iff_ne.mpr c68
 refine S_env [(1, vs f d e), (2, vp (pa b)), (12, vi 0), (102, .bool false)] (by simp only [b69, Bool.not_true, Bool.not_false]) ?_
 clear b69
 refine T_fz 102 <| T_kt ?_
 exact S_meet (0 : Int) sk h
end morainelaw17_size

/-! moraine/morainelaw17.BuildSize -/
namespace morainelaw17_BuildSize
def K0 := Func.code Tryz.f5
end morainelaw17_BuildSize
def morainelaw17_BuildSize.pt (aw dC : Int) (ax : Bool) (ag : Option Addr) (ah af : Nat) (dT : ByteArray) (bg : Option Addr) (bh bf : Nat) (H : Array Obj) (R : Value → Array Obj → Prop) : Prop :=
 ∀ (b : Nat) (H1 : Array Obj), b = H.size → H1 = H.push (.cells (DR aw dC ax ag ah af dT bg bh bf).toArray 27) →
 ∃ av xC ai ae ab ac xT be bb bd, RowAt H1 (ad b) 0 (DR av xC ai ae ab ac xT be bb bd) ∧
 morainelaw17_heavy.C av xC ai ae ab ac xT be bb bd H1 (fun v H2 => ∃ x : Bool, v = .bool x ∧ 
 if x = true then (
 morainelaw17_awake.C  H2 (fun bx H3 => ∃ ba : Bool, bx = .bool ba ∧ 
 R (.bool ba) H3))
 else
 ∃ aa a2 y q i k az aq an am, RowAt H2 (ad b) 0 (DR aa a2 y q i k az aq an am) ∧
 moraineref03_May.C aa a2 y q i k az aq an am H2 (fun b0 H4 => ∃ ay : Bool, b0 = .bool ay ∧ 
 if ay = true then (
 obj_New.C 600 H4 (fun bq H5 => ∃ (ra : Option Addr) (rb : Int), bq = .tuple #[.pointer ra, .int .i64 rb] ∧ 
 onPtr ra (
 R (.bool false) H5) (fun e =>
 ∃ z a3 u g r o a1 au ak aj, RowAt H5 (ad b) 0 (DR z a3 u g r o a1 au ak aj) ∧
 build_Heap.C (some e) z a3 u g r o a1 au ak aj H5 (fun bz H6 => ∃ d a : Int, bz = .tuple #[.int .u64 d, .int .i64 a] ∧ 
 if ((rb != 0) || (a != 0)) = true then (
 if rb = 0 then (
 if a = 2 then (
 if d = 0 then (
 morainelaw17_awake.C  H6 (fun bu H7 => ∃ bc : Bool, bu = .bool bc ∧ 
 R (.bool bc) H7))
 else
 R (.bool false) H6)
 else
 R (.bool false) H6)
 else
 R (.bool false) H6)
 else
 ∃ s a0 t j m p a4 ao ap al, RowAt H6 (ad b) 0 (DR s a0 t j m p a4 ao ap al) ∧
 morainelaw17_size.C s a0 t j m p a4 ao ap al none 0 0 H6 (fun bt H8 => ∃ (f : Int) (bl : Option Addr) (bn bo : Nat), bt = .tuple #[.int .i64 f, .slice bl bn bo] ∧ 
 ∃ bi : Option Addr, hat H8 e = some (.pointer bi) ∧
 ∃ bj : Addr, bi = some bj ∧
 ∃ a6 : Option Addr, hat H8 bj = some (.pointer a6) ∧
 ∀ (a9 : Nat) (H9 : Array Obj), a9 = H8.size → H9 = H8.push (.cells #[.int .i64 0] 3) →
 space_Space_Words.C a6 (some (ad a9)) 1 1 H9 (fun br bm => ∃ a5 : Int, br = .int .i64 a5 ∧ 
 if a5 = f then (
 morainelaw17_awake.C  bm (fun bw bs => ∃ a8 : Bool, bw = .bool a8 ∧ 
 R (.bool a8) bs))
 else
 R (.bool false) bm))))))
 else
 morainelaw17_awake.C  H4 (fun bk bp => ∃ a7 : Bool, bk = .bool a7 ∧ 
 R (.bool a7) bp)))
namespace morainelaw17_BuildSize
set_option maxRecDepth 100000 in
theorem link {aw dC : Int} {ax : Bool} {ag : Option Addr} {ah af : Nat} {dT : ByteArray} {bg : Option Addr} {bh bf : Nat} {H : Array Obj} {R : Value → Array Obj → Prop} (h : pt aw dC ax ag ah af dT bg bh bf H R) : C aw dC ax ag ah af dT bg bh bf H R := by
 refine T_en K0 67 Tryz.func5 ?_
 intro w0 Q hQ
 unfold pt at h
 refine T_su [(0, .agg (DR aw dC ax ag ah af dT bg bh bf).toArray)] <| T_srz 0 <| T_nw (some 1) (fun b => vp (pa b)) (.cells (DR aw dC ax ag ah af dT bg bh bf).toArray 27) ?_
 intro b H1 e1 e2
 replace h := h b H1 e1 e2
 refine ⟨[(1, vp (pa b))], pk, ?_⟩
 refine T_ed 1 [] [] <| T_sz <| T_srz 1 ?_
 obtain ⟨av, xC, ai, ae, ab, ac, xT, be, bb, bd, q3, h⟩ := h
 refine T_lr 9 27 q3 [] ?_
 refine T_c (some 10) h ?_; clear h
 rintro v H2 ⟨x, rfl, h⟩
 refine T_pd [9] [(10, .bool x)] <| T_nd 1 [10] [(11, .bool x)] ?_
 by_cases c4 : x = true
 ·rw [if_pos c4] at h
  refine N_bd 11 c4 <| T_ed 4 [11] [(15, .bool true)] <| T_tz 15 <| T_srz 2 <| T_nu [] ?_
  refine T_c (some 16) h ?_; clear h
  rintro bx H3 ⟨ba, rfl, h⟩
  refine ⟨[(16, .bool ba)], pk, ?_⟩
  exact T_nr 1 [2] [.bool ba] hQ h
 rw [if_neg c4] at h
 refine N_bd 11 (eq_false_of_ne_true c4) ?_
 obtain ⟨aa, a2, y, q, i, k, az, aq, an, am, q6, h⟩ := h
 refine T_lr 12 27 q6 [] ?_
 refine T_c (some 13) h ?_; clear h
 rintro b0 H4 ⟨ay, rfl, h⟩
 refine T_pd [12] [(13, .bool ay)] <| T_ed 2 [11, 13] [(15, .bool (!ay))] ?_
 by_cases c7 : ay = true
 ·rw [if_pos c7] at h
  refine T_cFz 15 (congrArg Bool.not (c7)) <| T_kt <| T_srz 3 <| T_ud [15] [] ?_
  refine T_c (some 18) h ?_; clear h
  rintro bq H5 ⟨ra, rb, rfl, h⟩
  refine T_pd [] [(18, .tuple #[vp ra, vi rb])] <| T_ed 5 [18] [(3, vp ra), (4, vi rb)] <| T_sz <| T_srz 4 <| T_nd 1 [] [(21, vp ra)] ?_
  rcases ra with _ | e
  ·rw [onPtr_none] at h
   exact T_ed 1 [3, 21] [(3, vp none), (22, .bool true)] <| T_tz 22 <| T_srz 5 <| T_nr 1 [2] [.bool false] hQ h
  rw [onPtr_some] at h
  refine T_ed 1 [3, 21] [(3, vp (some e)), (22, .bool false)] <| T_fz 22 <| T_kt <| T_srz 6 <| T_nd 1 [22] [(24, vp (some e))] ?_
  obtain ⟨z, a3, u, g, r, o, a1, au, ak, aj, q9, h⟩ := h
  refine T_lr 25 27 q9 [] ?_
  refine T_c (some 26) h ?_; clear h
  rintro bz H6 ⟨d, a, rfl, h⟩
  refine T_pd [24, 25] [(26, .tuple #[vu d, vi a])] <| T_ed 5 [26] [(5, vu d), (6, vi a)] <| T_sz <| T_srz 7 ?_
  refine N_cut [(1, vp (pa b)), (3, vp (some e)), (4, vi rb), (5, vu d), (6, vi a), (34, .bool ((rb != 0) || (a != 0)))] ?_ ?_
  ·refine S_then ?_
   by_cases c12 : ((rb != 0) || (a != 0)) = true
   ·rw [if_pos c12] at h
    refine T_cTz 34 c12 <| T_srz 8 <| T_n 3 [(5, vu d), (6, vi a), (37, .bool (rb == 0))] ?_
    by_cases c14 : rb = 0
    ·rw [if_pos c14] at h
     have b15 : (rb == 0) = true := beq_iff_eq.mpr c14
     refine N_env [(5, vu d), (6, vi a), (37, .bool true)] (by rw [b15]) ?_
     clear b15
     refine T_nd 4 [6, 37] [(41, .bool (a == 2))] ?_
     by_cases c16 : a = 2
     ·rw [if_pos c16] at h
      refine N_bd 41 (beq_iff_eq.mpr c16) <| T_n 4 [(45, .bool (d == 0))] ?_
      by_cases c18 : d = 0
      ·rw [if_pos c18] at h
       have b19 : (d == 0) = true := beq_iff_eq.mpr c18
       refine N_env [(45, .bool true)] (by rw [b19]) ?_
       clear b19
       refine T_c (some 46) h ?_; clear h
       rintro bu H7 ⟨bc, rfl, h⟩
       exact T_pd [] [(46, .bool bc)] <| T_nr 2 [2] [.bool bc] hQ h
      rw [if_neg c18] at h
      have b19 : (d == 0) = false := beq_eq_false_iff_ne.mpr c18
      refine N_env [(45, .bool false)] (by rw [b19]) ?_
      clear b19
      exact T_nr 3 [2] [.bool false] hQ h
     rw [if_neg c16] at h
     exact N_bd 41 (beq_eq_false_iff_ne.mpr c16) <| T_nr 7 [2] [.bool false] hQ h
    rw [if_neg c14] at h
    have b15 : (rb == 0) = false := beq_eq_false_iff_ne.mpr c14
    refine N_env [(5, vu d), (6, vi a), (37, .bool false)] (by rw [b15]) ?_
    clear b15
    exact T_nr 11 [2] [.bool false] hQ h
   rw [if_neg c12] at h
   refine T_cFz 34 (eq_false_of_ne_true c12) <| T_kt <| T_srz 9 <| T_nu [(1, vp (pa b)), (3, vp (some e))] ?_
   obtain ⟨s, a0, t, j, m, p, a4, ao, ap, al, q20, h⟩ := h
   refine T_lr 49 27 q20 [1] ?_
   refine T_c (some 50) h ?_; clear h
   rintro bt H8 ⟨f, bl, bn, bo, rfl, h⟩
   refine T_pd [49] [(50, .tuple #[vi f, vs bl bn bo])] <| T_ed 5 [50] [(7, vi f)] <| T_srz 10 <| T_nd 3 [3] [(55, vp (some e))] ?_
   obtain ⟨bi, q21, h⟩ := h
   refine T_l1 56 48 q21 [55] ?_
   obtain ⟨bj, rfl, h⟩ := h
   refine T_nd 2 [56] [(58, vp (some bj))] ?_
   obtain ⟨a6, q22, h⟩ := h
   refine T_l1 59 52 q22 [58] <| T_nw (some 60) (fun b => vs (pa b) 1 1) (.cells #[vi 0] 3) ?_
   intro a9 H9 e23 e24
   replace h := h a9 H9 e23 e24
   refine T_pd [] [(60, vs (pa a9) 1 1)] ?_
   refine T_c (some 61) h ?_; clear h
   rintro br bm ⟨a5, rfl, h⟩
   refine ⟨[(7, vi f), (61, vi a5)], pk, ?_⟩
   refine T_n 3 [(64, .bool (a5 == f))] ?_
   by_cases c25 : a5 = f
   ·rw [if_pos c25] at h
    have b26 : (a5 == f) = true := beq_iff_eq.mpr c25
    refine N_env [(64, .bool true)] (by rw [b26]) ?_
    clear b26
    refine T_c (some 65) h ?_; clear h
    rintro bw bs ⟨a8, rfl, h⟩
    exact T_pd [] [(65, .bool a8)] <| T_nr 2 [2] [.bool a8] hQ h
   rw [if_neg c25] at h
   have b26 : (a5 == f) = false := beq_eq_false_iff_ne.mpr c25
   refine N_env [(64, .bool false)] (by rw [b26]) ?_
   clear b26
   exact T_nr 3 [2] [.bool false] hQ h
  intro hk
  refine T_n 3 [(1, vp (pa b)), (3, vp (some e)), (4, vi rb), (5, vu d), (6, vi a), (31, .bool (rb != 0))] ?_
  by_cases c10 : rb = 0
  ·have b11 : (rb != 0) = false := bne_eq_false_iff_eq.mpr c10
   refine N_env [(1, vp (pa b)), (3, vp (some e)), (4, vi rb), (5, vu d), (6, vi a), (31, .bool false)] (by rw [b11]) ?_
   refine T_nd 3 [31] [(34, .bool (a != 0))] ?_
   refine N_end (by kernel_rfl) ?_
   refine S_bd 34 (b := (a != 0)) (v := ((rb != 0) || (a != 0))) (by simp only [b11, BL]) ?_
   exact hk
  have b11 : (rb != 0) = true := bne_iff_ne.mpr c10
  refine N_env [(1, vp (pa b)), (3, vp (some e)), (4, vi rb), (5, vu d), (6, vi a), (31, .bool true)] (by rw [b11]) ?_
  refine T_nd 3 [31] [(34, .bool true)] ?_
  refine N_end (by kernel_rfl) ?_
  refine S_bd 34 (b := true) (v := ((rb != 0) || (a != 0))) (by simp only [b11, BL]) ?_
  exact hk
 rw [if_neg c7] at h
 refine T_cTz 15 (congrArg Bool.not (eq_false_of_ne_true c7)) <| T_srz 2 <| T_nu [] ?_
 refine T_c (some 16) h ?_; clear h
 rintro bk bp ⟨a7, rfl, h⟩
 refine ⟨[(16, .bool a7)], pk, ?_⟩
 exact T_nr 1 [2] [.bool a7] hQ h
end morainelaw17_BuildSize

end Go.Proofs.YtdgejifkcfgliaaGreatDoor
