/- Printed: what each function asks, and that it is sound. -/
import Derived.Test.YtdgejifkcfgliaaGreatDoorFnsC
set_option linter.unusedSimpArgs false
set_option linter.unusedVariables false
set_option maxRecDepth 100000
set_option maxHeartbeats 1000000
noncomputable section
namespace Go.Proofs.YtdgejifkcfgliaaGreatDoor
open Go
/-! (*moraine/space.Space).none -/
namespace space_Space_none
def K0 := Func.code Tryz.f41
end space_Space_none
def space_Space_none.pt (s : Option Addr) (H : Array Obj) (R : Value → Array Obj → Prop) : Prop :=
 onPtr s (
 R (.bool true) H) (fun sA =>
 ∃ x : Option Addr, hat H sA = some (.pointer x) ∧
 onPtr x (
 R (.bool true) H) (fun xA =>
 R (.bool false) H))
namespace space_Space_none
theorem link {s : Option Addr} {H : Array Obj} {R : Value → Array Obj → Prop} (h : pt s H R) : C s H R := by
 refine T_en K0 12 Tryz.func41 ?_
 intro w0 Q hQ
 unfold pt at h
 refine T_su [(0, vp s)] ?_
 refine T_srz 0 ?_
 refine T_ed 1 [] [] ?_
 refine T_srz 1 ?_
 refine T_nd 1 [] [(3, vp s)] ?_
 rcases s with _ | sA
 ·rw [onPtr_none] at h
  exact T_nr 9 [2] [.bool true] hQ h
 rw [onPtr_some] at h
 refine T_n 5 [(5, .bool false), (8, vp (some sA))] ?_
 obtain ⟨x, q1, h⟩ := h
 refine T_l1 9 55 q1 [8] ?_
 rcases x with _ | xA
 ·rw [onPtr_none] at h
  exact T_nr 3 [2] [.bool true] hQ h
 rw [onPtr_some] at h
 exact T_nr 3 [2] [.bool false] hQ h
end space_Space_none

/-! moraine/space.New -/
namespace space_New
def K0 := Func.code Tryz.f48
end space_New
def space_New.pt (limit : Int) (H : Array Obj) (R : Value → Array Obj → Prop) : Prop :=
 seg_New.C limit H (fun v H1 => ∃ (ra : Option Addr) (rb : Int), v = .tuple #[.pointer ra, .int .i64 rb] ∧ 
 if rb = 0 then (
 ∀ (b : Nat) (H2 : Array Obj), b = H1.size → H2 = H1.push (.cells #[.pointer ra, .int .i64 0, .int .i64 0, .int .i64 0, .int .i64 0, .int .i64 0, .int .i64 0, .int .i64 0, .int .i64 0, .int .i64 0, .int .i64 0, .int .i64 0, .int .i64 0, .int .i64 0, .int .i64 0, .int .i64 0, .int .i64 0, .int .i64 0, .int .i64 0, .int .i64 0, .int .i64 0] 59) →
 R (.tuple #[.pointer (some (ad b)), .int .i64 0]) H2)
 else
 R (.tuple #[.pointer none, .int .i64 rb]) H1)
namespace space_New
theorem link {limit : Int} {H : Array Obj} {R : Value → Array Obj → Prop} (h : pt limit H R) : C limit H R := by
 refine T_en K0 17 Tryz.func48 ?_
 intro w0 Q hQ
 unfold pt at h
 refine T_su [(0, vi limit)] ?_
 refine T_srz 0 ?_
 refine T_ed 2 [] [] ?_
 refine T_srz 1 ?_
 refine T_n 1 [(7, vi limit)] ?_
 refine T_c (some 8) h ?_; clear h
 rintro v H1 ⟨ra, rb, rfl, h⟩
 refine ⟨[(8, .tuple #[vp ra, vi rb])], pk, ?_⟩
 refine T_ne 5 [(4, vp ra), (5, vi rb)] ?_
 refine T_sz ?_
 refine T_srz 2 ?_
 refine T_ed 2 [] [(12, .bool (rb != 0))] ?_
 by_cases c1 : rb = 0
 ·rw [if_pos c1] at h
  refine T_cFz 12 (bne_eq_false_iff_eq.mpr c1) ?_
  refine T_kt ?_
  refine T_srz 4 ?_
  refine T_n 2 [(15, .agg #[vp ra, vi 0, vi 0, vi 0, vi 0, vi 0, vi 0, vi 0, vi 0, vi 0, vi 0, vi 0, vi 0, vi 0, vi 0, vi 0, vi 0, vi 0, vi 0, vi 0, vi 0])] ?_
  refine T_nw (some 16) (fun b => vp (pa b)) (.cells #[vp ra, vi 0, vi 0, vi 0, vi 0, vi 0, vi 0, vi 0, vi 0, vi 0, vi 0, vi 0, vi 0, vi 0, vi 0, vi 0, vi 0, vi 0, vi 0, vi 0, vi 0] 59) ?_
  intro b H2 e3 e4
  replace h := h b H2 e3 e4
  refine ⟨[(16, vp (pa b))], pk, ?_⟩
  exact T_nr 2 [2, 3] [vp (pa b), vi 0] hQ h
 rw [if_neg c1] at h
 refine T_cTz 12 (bne_iff_ne.mpr c1) ?_
 refine T_srz 3 ?_
 exact T_nr 3 [2, 3] [vp none, vi rb] hQ h
end space_New

/-! (*moraine/space.Space).Alloc -/
namespace space_Space_Alloc
def K0 := Func.code Tryz.f94
end space_Space_Alloc
def space_Space_Alloc.pt (s : Option Addr) (gen : Int) (kind : Int) (nv : Int) (H : Array Obj) (R : Value → Array Obj → Prop) : Prop :=
 space_Space_none.C s H (fun v H1 => ∃ x : Bool, v = .bool x ∧ 
 if x = true then (
 R (.tuple #[.int .i64 0, .int .i64 1]) H1)
 else
 space_may.C gen kind nv H1 (fun ab H2 => ∃ j : Bool, ab = .bool j ∧ 
 if j = true then (
 space_Space_Current.C s gen kind H2 (fun aa H3 => ∃ (ra : Int) (rb : Bool), aa = .tuple #[.int .i64 ra, .bool rb] ∧ 
 ∃ J : Array Obj → Prop, (
 if rb = true then (
 ∃ e : Addr, s = some e ∧
 ∃ r : Option Addr, hat H3 e = some (.pointer r) ∧
 seg_Mem_Bump.C r ra nv H3 (fun u H8 => ∃ f g : Int, u = .tuple #[.int .i64 f, .int .i64 g] ∧ 
 if g = 0 then (
 R (.tuple #[.int .i64 f, .int .i64 0]) H8)
 else
 J H8))
 else
 J H3) ∧ ∀ (H4 : Array Obj), J H4 →
 ∃ sA : Addr, s = some sA ∧
 ∃ p : Option Addr, hat H4 sA = some (.pointer p) ∧
 seg_Mem_Take.C p gen kind H4 (fun z H5 => ∃ b d : Int, z = .tuple #[.int .i64 b, .int .i64 d] ∧ 
 if d = 0 then (
 ((0 : Int) ≤ gen ∧ gen < (5 : Int)) ∧
 ((0 : Int) ≤ kind ∧ kind < (4 : Int)) ∧
 (CanPuts H5 (((sA.add 1).add (Int.toNat gen * 4)).add (Int.toNat kind * 1)) 0 1) ∧ ∀ H6, H6 = hputs H5 (((sA.add 1).add (Int.toNat gen * 4)).add (Int.toNat kind * 1)) [.int .i64 (IntKind.wrap .i64 (b + 1))] 0 →
 ∃ q : Option Addr, hat H6 sA = some (.pointer q) ∧
 seg_Mem_Bump.C q b nv H6 (fun y H7 => ∃ o m : Int, y = .tuple #[.int .i64 o, .int .i64 m] ∧ 
 R (.tuple #[.int .i64 o, .int .i64 m]) H7))
 else
 R (.tuple #[.int .i64 0, .int .i64 d]) H5)))
 else
 R (.tuple #[.int .i64 0, .int .i64 1]) H2))
namespace space_Space_Alloc
theorem link {s : Option Addr} {gen : Int} {kind : Int} {nv : Int} {H : Array Obj} {R : Value → Array Obj → Prop} (h : pt s gen kind nv H R) : C s gen kind nv H R := by
 refine T_en K0 77 Tryz.func94 ?_
 intro w0 Q hQ
 unfold pt at h
 refine T_su [(0, vp s), (1, vi gen), (2, vi kind), (3, vi nv)] ?_
 refine T_srz 0 ?_
 refine T_ed 2 [] [] ?_
 refine T_sz ?_
 refine T_srz 1 ?_
 refine T_nd 1 [] [(16, vp s)] ?_
 refine T_c (some 17) h ?_; clear h
 rintro v H1 ⟨x, rfl, h⟩
 refine T_pd [16] [(17, .bool x)] ?_
 refine T_nd 1 [17] [(18, .bool x)] ?_
 by_cases c1 : x = true
 ·rw [if_pos c1] at h
  refine N_bd 18 c1 ?_
  refine T_ed 6 [18] [(24, .bool true)] ?_
  refine T_tz 24 ?_
  refine T_srz 2 ?_
  exact T_nr 2 [8, 9] [vi 0, vi 1] hQ h
 rw [if_neg c1] at h
 refine N_bd 18 (eq_false_of_ne_true c1) ?_
 refine T_nd 3 [] [(19, vi gen), (20, vi kind), (21, vi nv)] ?_
 refine T_c (some 22) h ?_; clear h
 rintro ab H2 ⟨j, rfl, h⟩
 refine T_pd [19, 20, 21] [(22, .bool j)] ?_
 refine T_ed 2 [18, 22] [(24, .bool (!j))] ?_
 by_cases c3 : j = true
 ·rw [if_pos c3] at h
  refine T_cFz 24 (congrArg Bool.not (c3)) ?_
  refine T_kt ?_
  refine T_sz ?_
  refine T_srz 3 ?_
  refine T_nd 3 [24] [(26, vp s), (27, vi gen), (28, vi kind)] ?_
  refine T_c (some 29) h ?_; clear h
  rintro aa H3 ⟨ra, rb, rfl, h⟩
  refine T_pd [26, 27, 28] [(29, .tuple #[vi ra, .bool rb])] ?_
  refine T_ed 5 [29] [(10, vi ra), (11, .bool rb)] ?_
  refine T_srz 4 ?_
  refine T_ne 1 [(0, vp s), (1, vi gen), (2, vi kind), (3, vi nv), (10, vi ra), (32, .bool rb)] ?_
  obtain ⟨J, h, j6⟩ := h
  refine S_join (σ := Unit) (fun s_ => [(0, vp s), (1, vi gen), (2, vi kind), (3, vi nv)]) (fun s_ H => J  H) ?_ ?_
  ·rintro _ H4 j7
   replace h := j6 H4 j7
   refine T_su [(0, vp s), (1, vi gen), (2, vi kind), (3, vi nv)] ?_
   refine S_then ?_
   refine T_srz 8 ?_
   refine T_nd 1 [] [(47, vp s)] ?_
   obtain ⟨sA, rfl, h⟩ := h
   refine T_nd 2 [0, 47] [(0, vp (some sA)), (49, vp (some sA))] ?_
   obtain ⟨p, q8, h⟩ := h
   refine T_l1 50 55 q8 [49] ?_
   refine T_nd 2 [] [(51, vi gen), (52, vi kind)] ?_
   refine T_c (some 53) h ?_; clear h
   rintro z H5 ⟨b, d, rfl, h⟩
   refine T_pd [50, 51, 52] [(53, .tuple #[vi b, vi d])] ?_
   refine T_ed 5 [53] [(14, vi b), (15, vi d)] ?_
   refine T_sz ?_
   refine T_srz 9 ?_
   refine T_ed 2 [] [(57, .bool (d != 0))] ?_
   by_cases c9 : d = 0
   ·rw [if_pos c9] at h
    refine T_cFz 57 (bne_eq_false_iff_eq.mpr c9) ?_
    refine T_kt ?_
    refine T_srz 11 ?_
    refine T_nd 7 [1, 2, 15, 57] [(60, vi gen), (61, vi kind), (63, vi (IntKind.wrap .i64 (b + 1))), (65, vp (some (sA.add 1)))] ?_
    obtain ⟨q11, h⟩ := h
    refine T_v1 66 (indexAtN 57 (vp (some (sA.add 1))) (vi gen)) (vp (some ((sA.add 1).add (Int.toNat gen * 4)))) (fun w _ => indexArr_run (P := Tryz.prog) (t := 57) (elem := 56) (sz := 4) (n := 5) (a := (sA.add 1)) (k := .i64) (i := gen) Tryz.underlying57 (fun _=>by kernel_rfl) q11.1 q11.2 w) [60, 65] ?_
    obtain ⟨q12, h⟩ := h
    refine T_v1 67 (indexAtN 56 (vp (some ((sA.add 1).add (Int.toNat gen * 4)))) (vi kind)) (vp (some (((sA.add 1).add (Int.toNat gen * 4)).add (Int.toNat kind * 1)))) (fun w _ => indexArr_run (P := Tryz.prog) (t := 56) (elem := 3) (sz := 1) (n := 4) (a := ((sA.add 1).add (Int.toNat gen * 4))) (k := .i64) (i := kind) Tryz.underlying56 (fun _=>by kernel_rfl) q12.1 q12.2 w) [61, 66] ?_
    obtain ⟨q14, h⟩ := h
    refine T_st1 3 (vi (IntKind.wrap .i64 (b + 1))) q14 ?_
    intro H6 e13
    replace h := h H6 e13
    refine T_pd [63, 67] [] ?_
    refine T_e ?_
    refine T_srz 12 ?_
    refine T_nd 3 [0] [(70, vp (some sA))] ?_
    obtain ⟨q, q15, h⟩ := h
    refine T_l1 71 55 q15 [70] ?_
    refine T_nd 2 [3, 14] [(72, vi b), (73, vi nv)] ?_
    refine T_c (some 74) h ?_; clear h
    rintro y H7 ⟨o, m, rfl, h⟩
    refine ⟨[(74, .tuple #[vi o, vi m])], pk, ?_⟩
    exact T_nr 4 [8, 9] [vi o, vi m] hQ h
   rw [if_neg c9] at h
   refine T_cTz 57 (bne_iff_ne.mpr c9) ?_
   refine T_srz 10 ?_
   exact T_nr 3 [8, 9] [vi 0, vi d] hQ h
  by_cases c16 : rb = true
  ·rw [if_pos c16] at h
   have b17 : rb = true := c16
   refine S_env [(0, vp s), (1, vi gen), (2, vi kind), (3, vi nv), (10, vi ra), (32, .bool true)] (by simp only [b17, Bool.not_true, Bool.not_false]) ?_
   clear b17
   refine T_tz 32 ?_
   refine T_srz 5 ?_
   refine T_nd 1 [32] [(34, vp s)] ?_
   obtain ⟨e, rfl, h⟩ := h
   refine T_nd 2 [0, 34] [(0, vp (some e)), (36, vp (some e))] ?_
   obtain ⟨r, q18, h⟩ := h
   refine T_l1 37 55 q18 [36] ?_
   refine T_nd 2 [10] [(38, vi ra), (39, vi nv)] ?_
   refine T_c (some 40) h ?_; clear h
   rintro u H8 ⟨f, g, rfl, h⟩
   refine T_pd [37, 38, 39] [(40, .tuple #[vi f, vi g])] ?_
   refine T_ed 5 [40] [(12, vi f), (13, vi g)] ?_
   refine T_srz 6 ?_
   refine T_ed 2 [13] [(44, .bool (g == 0))] ?_
   by_cases c19 : g = 0
   ·rw [if_pos c19] at h
    refine T_cTz 44 (beq_iff_eq.mpr c19) ?_
    refine T_srz 7 ?_
    exact T_nr 3 [8, 9] [vi f, vi 0] hQ h
   rw [if_neg c19] at h
   refine T_cFz 44 (beq_eq_false_iff_ne.mpr c19) ?_
   refine T_kt ?_
   exact S_meet (() : Unit) sk h
  rw [if_neg c16] at h
  have b17 : rb = false := eq_false_of_ne_true c16
  refine S_env [(0, vp s), (1, vi gen), (2, vi kind), (3, vi nv), (10, vi ra), (32, .bool false)] (by simp only [b17, Bool.not_true, Bool.not_false]) ?_
  clear b17
  refine T_fz 32 ?_
  refine T_kt ?_
  exact S_meet (() : Unit) sk h
 rw [if_neg c3] at h
 refine T_cTz 24 (congrArg Bool.not (eq_false_of_ne_true c3)) ?_
 refine T_srz 2 ?_
 exact T_nr 2 [8, 9] [vi 0, vi 1] hQ h
end space_Space_Alloc

/-! moraine/space.may -/
namespace space_may
def K0 := Func.code Tryz.f120
end space_may
def space_may.pt (gen : Int) (kind : Int) (nv : Int) (H : Array Obj) (R : Value → Array Obj → Prop) : Prop :=
 if ((decide (gen < 0)) || (decide (gen > 4))) = true then (
 R (.bool false) H)
 else
 if ((kind == 0) || (kind == 1)) = true then (
 R (.bool (nv == 2)) H)
 else
 R (.bool ((((kind == 2) || (kind == 3)) && (decide (nv ≥ 1))) && (decide (nv ≤ 63)))) H
namespace space_may
theorem link {gen : Int} {kind : Int} {nv : Int} {H : Array Obj} {R : Value → Array Obj → Prop} (h : pt gen kind nv H R) : C gen kind nv H R := by
 refine T_en K0 37 Tryz.func120 ?_
 intro w0 Q hQ
 unfold pt at h
 refine T_su [(0, vi gen), (1, vi kind), (2, vi nv)] ?_
 refine T_srz 0 ?_
 refine T_ed 1 [] [] ?_
 refine T_sz ?_
 refine T_bz 0 ?_
 refine T_srz 1 ?_
 refine N_cut [(1, vi kind), (2, vi nv), (7, .bool ((decide (gen < 0)) || (decide (gen > 4))))] ?_ ?_
 ·refine S_then ?_
  by_cases c3 : ((decide (gen < 0)) || (decide (gen > 4))) = true
  ·rw [if_pos c3] at h
   refine T_cTz 7 c3 ?_
   refine T_srz 2 ?_
   exact T_nr 1 [6] [.bool false] hQ h
  rw [if_neg c3] at h
  refine T_cFz 7 (eq_false_of_ne_true c3) ?_
  refine T_srz 3 ?_
  refine N_cut [(1, vi kind), (2, vi nv), (14, .bool ((kind == 0) || (kind == 1)))] ?_ ?_
  ·refine S_then ?_
   by_cases c7 : ((kind == 0) || (kind == 1)) = true
   ·rw [if_pos c7] at h
    refine T_cTz 14 c7 ?_
    refine T_srz 4 ?_
    exact T_nr 3 [6] [.bool (nv == 2)] hQ h
   rw [if_neg c7] at h
   refine T_cFz 14 (eq_false_of_ne_true c7) ?_
   refine T_k ?_
   refine S_blockEnd ?_
   refine S_then ?_
   refine T_srz 5 ?_
   refine N_cut [(6, .bool ((((kind == 2) || (kind == 3)) && (decide (nv ≥ 1))) && (decide (nv ≤ 63))))] ?_ ?_
   ·refine S_then ?_
    exact T_ret [6] [.bool ((((kind == 2) || (kind == 3)) && (decide (nv ≥ 1))) && (decide (nv ≤ 63)))] hQ h
   intro hk
   refine T_n 3 [(1, vi kind), (2, vi nv), (25, .bool (kind == 2))] ?_
   by_cases c9 : kind = 2
   ·have b10 : (kind == 2) = true := beq_iff_eq.mpr c9
    refine N_env [(1, vi kind), (2, vi nv), (25, .bool true)] (by rw [b10]) ?_
    refine T_nd 8 [1, 25] [(33, .bool (decide (nv ≥ 1)))] ?_
    by_cases c11 : nv ≥ 1
    ·have b12 : (decide (nv ≥ 1)) = true := decide_eq_true c11
     refine N_bd 33 b12 ?_
     refine T_n 4 [(6, .bool (decide (nv ≤ 63)))] ?_
     refine N_end (by kernel_rfl) ?_
     refine S_env [(6, .bool ((((kind == 2) || (kind == 3)) && (decide (nv ≥ 1))) && (decide (nv ≤ 63))))] (by simp only [b10, b12, BL]) ?_
     exact hk
    have b12 : (decide (nv ≥ 1)) = false := decide_eq_false c11
    refine N_bd 33 b12 ?_
    refine T_n 4 [(6, .bool false)] ?_
    refine N_end (by kernel_rfl) ?_
    refine S_env [(6, .bool ((((kind == 2) || (kind == 3)) && (decide (nv ≥ 1))) && (decide (nv ≤ 63))))] (by simp only [b10, b12, BL]) ?_
    exact hk
   have b10 : (kind == 2) = false := beq_eq_false_iff_ne.mpr c9
   refine N_env [(1, vi kind), (2, vi nv), (25, .bool false)] (by rw [b10]) ?_
   refine T_nd 4 [1, 25] [(29, .bool (kind == 3))] ?_
   by_cases c13 : kind = 3
   ·have b14 : (kind == 3) = true := beq_iff_eq.mpr c13
    refine N_bd 29 b14 ?_
    refine T_nd 4 [29] [(33, .bool (decide (nv ≥ 1)))] ?_
    by_cases c15 : nv ≥ 1
    ·have b16 : (decide (nv ≥ 1)) = true := decide_eq_true c15
     refine N_bd 33 b16 ?_
     refine T_n 4 [(6, .bool (decide (nv ≤ 63)))] ?_
     refine N_end (by kernel_rfl) ?_
     refine S_env [(6, .bool ((((kind == 2) || (kind == 3)) && (decide (nv ≥ 1))) && (decide (nv ≤ 63))))] (by simp only [b10, b14, b16, BL]) ?_
     exact hk
    have b16 : (decide (nv ≥ 1)) = false := decide_eq_false c15
    refine N_bd 33 b16 ?_
    refine T_n 4 [(6, .bool false)] ?_
    refine N_end (by kernel_rfl) ?_
    refine S_env [(6, .bool ((((kind == 2) || (kind == 3)) && (decide (nv ≥ 1))) && (decide (nv ≤ 63))))] (by simp only [b10, b14, b16, BL]) ?_
    exact hk
   have b14 : (kind == 3) = false := beq_eq_false_iff_ne.mpr c13
   refine N_bd 29 b14 ?_
   refine T_n 8 [(6, .bool false)] ?_
   refine N_end (by kernel_rfl) ?_
   refine S_env [(6, .bool ((((kind == 2) || (kind == 3)) && (decide (nv ≥ 1))) && (decide (nv ≤ 63))))] (by simp only [b10, b14, BL]) ?_
   exact hk
  intro hk
  refine T_n 3 [(1, vi kind), (2, vi nv), (17, .bool (kind == 0))] ?_
  by_cases c5 : kind = 0
  ·have b6 : (kind == 0) = true := beq_iff_eq.mpr c5
   refine N_env [(1, vi kind), (2, vi nv), (17, .bool true)] (by rw [b6]) ?_
   refine T_nd 4 [17] [(14, .bool true)] ?_
   refine N_end (by kernel_rfl) ?_
   refine S_bd 14 (b := true) (v := ((kind == 0) || (kind == 1))) (by simp only [b6, BL]) ?_
   exact hk
  have b6 : (kind == 0) = false := beq_eq_false_iff_ne.mpr c5
  refine N_env [(1, vi kind), (2, vi nv), (17, .bool false)] (by rw [b6]) ?_
  refine T_nd 4 [17] [(14, .bool (kind == 1))] ?_
  refine N_end (by kernel_rfl) ?_
  refine S_bd 14 (b := (kind == 1)) (v := ((kind == 0) || (kind == 1))) (by simp only [b6, BL]) ?_
  exact hk
 intro hk
 refine T_n 3 [(0, vi gen), (1, vi kind), (2, vi nv), (10, .bool (decide (gen < 0)))] ?_
 by_cases c1 : gen < 0
 ·have b2 : (decide (gen < 0)) = true := decide_eq_true c1
  refine N_env [(0, vi gen), (1, vi kind), (2, vi nv), (10, .bool true)] (by rw [b2]) ?_
  refine T_nd 4 [0, 10] [(7, .bool true)] ?_
  refine N_end (by kernel_rfl) ?_
  refine S_bd 7 (b := true) (v := ((decide (gen < 0)) || (decide (gen > 4)))) (by simp only [b2, BL]) ?_
  exact hk
 have b2 : (decide (gen < 0)) = false := decide_eq_false c1
 refine N_env [(0, vi gen), (1, vi kind), (2, vi nv), (10, .bool false)] (by rw [b2]) ?_
 refine T_nd 4 [0, 10] [(7, .bool (decide (gen > 4)))] ?_
 refine N_end (by kernel_rfl) ?_
 refine S_bd 7 (b := (decide (gen > 4))) (v := ((decide (gen < 0)) || (decide (gen > 4)))) (by simp only [b2, BL]) ?_
 exact hk
end space_may

/-! (*moraine/space.Space).Current -/
namespace space_Space_Current
def K0 := Func.code Tryz.f121
end space_Space_Current
def space_Space_Current.pt (s : Option Addr) (gen : Int) (kind : Int) (H : Array Obj) (R : Value → Array Obj → Prop) : Prop :=
 onPtr s (
 R (.tuple #[.int .i64 0, .bool false]) H) (fun sA =>
 if gen < 0 then (
 R (.tuple #[.int .i64 0, .bool false]) H)
 else
 if gen > 4 then (
 R (.tuple #[.int .i64 0, .bool false]) H)
 else
 if kind < 0 then (
 R (.tuple #[.int .i64 0, .bool false]) H)
 else
 if kind > 3 then (
 R (.tuple #[.int .i64 0, .bool false]) H)
 else
 ((0 : Int) ≤ gen ∧ gen < (5 : Int)) ∧
 ((0 : Int) ≤ kind ∧ kind < (4 : Int)) ∧
 ∃ x : Int, hat H (((sA.add 1).add (Int.toNat gen * 4)).add (Int.toNat kind * 1)) = some (.int .i64 x) ∧
 if x = 0 then (
 R (.tuple #[.int .i64 0, .bool false]) H)
 else
 ((0 : Int) ≤ gen ∧ gen < (5 : Int)) ∧
 ((0 : Int) ≤ kind ∧ kind < (4 : Int)) ∧
 ∃ b : Int, hat H (((sA.add 1).add (Int.toNat gen * 4)).add (Int.toNat kind * 1)) = some (.int .i64 b) ∧
 R (.tuple #[.int .i64 (IntKind.wrap .i64 (b - 1)), .bool true]) H)
namespace space_Space_Current
theorem link {s : Option Addr} {gen : Int} {kind : Int} {H : Array Obj} {R : Value → Array Obj → Prop} (h : pt s gen kind H R) : C s gen kind H R := by
 refine T_en K0 46 Tryz.func121 ?_
 intro w0 Q hQ
 unfold pt at h
 refine T_su [(0, vp s), (1, vi gen), (2, vi kind)] ?_
 refine T_srz 0 ?_
 refine T_ed 2 [] [] ?_
 refine T_sz ?_
 refine T_srz 1 ?_
 refine T_nd 1 [] [(8, vp s)] ?_
 rcases s with _ | sA
 ·rw [onPtr_none] at h
  refine T_ed 28 [0, 8] [(0, vp none), (36, .bool true)] ?_
  refine T_tz 36 ?_
  refine T_srz 2 ?_
  exact T_nr 2 [6, 7] [vi 0, .bool false] hQ h
 rw [onPtr_some] at h
 refine T_nd 6 [0, 8] [(0, vp (some sA)), (14, .bool (decide (gen < 0)))] ?_
 by_cases c1 : gen < 0
 ·rw [if_pos c1] at h
  refine N_bd 14 (decide_eq_true c1) ?_
  refine T_ed 22 [14] [(36, .bool true)] ?_
  refine T_tz 36 ?_
  refine T_srz 2 ?_
  exact T_nr 2 [6, 7] [vi 0, .bool false] hQ h
 rw [if_neg c1] at h
 refine N_bd 14 (decide_eq_false c1) ?_
 refine T_nd 4 [14] [(18, .bool (decide (gen > 4)))] ?_
 by_cases c3 : gen > 4
 ·rw [if_pos c3] at h
  refine N_bd 18 (decide_eq_true c3) ?_
  refine T_ed 18 [18] [(36, .bool true)] ?_
  refine T_tz 36 ?_
  refine T_srz 2 ?_
  exact T_nr 2 [6, 7] [vi 0, .bool false] hQ h
 rw [if_neg c3] at h
 refine N_bd 18 (decide_eq_false c3) ?_
 refine T_nd 4 [18] [(22, .bool (decide (kind < 0)))] ?_
 by_cases c5 : kind < 0
 ·rw [if_pos c5] at h
  refine N_bd 22 (decide_eq_true c5) ?_
  refine T_ed 14 [22] [(36, .bool true)] ?_
  refine T_tz 36 ?_
  refine T_srz 2 ?_
  exact T_nr 2 [6, 7] [vi 0, .bool false] hQ h
 rw [if_neg c5] at h
 refine N_bd 22 (decide_eq_false c5) ?_
 refine T_nd 4 [22] [(26, .bool (decide (kind > 3)))] ?_
 by_cases c7 : kind > 3
 ·rw [if_pos c7] at h
  refine N_bd 26 (decide_eq_true c7) ?_
  refine T_ed 10 [26] [(36, .bool true)] ?_
  refine T_tz 36 ?_
  refine T_srz 2 ?_
  exact T_nr 2 [6, 7] [vi 0, .bool false] hQ h
 rw [if_neg c7] at h
 refine N_bd 26 (decide_eq_false c7) ?_
 refine T_nd 5 [] [(28, vi gen), (29, vi kind), (31, vp (some (sA.add 1)))] ?_
 obtain ⟨q9, h⟩ := h
 refine T_v1 32 (indexAtN 57 (vp (some (sA.add 1))) (vi gen)) (vp (some ((sA.add 1).add (Int.toNat gen * 4)))) (fun w _ => indexArr_run (P := Tryz.prog) (t := 57) (elem := 56) (sz := 4) (n := 5) (a := (sA.add 1)) (k := .i64) (i := gen) Tryz.underlying57 (fun _=>by kernel_rfl) q9.1 q9.2 w) [28, 31] ?_
 obtain ⟨q10, h⟩ := h
 refine T_v1 33 (indexAtN 56 (vp (some ((sA.add 1).add (Int.toNat gen * 4)))) (vi kind)) (vp (some (((sA.add 1).add (Int.toNat gen * 4)).add (Int.toNat kind * 1)))) (fun w _ => indexArr_run (P := Tryz.prog) (t := 56) (elem := 3) (sz := 1) (n := 4) (a := ((sA.add 1).add (Int.toNat gen * 4))) (k := .i64) (i := kind) Tryz.underlying56 (fun _=>by kernel_rfl) q10.1 q10.2 w) [29, 32] ?_
 obtain ⟨x, q11, h⟩ := h
 refine T_l1 34 3 q11 [33] ?_
 refine T_ed 2 [26, 34] [(36, .bool (x == 0))] ?_
 by_cases c12 : x = 0
 ·rw [if_pos c12] at h
  refine T_cTz 36 (beq_iff_eq.mpr c12) ?_
  refine T_srz 2 ?_
  exact T_nr 2 [6, 7] [vi 0, .bool false] hQ h
 rw [if_neg c12] at h
 refine T_cFz 36 (beq_eq_false_iff_ne.mpr c12) ?_
 refine T_kt ?_
 refine T_srz 3 ?_
 refine T_n 5 [(38, vi gen), (39, vi kind), (41, vp (some (sA.add 1)))] ?_
 obtain ⟨q14, h⟩ := h
 refine T_v1 42 (indexAtN 57 (vp (some (sA.add 1))) (vi gen)) (vp (some ((sA.add 1).add (Int.toNat gen * 4)))) (fun w _ => indexArr_run (P := Tryz.prog) (t := 57) (elem := 56) (sz := 4) (n := 5) (a := (sA.add 1)) (k := .i64) (i := gen) Tryz.underlying57 (fun _=>by kernel_rfl) q14.1 q14.2 w) [38, 41] ?_
 obtain ⟨q15, h⟩ := h
 refine T_v1 43 (indexAtN 56 (vp (some ((sA.add 1).add (Int.toNat gen * 4)))) (vi kind)) (vp (some (((sA.add 1).add (Int.toNat gen * 4)).add (Int.toNat kind * 1)))) (fun w _ => indexArr_run (P := Tryz.prog) (t := 56) (elem := 3) (sz := 1) (n := 4) (a := ((sA.add 1).add (Int.toNat gen * 4))) (k := .i64) (i := kind) Tryz.underlying56 (fun _=>by kernel_rfl) q15.1 q15.2 w) [39, 42] ?_
 obtain ⟨b, q16, h⟩ := h
 refine T_l1 44 3 q16 [43] ?_
 exact T_nr 3 [6, 7] [vi (IntKind.wrap .i64 (b - 1)), .bool true] hQ h
end space_Space_Current

/-! moraine/card.New -/
namespace card_New
def K0 := Func.code Tryz.f24
end card_New
def card_New.pt (limit : Int) (H : Array Obj) (R : Value → Array Obj → Prop) : Prop :=
 space_New.C limit H (fun v H1 => ∃ (ra : Option Addr) (rb : Int), v = .tuple #[.pointer ra, .int .i64 rb] ∧ 
 if rb = 0 then (
 ∀ (b : Nat) (H2 : Array Obj), b = H1.size → H2 = H1.push (.cells #[.pointer ra] 54) →
 R (.tuple #[.pointer (some (ad b)), .int .i64 0]) H2)
 else
 R (.tuple #[.pointer none, .int .i64 rb]) H1)
namespace card_New
theorem link {limit : Int} {H : Array Obj} {R : Value → Array Obj → Prop} (h : pt limit H R) : C limit H R := by
 refine T_en K0 17 Tryz.func24 ?_
 intro w0 Q hQ
 unfold pt at h
 refine T_su [(0, vi limit)] ?_
 refine T_srz 0 ?_
 refine T_ed 2 [] [] ?_
 refine T_srz 1 ?_
 refine T_n 1 [(7, vi limit)] ?_
 refine T_c (some 8) h ?_; clear h
 rintro v H1 ⟨ra, rb, rfl, h⟩
 refine ⟨[(8, .tuple #[vp ra, vi rb])], pk, ?_⟩
 refine T_ne 5 [(4, vp ra), (5, vi rb)] ?_
 refine T_sz ?_
 refine T_srz 2 ?_
 refine T_ed 2 [] [(12, .bool (rb != 0))] ?_
 by_cases c1 : rb = 0
 ·rw [if_pos c1] at h
  refine T_cFz 12 (bne_eq_false_iff_eq.mpr c1) ?_
  refine T_kt ?_
  refine T_srz 4 ?_
  refine T_n 2 [(15, .agg #[vp ra])] ?_
  refine T_nw (some 16) (fun b => vp (pa b)) (.cells #[vp ra] 54) ?_
  intro b H2 e3 e4
  replace h := h b H2 e3 e4
  refine ⟨[(16, vp (pa b))], pk, ?_⟩
  exact T_nr 2 [2, 3] [vp (pa b), vi 0] hQ h
 rw [if_neg c1] at h
 refine T_cTz 12 (bne_iff_ne.mpr c1) ?_
 refine T_srz 3 ?_
 exact T_nr 3 [2, 3] [vp none, vi rb] hQ h
end card_New

/-! (*moraine/card.Cards).Store -/
namespace card_Cards_Store
def K0 := Func.code Tryz.f62
def K2 := cb K0
def K4 := cb K2
def K12 := cb K4
def K20 := cb K12
def K22 := cb K20
def K23 := ca K22
end card_Cards_Store
def card_Cards_Store.pt (c : Option Addr) (addr : Int) (wv : Int) (H : Array Obj) (R : Value → Array Obj → Prop) : Prop :=
 card_Cards_none.C c H (fun v H1 => ∃ x : Bool, v = .bool x ∧ 
 if x = true then (
 R (.int .i64 18) H1)
 else
 ∃ cA : Addr, c = some cA ∧
 ∃ al : Option Addr, hat H1 cA = some (.pointer al) ∧
 ∃ ak : Addr, al = some ak ∧
 ∃ af : Option Addr, hat H1 ak = some (.pointer af) ∧
 seg_Mem_Write.C af addr wv H1 (fun aq H2 => ∃ aa : Int, aq = .int .i64 aa ∧ 
 if aa = 0 then (
 ∃ aj : Option Addr, hat H2 cA = some (.pointer aj) ∧
 ∃ ai : Addr, aj = some ai ∧
 ∃ ag : Option Addr, hat H2 ai = some (.pointer ag) ∧
 seg_Mem_Seg.C ag (IntKind.wrap .i64 (Int.tdiv addr 64)) H2 (fun ap H3 => ∃ (z r ac m o j p : Int) (rb : Bool), ap = .tuple #[.agg #[.int .i64 z, .int .i64 r, .int .i64 ac, .int .i64 m, .int .i64 o, .int .i64 j, .int .i64 p], .bool rb] ∧ 
 ∀ (b : Nat) (H4 : Array Obj), b = H3.size → H4 = H3.push (.cells #[.int .i64 0, .int .i64 0, .int .i64 0, .int .i64 0, .int .i64 0, .int .i64 0, .int .i64 0] 103) →
 (CanPuts H4 (ad b) 0 7) ∧ ∀ H5, H5 = hputs H4 (ad b) [.int .i64 z, .int .i64 r, .int .i64 ac, .int .i64 m, .int .i64 o, .int .i64 j, .int .i64 p] 0 →
 ∃ am : Option Addr, hat H5 cA = some (.pointer am) ∧
 ∃ y : Addr, am = some y ∧
 ∃ s : Option Addr, hat H5 y = some (.pointer s) ∧
 ∃ u q xN e d f g : Int, RowAt H5 (ad b) 0 [.int .i64 u, .int .i64 q, .int .i64 xN, .int .i64 e, .int .i64 d, .int .i64 f, .int .i64 g] ∧
 ((0 : Int) ≤ (IntKind.wrap .i64 (Int.tdiv (Int.tmod addr 64) 16)) ∧ (IntKind.wrap .i64 (Int.tdiv (Int.tmod addr 64) 16)) < (4 : Int)) ∧
 ∃ ah : Int, hat H5 (((ad b).add 3).add (Int.toNat (IntKind.wrap .i64 (Int.tdiv (Int.tmod addr 64) 16)) * 1)) = some (.int .i64 ah) ∧
 card_Cards_younger.C (some cA) u q xN e d f g wv ah H5 (fun ao H6 => ∃ ae : Int, ao = .int .i64 ae ∧ RowAt H6 cA 0 [.pointer (some y)] ∧ RowAt H6 y 0 [.pointer s] ∧ 
 seg_Mem_Mark.C s (IntKind.wrap .i64 (Int.tdiv addr 64)) (IntKind.wrap .i64 (Int.tdiv (Int.tmod addr 64) 16)) ae H6 (fun an H7 => ∃ ab : Int, an = .int .i64 ab ∧ 
 R (.int .i64 ab) H7))))
 else
 R (.int .i64 aa) H2))
namespace card_Cards_Store
theorem link {c : Option Addr} {addr : Int} {wv : Int} {H : Array Obj} {R : Value → Array Obj → Prop} (h : pt c addr wv H R) : C c addr wv H R := by
 refine T_en K0 62 Tryz.func62 ?_
 intro w0 Q hQ
 unfold pt at h
 refine T_su [(0, vp c), (1, vi addr), (2, vu wv)] ?_
 refine T_srz 0 ?_
 refine T_ed 1 [] [] ?_
 refine T_sz ?_
 refine T_srz 1 ?_
 refine T_nd 1 [] [(12, vp c)] ?_
 refine T_c (some 13) h ?_; clear h
 rintro v H1 ⟨x, rfl, h⟩
 refine T_pd [12] [(13, .bool x)] ?_
 refine T_e ?_
 by_cases c1 : x = true
 ·rw [if_pos c1] at h
  refine T_cTz 13 c1 ?_
  refine T_srz 2 ?_
  exact T_nr 1 [6] [vi 18] hQ h
 rw [if_neg c1] at h
 refine T_cFz 13 (eq_false_of_ne_true c1) ?_
 refine T_kt ?_
 refine T_sz ?_
 refine T_srz 3 ?_
 refine T_nd 1 [13] [(14, vp c)] ?_
 obtain ⟨cA, rfl, h⟩ := h
 refine T_nd 2 [0, 14] [(0, vp (some cA)), (16, vp (some cA))] ?_
 obtain ⟨al, q3, h⟩ := h
 refine T_l1 17 52 q3 [16] ?_
 obtain ⟨ak, rfl, h⟩ := h
 refine T_nd 2 [17] [(19, vp (some ak))] ?_
 obtain ⟨af, q4, h⟩ := h
 refine T_l1 20 55 q4 [19] ?_
 refine T_nd 2 [] [(21, vi addr), (22, vu wv)] ?_
 refine T_c (some 23) h ?_; clear h
 rintro aq H2 ⟨aa, rfl, h⟩
 refine T_pd [20, 21, 22] [(23, vi aa)] ?_
 refine T_ed 1 [23] [(7, vi aa)] ?_
 refine T_srz 4 ?_
 refine T_ed 2 [] [(25, .bool (aa != 0))] ?_
 by_cases c5 : aa = 0
 ·rw [if_pos c5] at h
  refine T_cFz 25 (bne_eq_false_iff_eq.mpr c5) ?_
  refine T_kt ?_
  refine T_srz 6 ?_
  refine T_ed 7 [1, 7, 25] [(8, vi (IntKind.wrap .i64 (Int.tdiv addr 64))), (9, vi (IntKind.wrap .i64 (Int.tdiv (Int.tmod addr 64) 16)))] ?_
  refine T_srz 7 ?_
  refine T_nd 3 [] [(35, vp (some cA))] ?_
  obtain ⟨aj, q7, h⟩ := h
  refine T_l1 36 52 q7 [35] ?_
  obtain ⟨ai, rfl, h⟩ := h
  refine T_nd 2 [36] [(38, vp (some ai))] ?_
  obtain ⟨ag, q8, h⟩ := h
  refine T_l1 39 55 q8 [38] ?_
  refine T_nd 1 [] [(40, vi (IntKind.wrap .i64 (Int.tdiv addr 64)))] ?_
  refine T_c (some 41) h ?_; clear h
  rintro ap H3 ⟨z, r, ac, m, o, j, p, rb, rfl, h⟩
  refine T_pd [39, 40] [(41, .tuple #[.agg #[vi z, vi r, vi ac, vi m, vi o, vi j, vi p], .bool rb])] ?_
  refine T_nd 3 [41] [(42, .agg #[vi z, vi r, vi ac, vi m, vi o, vi j, vi p]), (43, .bool rb)] ?_
  refine T_nw (some 10) (fun b => vp (pa b)) (.cells #[vi 0, vi 0, vi 0, vi 0, vi 0, vi 0, vi 0] 103) ?_
  intro b H4 e9 e10
  replace h := h b H4 e9 e10
  refine T_pd [] [(10, vp (pa b))] ?_
  obtain ⟨q12, h⟩ := h
  refine T_sta 103 [vi z, vi r, vi ac, vi m, vi o, vi j, vi p] q12 ?_
  intro H5 e11
  replace h := h H5 e11
  refine T_pd [42] [] ?_
  refine T_ed 1 [43] [] ?_
  refine T_sz ?_
  obtain ⟨am, q13, h⟩ := h
  obtain ⟨y, rfl, h⟩ := h
  obtain ⟨s, q14, h⟩ := h
  obtain ⟨u, q, xN, e, d, f, g, q15, h⟩ := h
  obtain ⟨q16, h⟩ := h
  obtain ⟨ah, q17, h⟩ := h
  refine S_regionG 8 (Code.ops K23) [(17, cA, [vp (some y)]), (17, y, [vp s]), (16, (ad b), [vi u, vi q, vi xN, vi e, vi d, vi f, vi g]), (16, (((ad b).add 3).add (Int.toNat (IntKind.wrap .i64 (Int.tdiv (Int.tmod addr 64) 16)) * 1)), [vi ah])] 19 (bv 19 0) (by kernel_rfl) (by kernel_rfl) (by kernel_rfl) (by kernel_rfl) (by kernel_rfl) (show FactsAt _ _ _ from ⟨⟨q13, trivial⟩, ⟨q14, trivial⟩, q15, ⟨q17, trivial⟩, trivial⟩) ?_
  refine T_gp 0 (some 44) (vp (some cA)) (bv 19 1) [(0, vp (some cA)), (2, vu wv), (8, vi (IntKind.wrap .i64 (Int.tdiv addr 64))), (9, vi (IntKind.wrap .i64 (Int.tdiv (Int.tmod addr 64) 16))), (10, vp (pa b)), (44, vp (some cA))] ?_
  refine T_gp1 1 45 (vp (some cA)) (bv 19 3) [44] ?_
  refine T_gp1 2 46 (vp (some cA)) (bv 19 7) [45] ?_
  refine T_g1 3 47 (vp (some y)) (bv 19 15) [46] (loadN 52 (vp (some cA))) (held_one 17 (fun _=>by kernel_rfl) (List.Mem.head _) (.inl (by kernel_rfl))) ?_
  refine T_gp1 4 48 (vp (some y)) (bv 19 31) [47] ?_
  refine T_gp1 5 49 (vp (some y)) (bv 19 63) [48] ?_
  refine T_g1 6 50 (vp s) (bv 19 127) [49] (loadN 55 (vp (some y))) (held_one 17 (fun _=>by kernel_rfl) (List.Mem.tail _ (List.Mem.head _)) (.inl (by kernel_rfl))) ?_
  refine T_gp1 7 51 (vi (IntKind.wrap .i64 (Int.tdiv addr 64))) (bv 19 255) [8] ?_
  refine T_gp1 8 52 (vi (IntKind.wrap .i64 (Int.tdiv (Int.tmod addr 64) 16))) (bv 19 511) [] ?_
  refine T_gp1 9 53 (vp (some cA)) (bv 19 1023) [0] ?_
  refine T_g1 10 54 (.agg #[vi u, vi q, vi xN, vi e, vi d, vi f, vi g]) (bv 19 2047) [] (loadN 103 (vp (pa b))) (held_row 16 (fun _=>by kernel_rfl) (fun _=>by kernel_rfl) (List.Mem.tail _ (List.Mem.tail _ (List.Mem.head _))) (.inl (by kernel_rfl))) ?_
  refine T_gp1 11 55 (vu wv) (bv 19 4095) [2] ?_
  refine T_gp1 12 56 (vi (IntKind.wrap .i64 (Int.tdiv (Int.tmod addr 64) 16))) (bv 19 8191) [9] ?_
  refine T_gp1 13 57 (vp (some ((ad b).add 3))) (bv 19 16383) [10] ?_
  refine T_g1 14 58 (vp (some (((ad b).add 3).add (Int.toNat (IntKind.wrap .i64 (Int.tdiv (Int.tmod addr 64) 16)) * 1)))) (bv 19 32767) [56, 57] (indexAtN 56 (vp (some ((ad b).add 3))) (vi (IntKind.wrap .i64 (Int.tdiv (Int.tmod addr 64) 16)))) (fun _ w _ _ _ => indexArr_run (P := Tryz.prog) (t := 56) (elem := 3) (sz := 1) (n := 4) (a := ((ad b).add 3)) (k := .i64) (i := (IntKind.wrap .i64 (Int.tdiv (Int.tmod addr 64) 16))) Tryz.underlying56 (fun _=>by kernel_rfl) q16.1 q16.2 w) ?_
  refine T_g1 15 59 (vi ah) (bv 19 65535) [58] (loadN 3 (vp (some (((ad b).add 3).add (Int.toNat (IntKind.wrap .i64 (Int.tdiv (Int.tmod addr 64) 16)) * 1))))) (held_one 16 (fun _=>by kernel_rfl) (List.Mem.tail _ (List.Mem.tail _ (List.Mem.tail _ (List.Mem.head _)))) (.inl (by kernel_rfl))) ?_
  refine G_call 16 (some 60) (bv 19 131071) 100 #[vp (some cA), .agg #[vi u, vi q, vi xN, vi e, vi d, vi f, vi g], vu wv, vi ah] (by kernel_rfl) (fun _=>by kernel_rfl) h (by kernel_rfl) ?_; clear h
  rintro ao H6 ⟨ae, rfl, h⟩
  obtain ⟨f18, f19, h⟩ := h
  refine ⟨[(50, vp s), (51, vi (IntKind.wrap .i64 (Int.tdiv addr 64))), (52, vi (IntKind.wrap .i64 (Int.tdiv (Int.tmod addr 64) 16))), (60, vi ae)], pk, (show FactsAt _ _ _ from ⟨f18, f19, trivial, trivial, trivial⟩), ?_⟩
  refine G_call 17 (some 61) (bv 19 262143) 99 #[vp s, vi (IntKind.wrap .i64 (Int.tdiv addr 64)), vi (IntKind.wrap .i64 (Int.tdiv (Int.tmod addr 64) 16)), vi ae] (by kernel_rfl) (fun _=>by kernel_rfl) h (by kernel_rfl) ?_; clear h
  rintro an H7 ⟨ab, rfl, h⟩
  refine ⟨[(61, vi ab)], pk, (show FactsAt _ _ _ from ⟨trivial, trivial, trivial, trivial, trivial⟩), ?_⟩
  refine T_g 18 (some 6) (vi ab) (bv 19 524287) [(6, vi ab)] (pure (.value (vi ab)) : Sem Next) (fun _ _ _ _ _ => rfl) ?_
  refine G_sub [(6, vi ab)] sk ?_
  refine G_end (by kernel_rfl) ?_
  refine S_then ?_
  exact T_ret [6] [vi ab] hQ h
 rw [if_neg c5] at h
 refine T_cTz 25 (bne_iff_ne.mpr c5) ?_
 refine T_srz 5 ?_
 exact T_nr 2 [6] [vi aa] hQ h
end card_Cards_Store

/-! (*moraine/card.Cards).none -/
namespace card_Cards_none
def K0 := Func.code Tryz.f98
end card_Cards_none
def card_Cards_none.pt (c : Option Addr) (H : Array Obj) (R : Value → Array Obj → Prop) : Prop :=
 onPtr c (
 R (.bool true) H) (fun cA =>
 ∃ x : Option Addr, hat H cA = some (.pointer x) ∧
 onPtr x (
 R (.bool true) H) (fun xA =>
 ∃ d : Option Addr, hat H cA = some (.pointer d) ∧
 ∃ b : Addr, d = some b ∧
 ∃ a : Option Addr, hat H b = some (.pointer a) ∧
 onPtr a (
 R (.bool true) H) (fun e =>
 R (.bool false) H)))
namespace card_Cards_none
theorem link {c : Option Addr} {H : Array Obj} {R : Value → Array Obj → Prop} (h : pt c H R) : C c H R := by
 refine T_en K0 22 Tryz.func98 ?_
 intro w0 Q hQ
 unfold pt at h
 refine T_su [(0, vp c)] ?_
 refine T_srz 0 ?_
 refine T_ed 1 [] [] ?_
 refine T_srz 1 ?_
 refine T_nd 1 [] [(3, vp c)] ?_
 rcases c with _ | cA
 ·rw [onPtr_none] at h
  exact T_nr 19 [2] [.bool true] hQ h
 rw [onPtr_some] at h
 refine T_n 5 [(0, vp (some cA)), (5, .bool false), (8, vp (some cA))] ?_
 obtain ⟨x, q1, h⟩ := h
 refine T_l1 9 52 q1 [8] ?_
 rcases x with _ | xA
 ·rw [onPtr_none] at h
  exact T_nr 13 [2] [.bool true] hQ h
 rw [onPtr_some] at h
 refine T_n 6 [(12, .bool false), (15, vp (some cA))] ?_
 obtain ⟨d, q2, h⟩ := h
 refine T_l1 16 52 q2 [15] ?_
 obtain ⟨b, rfl, h⟩ := h
 refine T_nd 2 [16] [(18, vp (some b))] ?_
 obtain ⟨a, q3, h⟩ := h
 refine T_l1 19 55 q3 [18] ?_
 rcases a with _ | e
 ·rw [onPtr_none] at h
  exact T_nr 3 [2] [.bool true] hQ h
 rw [onPtr_some] at h
 exact T_nr 3 [2] [.bool false] hQ h
end card_Cards_none

/-! (*moraine/card.Cards).younger -/
namespace card_Cards_younger
def K0 := Func.code Tryz.f100
end card_Cards_younger
def card_Cards_younger.pt (c : Option Addr) (sGen : Int) (sKind : Int) (sN : Int) (sCardsi0 : Int) (sCardsi1 : Int) (sCardsi2 : Int) (sCardsi3 : Int) (wv : Int) (mark : Int) (H : Array Obj) (R : Value → Array Obj → Prop) : Prop :=
 ∀ (b : Nat) (H1 : Array Obj), b = H.size → H1 = H.push (.cells #[.int .i64 sGen, .int .i64 sKind, .int .i64 sN, .int .i64 sCardsi0, .int .i64 sCardsi1, .int .i64 sCardsi2, .int .i64 sCardsi3] 103) →
 card_Cards_Gen.C c wv H1 (fun v H2 => ∃ (ra : Int) (rb : Bool), v = .tuple #[.int .i64 ra, .bool rb] ∧ 
 if rb = true then (
 ∃ x : Int, hat H2 ((ad b).add 1) = some (.int .i64 x) ∧
 if x = 3 then (
 R (.int .i64 mark) H2)
 else
 ∃ a : Int, hat H2 (ad b) = some (.int .i64 a) ∧
 if ra < a then (
 R (.int .i64 (if ra < mark then ra else mark)) H2)
 else
 R (.int .i64 mark) H2)
 else
 R (.int .i64 mark) H2)
namespace card_Cards_younger
theorem link {c : Option Addr} {sGen : Int} {sKind : Int} {sN : Int} {sCardsi0 : Int} {sCardsi1 : Int} {sCardsi2 : Int} {sCardsi3 : Int} {wv : Int} {mark : Int} {H : Array Obj} {R : Value → Array Obj → Prop} (h : pt c sGen sKind sN sCardsi0 sCardsi1 sCardsi2 sCardsi3 wv mark H R) : C c sGen sKind sN sCardsi0 sCardsi1 sCardsi2 sCardsi3 wv mark H R := by
 refine T_en K0 33 Tryz.func100 ?_
 intro w0 Q hQ
 unfold pt at h
 refine T_su [(0, vp c), (1, .agg #[vi sGen, vi sKind, vi sN, vi sCardsi0, vi sCardsi1, vi sCardsi2, vi sCardsi3]), (2, vu wv), (3, vi mark)] ?_
 refine T_srz 0 ?_
 refine T_nw (some 5) (fun b => vp (pa b)) (.cells #[vi sGen, vi sKind, vi sN, vi sCardsi0, vi sCardsi1, vi sCardsi2, vi sCardsi3] 103) ?_
 intro b H1 e1 e2
 replace h := h b H1 e1 e2
 refine T_pd [1] [(5, vp (pa b))] ?_
 refine T_ed 1 [] [] ?_
 refine T_sz ?_
 refine T_srz 1 ?_
 refine T_nd 2 [0, 2] [(12, vp c), (13, vu wv)] ?_
 refine T_c (some 14) h ?_; clear h
 rintro v H2 ⟨ra, rb, rfl, h⟩
 refine T_pd [12, 13] [(14, .tuple #[vi ra, .bool rb])] ?_
 refine T_ed 5 [14] [(9, vi ra), (10, .bool rb)] ?_
 refine T_srz 2 ?_
 refine T_nd 2 [10] [(18, .bool rb)] ?_
 by_cases c3 : rb = true
 ·rw [if_pos c3] at h
  refine N_bd 18 c3 ?_
  refine T_nd 1 [] [(19, vp (some ((ad b).add 1)))] ?_
  obtain ⟨x, q5, h⟩ := h
  refine T_l1 20 3 q5 [19] ?_
  refine T_nd 3 [18, 20] [(23, .bool (x != 3))] ?_
  by_cases c6 : x = 3
  ·rw [if_pos c6] at h
   refine N_bd 23 (bne_eq_false_iff_eq.mpr c6) ?_
   refine T_ed 5 [5, 23] [(28, .bool false)] ?_
   refine T_fz 28 ?_
   refine T_kt ?_
   refine T_srz 4 ?_
   exact T_nr 2 [8] [vi mark] hQ h
  rw [if_neg c6] at h
  refine N_bd 23 (bne_iff_ne.mpr c6) ?_
  refine T_nd 2 [5] [(24, vi ra), (25, vp (pa b))] ?_
  obtain ⟨a, q8, h⟩ := h
  refine T_l1 26 3 q8 [25] ?_
  refine T_ed 2 [23, 24, 26] [(28, .bool (decide (ra < a)))] ?_
  by_cases c9 : ra < a
  ·rw [if_pos c9] at h
   refine T_cTz 28 (decide_eq_true c9) ?_
   refine T_srz 3 ?_
   exact T_nr 4 [8] [vi (if ra < mark then ra else mark)] hQ h
  rw [if_neg c9] at h
  refine T_cFz 28 (decide_eq_false c9) ?_
  refine T_kt ?_
  refine T_srz 4 ?_
  exact T_nr 2 [8] [vi mark] hQ h
 rw [if_neg c3] at h
 refine N_bd 18 (eq_false_of_ne_true c3) ?_
 refine T_ed 10 [5, 18] [(28, .bool false)] ?_
 refine T_fz 28 ?_
 refine T_kt ?_
 refine T_srz 4 ?_
 exact T_nr 2 [8] [vi mark] hQ h
end card_Cards_younger

/-! (*moraine/card.Cards).Gen -/
namespace card_Cards_Gen
def K0 := Func.code Tryz.f126
end card_Cards_Gen
def card_Cards_Gen.pt (c : Option Addr) (wv : Int) (H : Array Obj) (R : Value → Array Obj → Prop) : Prop :=
 word_Addr.C wv H (fun v H1 => ∃ (ra : Int) (rb : Bool), v = .tuple #[.int .i64 ra, .bool rb] ∧ 
 card_Cards_none.C c H1 (fun u H2 => ∃ x : Bool, u = .bool x ∧ 
 if x = true then (
 R (.tuple #[.int .i64 0, .bool false]) H2)
 else
 if rb = true then (
 word_Tag.C wv H2 (fun t H3 => ∃ m : Int, t = .int .i64 m ∧ 
 if m = 6 then (
 R (.tuple #[.int .i64 0, .bool false]) H3)
 else
 ∃ cA : Addr, c = some cA ∧
 ∃ r : Option Addr, hat H3 cA = some (.pointer r) ∧
 ∃ q : Addr, r = some q ∧
 ∃ o : Option Addr, hat H3 q = some (.pointer o) ∧
 seg_Mem_Seg.C o (IntKind.wrap .i64 (Int.tdiv ra 64)) H3 (fun s H4 => ∃ (j g k d e a f : Int) (i : Bool), s = .tuple #[.agg #[.int .i64 j, .int .i64 g, .int .i64 k, .int .i64 d, .int .i64 e, .int .i64 a, .int .i64 f], .bool i] ∧ 
 ∀ (b : Nat) (H5 : Array Obj), b = H4.size → H5 = H4.push (.cells #[.int .i64 0, .int .i64 0, .int .i64 0, .int .i64 0, .int .i64 0, .int .i64 0, .int .i64 0] 103) →
 (CanPuts H5 (ad b) 0 7) ∧ ∀ H6, H6 = hputs H5 (ad b) [.int .i64 j, .int .i64 g, .int .i64 k, .int .i64 d, .int .i64 e, .int .i64 a, .int .i64 f] 0 →
 ∃ p : Int, hat H6 (ad b) = some (.int .i64 p) ∧
 R (.tuple #[.int .i64 p, .bool i]) H6)))
 else
 R (.tuple #[.int .i64 0, .bool false]) H2))
namespace card_Cards_Gen
theorem link {c : Option Addr} {wv : Int} {H : Array Obj} {R : Value → Array Obj → Prop} (h : pt c wv H R) : C c wv H R := by
 refine T_en K0 41 Tryz.func126 ?_
 intro w0 Q hQ
 unfold pt at h
 refine T_su [(0, vp c), (1, vu wv)] ?_
 refine T_srz 0 ?_
 refine T_ed 2 [] [] ?_
 refine T_srz 1 ?_
 refine T_nd 1 [] [(10, vu wv)] ?_
 refine T_c (some 11) h ?_; clear h
 rintro v H1 ⟨ra, rb, rfl, h⟩
 refine T_pd [10] [(11, .tuple #[vi ra, .bool rb])] ?_
 refine T_ed 5 [11] [(6, vi ra), (7, .bool rb)] ?_
 refine T_sz ?_
 refine T_srz 2 ?_
 refine T_nd 1 [] [(14, vp c)] ?_
 refine T_c (some 15) h ?_; clear h
 rintro u H2 ⟨x, rfl, h⟩
 refine T_pd [14] [(15, .bool x)] ?_
 refine T_nd 1 [15] [(16, .bool x)] ?_
 by_cases c1 : x = true
 ·rw [if_pos c1] at h
  refine N_bd 16 c1 ?_
  refine T_ed 8 [1, 7, 16] [(24, .bool true)] ?_
  refine T_tz 24 ?_
  refine T_srz 3 ?_
  exact T_nr 2 [4, 5] [vi 0, .bool false] hQ h
 rw [if_neg c1] at h
 refine N_bd 16 (eq_false_of_ne_true c1) ?_
 refine T_nd 4 [7, 16] [(20, .bool (!rb))] ?_
 by_cases c3 : rb = true
 ·rw [if_pos c3] at h
  have b4 : (!rb) = false := congrArg Bool.not (c3)
  have b42 : rb = true := c3
  refine N_bd 20 (b := (!rb)) (v := false) (by simp only [b4, b42, Bool.not_true, Bool.not_false]) ?_
  clear b4 b42
  refine T_nd 1 [1] [(21, vu wv)] ?_
  refine T_c (some 22) h ?_; clear h
  rintro t H3 ⟨m, rfl, h⟩
  refine T_pd [21] [(22, vi m)] ?_
  refine T_ed 2 [20, 22] [(24, .bool (m == 6))] ?_
  by_cases c5 : m = 6
  ·rw [if_pos c5] at h
   refine T_cTz 24 (beq_iff_eq.mpr c5) ?_
   refine T_srz 3 ?_
   exact T_nr 2 [4, 5] [vi 0, .bool false] hQ h
  rw [if_neg c5] at h
  refine T_cFz 24 (beq_eq_false_iff_ne.mpr c5) ?_
  refine T_kt ?_
  refine T_srz 4 ?_
  refine T_nd 1 [0, 24] [(26, vp c)] ?_
  obtain ⟨cA, rfl, h⟩ := h
  refine T_nd 2 [26] [(28, vp (some cA))] ?_
  obtain ⟨r, q7, h⟩ := h
  refine T_l1 29 52 q7 [28] ?_
  obtain ⟨q, rfl, h⟩ := h
  refine T_nd 2 [29] [(31, vp (some q))] ?_
  obtain ⟨o, q8, h⟩ := h
  refine T_l1 32 55 q8 [31] ?_
  refine T_nd 2 [6] [(34, vi (IntKind.wrap .i64 (Int.tdiv ra 64)))] ?_
  refine T_c (some 35) h ?_; clear h
  rintro s H4 ⟨j, g, k, d, e, a, f, i, rfl, h⟩
  refine ⟨[(35, .tuple #[.agg #[vi j, vi g, vi k, vi d, vi e, vi a, vi f], .bool i])], pk, ?_⟩
  refine T_n 3 [(36, .agg #[vi j, vi g, vi k, vi d, vi e, vi a, vi f]), (37, .bool i)] ?_
  refine T_nw (some 8) (fun b => vp (pa b)) (.cells #[vi 0, vi 0, vi 0, vi 0, vi 0, vi 0, vi 0] 103) ?_
  intro b H5 e9 e10
  replace h := h b H5 e9 e10
  refine T_pd [] [(8, vp (pa b))] ?_
  obtain ⟨q12, h⟩ := h
  refine T_sta 103 [vi j, vi g, vi k, vi d, vi e, vi a, vi f] q12 ?_
  intro H6 e11
  replace h := h H6 e11
  refine T_pd [36] [] ?_
  refine T_ed 1 [37] [(7, .bool i)] ?_
  refine T_srz 5 ?_
  refine T_nd 1 [8] [(38, vp (pa b))] ?_
  obtain ⟨p, q13, h⟩ := h
  refine T_l1 39 3 q13 [38] ?_
  exact T_nr 3 [4, 5] [vi p, .bool i] hQ h
 rw [if_neg c3] at h
 have b4 : (!rb) = true := congrArg Bool.not (eq_false_of_ne_true c3)
 have b42 : rb = false := eq_false_of_ne_true c3
 refine N_bd 20 (b := (!rb)) (v := true) (by simp only [b4, b42, Bool.not_true, Bool.not_false]) ?_
 clear b4 b42
 refine T_ed 4 [1, 20] [(24, .bool true)] ?_
 refine T_tz 24 ?_
 refine T_srz 3 ?_
 exact T_nr 2 [4, 5] [vi 0, .bool false] hQ h
end card_Cards_Gen

/-! (*moraine/obj.Heap).SetCar -/
namespace obj_Heap_SetCar
def K0 := Func.code Tryz.f11
end obj_Heap_SetCar
def obj_Heap_SetCar.pt (hv : Option Addr) (wv : Int) (v : Int) (H : Array Obj) (R : Value → Array Obj → Prop) : Prop :=
 obj_Heap_set.C hv wv 0 v H (fun a H1 => ∃ x : Int, a = .int .i64 x ∧ 
 R (.int .i64 x) H1)
namespace obj_Heap_SetCar
theorem link {hv : Option Addr} {wv : Int} {v : Int} {H : Array Obj} {R : Value → Array Obj → Prop} (h : pt hv wv v H R) : C hv wv v H R := by
 refine T_en K0 11 Tryz.func11 ?_
 intro w0 Q hQ
 unfold pt at h
 refine T_su [(0, vp hv), (1, vu wv), (2, vu v)] ?_
 refine T_srz 0 ?_
 refine T_ed 1 [] [] ?_
 refine T_srz 1 ?_
 refine T_n 3 [(7, vp hv), (8, vu wv), (9, vu v)] ?_
 refine T_c (some 10) h ?_; clear h
 rintro a H1 ⟨x, rfl, h⟩
 refine ⟨[(10, vi x)], pk, ?_⟩
 exact T_nr 1 [6] [vi x] hQ h
end obj_Heap_SetCar

/-! (*moraine/obj.Heap).Car -/
namespace obj_Heap_Car
def K0 := Func.code Tryz.f23
end obj_Heap_Car
def obj_Heap_Car.pt (hv : Option Addr) (wv : Int) (H : Array Obj) (R : Value → Array Obj → Prop) : Prop :=
 obj_Heap_half.C hv wv 0 H (fun v H1 => ∃ ra rb : Int, v = .tuple #[.int .u64 ra, .int .i64 rb] ∧ 
 R (.tuple #[.int .u64 ra, .int .i64 rb]) H1)
namespace obj_Heap_Car
theorem link {hv : Option Addr} {wv : Int} {H : Array Obj} {R : Value → Array Obj → Prop} (h : pt hv wv H R) : C hv wv H R := by
 refine T_en K0 11 Tryz.func23 ?_
 intro w0 Q hQ
 unfold pt at h
 refine T_su [(0, vp hv), (1, vu wv)] ?_
 refine T_srz 0 ?_
 refine T_ed 2 [] [] ?_
 refine T_srz 1 ?_
 refine T_n 2 [(6, vp hv), (7, vu wv)] ?_
 refine T_c (some 8) h ?_; clear h
 rintro v H1 ⟨ra, rb, rfl, h⟩
 refine ⟨[(8, .tuple #[vu ra, vi rb])], pk, ?_⟩
 exact T_nr 4 [4, 5] [vu ra, vi rb] hQ h
end obj_Heap_Car

/-! (*moraine/obj.Heap).Cons -/
namespace obj_Heap_Cons
def K0 := Func.code Tryz.f32
end obj_Heap_Cons
def obj_Heap_Cons.pt (hv : Option Addr) (car : Int) (cdr : Int) (H : Array Obj) (R : Value → Array Obj → Prop) : Prop :=
 ∀ (b : Nat) (H1 : Array Obj), b = H.size → H1 = H.push (.cells #[.int .u64 car, .int .u64 cdr] 35) →
 obj_Heap_put.C hv 0 1 (some (ad b)) 2 2 H1 (fun v H2 => ∃ ra rb : Int, v = .tuple #[.int .u64 ra, .int .i64 rb] ∧ 
 R (.tuple #[.int .u64 ra, .int .i64 rb]) H2)
namespace obj_Heap_Cons
theorem link {hv : Option Addr} {car : Int} {cdr : Int} {H : Array Obj} {R : Value → Array Obj → Prop} (h : pt hv car cdr H R) : C hv car cdr H R := by
 refine T_en K0 15 Tryz.func32 ?_
 intro w0 Q hQ
 unfold pt at h
 refine T_su [(0, vp hv), (1, vu car), (2, vu cdr)] ?_
 refine T_srz 0 ?_
 refine T_ed 2 [] [] ?_
 refine T_srz 1 ?_
 refine T_n 3 [(8, vp hv), (9, vu car), (10, vu cdr)] ?_
 refine T_nw (some 11) (fun b => vs (pa b) 2 2) (.cells #[vu car, vu cdr] 35) ?_
 intro b H1 e1 e2
 replace h := h b H1 e1 e2
 refine T_pd [9, 10] [(11, vs (pa b) 2 2)] ?_
 refine T_c (some 12) h ?_; clear h
 rintro v H2 ⟨ra, rb, rfl, h⟩
 refine ⟨[(12, .tuple #[vu ra, vi rb])], pk, ?_⟩
 exact T_nr 4 [6, 7] [vu ra, vi rb] hQ h
end obj_Heap_Cons

/-! (*moraine/obj.Heap).set -/
namespace obj_Heap_set
def K0 := Func.code Tryz.f33
end obj_Heap_set
def obj_Heap_set.pt (hv : Option Addr) (wv : Int) (i : Int) (v : Int) (H : Array Obj) (R : Value → Array Obj → Prop) : Prop :=
 obj_Heap_pair.C hv wv H (fun e H1 => ∃ (ra : Int) (rb : Bool), e = .tuple #[.int .i64 ra, .bool rb] ∧ 
 if rb = true then (
 ∃ b : Addr, hv = some b ∧
 ∃ x : Option Addr, hat H1 b = some (.pointer x) ∧
 card_Cards_Store.C x (IntKind.wrap .i64 (ra + i)) v H1 (fun d H2 => ∃ a : Int, d = .int .i64 a ∧ 
 R (.int .i64 a) H2))
 else
 R (.int .i64 3) H1)
namespace obj_Heap_set
theorem link {hv : Option Addr} {wv : Int} {i : Int} {v : Int} {H : Array Obj} {R : Value → Array Obj → Prop} (h : pt hv wv i v H R) : C hv wv i v H R := by
 refine T_en K0 28 Tryz.func33 ?_
 intro w0 Q hQ
 unfold pt at h
 refine T_su [(0, vp hv), (1, vu wv), (2, vi i), (3, vu v)] ?_
 refine T_srz 0 ?_
 refine T_ed 1 [] [] ?_
 refine T_srz 1 ?_
 refine T_nd 2 [1] [(12, vp hv), (13, vu wv)] ?_
 refine T_c (some 14) h ?_; clear h
 rintro e H1 ⟨ra, rb, rfl, h⟩
 refine T_pd [12, 13] [(14, .tuple #[vi ra, .bool rb])] ?_
 refine T_ed 5 [14] [(9, vi ra), (10, .bool rb)] ?_
 refine T_sz ?_
 refine T_srz 2 ?_
 refine T_ed 2 [10] [(18, .bool (!rb))] ?_
 by_cases c1 : rb = true
 ·rw [if_pos c1] at h
  refine T_cFz 18 (congrArg Bool.not (c1)) ?_
  refine T_kt ?_
  refine T_srz 4 ?_
  refine T_nd 1 [0, 18] [(19, vp hv)] ?_
  obtain ⟨b, rfl, h⟩ := h
  refine T_nd 2 [19] [(21, vp (some b))] ?_
  obtain ⟨x, q3, h⟩ := h
  refine T_l1 22 48 q3 [21] ?_
  refine T_n 4 [(22, vp x), (25, vi (IntKind.wrap .i64 (ra + i))), (26, vu v)] ?_
  refine T_c (some 27) h ?_; clear h
  rintro d H2 ⟨a, rfl, h⟩
  refine ⟨[(27, vi a)], pk, ?_⟩
  exact T_nr 1 [8] [vi a] hQ h
 rw [if_neg c1] at h
 refine T_cTz 18 (congrArg Bool.not (eq_false_of_ne_true c1)) ?_
 refine T_srz 3 ?_
 exact T_nr 1 [8] [vi 3] hQ h
end obj_Heap_set

/-! (*moraine/obj.Heap).Weak -/
namespace obj_Heap_half
def K0 := Func.code Tryz.f47
end obj_Heap_half
def obj_Heap_half.pt (hv : Option Addr) (wv : Int) (i : Int) (H : Array Obj) (R : Value → Array Obj → Prop) : Prop :=
 obj_Heap_pair.C hv wv H (fun v H1 => ∃ (ra : Int) (rb : Bool), v = .tuple #[.int .i64 ra, .bool rb] ∧ 
 if rb = true then (
 ∃ e : Addr, hv = some e ∧
 ∃ x : Option Addr, hat H1 e = some (.pointer x) ∧
 ∃ xA : Addr, x = some xA ∧
 ∃ f : Option Addr, hat H1 xA = some (.pointer f) ∧
 ∃ g : Addr, f = some g ∧
 ∃ d : Option Addr, hat H1 g = some (.pointer d) ∧
 seg_Mem_Read.C d (IntKind.wrap .i64 (ra + i)) H1 (fun j H2 => ∃ b a : Int, j = .tuple #[.int .u64 b, .int .i64 a] ∧ 
 R (.tuple #[.int .u64 b, .int .i64 a]) H2))
 else
 R (.tuple #[.int .u64 0, .int .i64 3]) H1)
namespace obj_Heap_half
theorem link {hv : Option Addr} {wv : Int} {i : Int} {H : Array Obj} {R : Value → Array Obj → Prop} (h : pt hv wv i H R) : C hv wv i H R := by
 refine T_en K0 34 Tryz.func47 ?_
 intro w0 Q hQ
 unfold pt at h
 refine T_su [(0, vp hv), (1, vu wv), (2, vi i)] ?_
 refine T_srz 0 ?_
 refine T_ed 2 [] [] ?_
 refine T_srz 1 ?_
 refine T_nd 2 [1] [(11, vp hv), (12, vu wv)] ?_
 refine T_c (some 13) h ?_; clear h
 rintro v H1 ⟨ra, rb, rfl, h⟩
 refine T_pd [11, 12] [(13, .tuple #[vi ra, .bool rb])] ?_
 refine T_ed 5 [13] [(8, vi ra), (9, .bool rb)] ?_
 refine T_sz ?_
 refine T_srz 2 ?_
 refine T_ed 2 [9] [(17, .bool (!rb))] ?_
 by_cases c1 : rb = true
 ·rw [if_pos c1] at h
  refine T_cFz 17 (congrArg Bool.not (c1)) ?_
  refine T_kt ?_
  refine T_srz 4 ?_
  refine T_nd 1 [0, 17] [(18, vp hv)] ?_
  obtain ⟨e, rfl, h⟩ := h
  refine T_nd 2 [18] [(20, vp (some e))] ?_
  obtain ⟨x, q3, h⟩ := h
  refine T_l1 21 48 q3 [20] ?_
  obtain ⟨xA, rfl, h⟩ := h
  refine T_nd 2 [21] [(23, vp (some xA))] ?_
  obtain ⟨f, q4, h⟩ := h
  refine T_l1 24 52 q4 [23] ?_
  obtain ⟨g, rfl, h⟩ := h
  refine T_nd 2 [24] [(26, vp (some g))] ?_
  obtain ⟨d, q5, h⟩ := h
  refine T_l1 27 55 q5 [26] ?_
  refine T_nd 3 [2, 8] [(30, vi (IntKind.wrap .i64 (ra + i)))] ?_
  refine T_c (some 31) h ?_; clear h
  rintro j H2 ⟨b, a, rfl, h⟩
  refine ⟨[(31, .tuple #[vu b, vi a])], pk, ?_⟩
  exact T_nr 4 [6, 7] [vu b, vi a] hQ h
 rw [if_neg c1] at h
 refine T_cTz 17 (congrArg Bool.not (eq_false_of_ne_true c1)) ?_
 refine T_srz 3 ?_
 exact T_nr 2 [6, 7] [vu 0, vi 3] hQ h
end obj_Heap_half

/-! (*moraine/obj.Heap).pair -/
namespace obj_Heap_pair
def K0 := Func.code Tryz.f61
end obj_Heap_pair
def obj_Heap_pair.pt (hv : Option Addr) (wv : Int) (H : Array Obj) (R : Value → Array Obj → Prop) : Prop :=
 obj_Heap_at.C hv wv 1 0 H (fun v H1 => ∃ (ra : Int) (rb : Bool), v = .tuple #[.int .i64 ra, .bool rb] ∧ 
 if rb = true then (
 R (.tuple #[.int .i64 ra, .bool ((Int.tmod ra 2) == 0)]) H1)
 else
 obj_Heap_at.C hv wv 2 1 H1 (fun d H2 => ∃ (a : Int) (b : Bool), d = .tuple #[.int .i64 a, .bool b] ∧ 
 R (.tuple #[.int .i64 a, .bool (b && ((Int.tmod a 2) == 0))]) H2))
namespace obj_Heap_pair
theorem link {hv : Option Addr} {wv : Int} {H : Array Obj} {R : Value → Array Obj → Prop} (h : pt hv wv H R) : C hv wv H R := by
 refine T_en K0 29 Tryz.func61 ?_
 intro w0 Q hQ
 unfold pt at h
 refine T_su [(0, vp hv), (1, vu wv)] ?_
 refine T_srz 0 ?_
 refine T_ed 2 [] [] ?_
 refine T_srz 1 ?_
 refine T_nd 2 [] [(9, vp hv), (10, vu wv)] ?_
 refine T_c (some 11) h ?_; clear h
 rintro v H1 ⟨ra, rb, rfl, h⟩
 refine T_pd [9, 10] [(11, .tuple #[vi ra, .bool rb])] ?_
 refine T_ed 5 [11] [(6, vi ra), (7, .bool rb)] ?_
 refine T_sz ?_
 refine T_srz 2 ?_
 refine T_ed 2 [] [(15, .bool (!rb))] ?_
 by_cases c1 : rb = true
 ·rw [if_pos c1] at h
  have b2 : (!rb) = false := congrArg Bool.not (c1)
  have b22 : rb = true := c1
  refine S_bd 7 (b := rb) (v := true) (by simp only [b2, b22, Bool.not_true, Bool.not_false]) ?_
  refine S_bd 15 (b := (!rb)) (v := false) (by simp only [b2, b22, Bool.not_true, Bool.not_false]) ?_
  clear b2 b22
  refine T_fz 15 ?_
  refine T_kt ?_
  refine T_srz 4 ?_
  exact T_nr 9 [4, 5] [vi ra, .bool ((Int.tmod ra 2) == 0)] hQ h
 rw [if_neg c1] at h
 have b2 : (!rb) = true := congrArg Bool.not (eq_false_of_ne_true c1)
 have b22 : rb = false := eq_false_of_ne_true c1
 refine S_bd 7 (b := rb) (v := false) (by simp only [b2, b22, Bool.not_true, Bool.not_false]) ?_
 refine S_bd 15 (b := (!rb)) (v := true) (by simp only [b2, b22, Bool.not_true, Bool.not_false]) ?_
 clear b2 b22
 refine T_tz 15 ?_
 refine T_rz 3 ?_
 refine T_n 2 [(17, vp hv), (18, vu wv)] ?_
 refine T_c (some 19) h ?_; clear h
 rintro d H2 ⟨a, b, rfl, h⟩
 refine ⟨[(19, .tuple #[vi a, .bool b])], pk, ?_⟩
 refine T_ne 5 [(6, vi a), (7, .bool b)] ?_
 refine T_srz 4 ?_
 refine N_cut [(4, vi a), (5, .bool (b && ((Int.tmod a 2) == 0)))] ?_ ?_
 ·refine S_then ?_
  exact T_ret [4, 5] [vi a, .bool (b && ((Int.tmod a 2) == 0))] hQ h
 intro hk
 refine T_n 3 [(6, vi a), (22, vi a), (24, .bool b)] ?_
 by_cases c3 : b = true
 ·have b4 : b = true := c3
  refine N_env [(6, vi a), (22, vi a), (24, .bool true)] (by rw [b4]) ?_
  refine T_n 6 [(4, vi a), (5, .bool ((Int.tmod a 2) == 0))] ?_
  refine N_end (by kernel_rfl) ?_
  refine S_env [(4, vi a), (5, .bool (b && ((Int.tmod a 2) == 0)))] (by simp only [b4, BL]) ?_
  exact hk
 have b4 : b = false := eq_false_of_ne_true c3
 refine N_env [(6, vi a), (22, vi a), (24, .bool false)] (by rw [b4]) ?_
 refine T_n 6 [(4, vi a), (5, .bool false)] ?_
 refine N_end (by kernel_rfl) ?_
 refine S_env [(4, vi a), (5, .bool (b && ((Int.tmod a 2) == 0)))] (by simp only [b4, BL]) ?_
 exact hk
end obj_Heap_pair

/-! (*moraine/obj.Heap).Pair -/
namespace obj_Heap_Pair
def K0 := Func.code Tryz.f71
end obj_Heap_Pair
def obj_Heap_Pair.pt (hv : Option Addr) (wv : Int) (H : Array Obj) (R : Value → Array Obj → Prop) : Prop :=
 obj_Heap_pair.C hv wv H (fun v H1 => ∃ (ra : Int) (rb : Bool), v = .tuple #[.int .i64 ra, .bool rb] ∧ 
 R (.bool rb) H1)
namespace obj_Heap_Pair
theorem link {hv : Option Addr} {wv : Int} {H : Array Obj} {R : Value → Array Obj → Prop} (h : pt hv wv H R) : C hv wv H R := by
 refine T_en K0 14 Tryz.func71 ?_
 intro w0 Q hQ
 unfold pt at h
 refine T_su [(0, vp hv), (1, vu wv)] ?_
 refine T_srz 0 ?_
 refine T_ed 1 [] [] ?_
 refine T_srz 1 ?_
 refine T_n 2 [(8, vp hv), (9, vu wv)] ?_
 refine T_c (some 10) h ?_; clear h
 rintro v H1 ⟨ra, rb, rfl, h⟩
 refine ⟨[(10, .tuple #[vi ra, .bool rb])], pk, ?_⟩
 refine T_ne 5 [(6, .bool rb)] ?_
 refine T_srz 2 ?_
 exact T_nr 2 [4] [.bool rb] hQ h
end obj_Heap_Pair

/-! (*moraine/obj.Heap).Cdr -/
namespace obj_Heap_Cdr
def K0 := Func.code Tryz.f109
end obj_Heap_Cdr
def obj_Heap_Cdr.pt (hv : Option Addr) (wv : Int) (H : Array Obj) (R : Value → Array Obj → Prop) : Prop :=
 obj_Heap_half.C hv wv 1 H (fun v H1 => ∃ ra rb : Int, v = .tuple #[.int .u64 ra, .int .i64 rb] ∧ 
 R (.tuple #[.int .u64 ra, .int .i64 rb]) H1)
namespace obj_Heap_Cdr
theorem link {hv : Option Addr} {wv : Int} {H : Array Obj} {R : Value → Array Obj → Prop} (h : pt hv wv H R) : C hv wv H R := by
 refine T_en K0 11 Tryz.func109 ?_
 intro w0 Q hQ
 unfold pt at h
 refine T_su [(0, vp hv), (1, vu wv)] ?_
 refine T_srz 0 ?_
 refine T_ed 2 [] [] ?_
 refine T_srz 1 ?_
 refine T_n 2 [(6, vp hv), (7, vu wv)] ?_
 refine T_c (some 8) h ?_; clear h
 rintro v H1 ⟨ra, rb, rfl, h⟩
 refine ⟨[(8, .tuple #[vu ra, vi rb])], pk, ?_⟩
 exact T_nr 4 [4, 5] [vu ra, vi rb] hQ h
end obj_Heap_Cdr

/-! slices.Contains[[]int,int] -/
namespace slices_ContainsFunc_api_Datum_api_Datum
def K0 := Func.code Tryz.f87
end slices_ContainsFunc_api_Datum_api_Datum
def slices_ContainsFunc_api_Datum_api_Datum.pt (sB : Option Addr) (sN : Nat) (sC : Nat) (f : Value) (H : Array Obj) (R : Value → Array Obj → Prop) : Prop :=
 slices_IndexFunc_api_Datum_api_Datum.C sB sN sC f H (fun v H1 => ∃ x : Int, v = .int .i64 x ∧ 
 R (.bool (decide (x ≥ 0))) H1)
namespace slices_ContainsFunc_api_Datum_api_Datum
theorem link {sB : Option Addr} {sN : Nat} {sC : Nat} {f : Value} {H : Array Obj} {R : Value → Array Obj → Prop} (h : pt sB sN sC f H R) : C sB sN sC f H R := by
 refine T_en K0 9 Tryz.func87 ?_
 intro w0 Q hQ
 unfold pt at h
 refine T_su [(0, vs sB sN sC), (1, f)] ?_
 refine T_srz 0 ?_
 refine T_ed 1 [] [] ?_
 refine T_srz 1 ?_
 refine T_n 2 [(5, vs sB sN sC), (6, f)] ?_
 refine T_c (some 7) h ?_; clear h
 rintro v H1 ⟨x, rfl, h⟩
 refine ⟨[(7, vi x)], pk, ?_⟩
 exact T_nr 2 [4] [.bool (decide (x ≥ 0))] hQ h
end slices_ContainsFunc_api_Datum_api_Datum

/-! slices.Index[[]int,int] -/
namespace slices_Equal_uint32_uint32
def K0 := Func.code Tryz.f116
def K2 := cb K0
def K4 := cb K2
def K9 := ca K4
def K12 := cb K9
def K13 := ca K12
def K14 := ca K13
end slices_Equal_uint32_uint32
def slices_Equal_uint32_uint32.pt (s1B : Option Addr) (s1N : Nat) (s1C : Nat) (s2B : Option Addr) (s2N : Nat) (s2C : Nat) (H : Array Obj) (R : Value → Array Obj → Prop) : Prop :=
 if (s1N : Int) = (s2N : Int) then (
 ∃ (g : Int → Array Obj → Prop) (m15 : Int → Array Obj → Nat), g 0 H ∧ ∀ (b : Int) (H1 : Array Obj), g b H1 →
 if b < (s1N : Int) then (
 ∃ d : Addr, s1B = some d ∧
 ((0 : Int) ≤ b ∧ b < (s1N : Int)) ∧
 ∃ x : Int, hat H1 (d.add (Int.toNat b * 1)) = some (.int .u32 x) ∧
 ∃ e : Addr, s2B = some e ∧
 ((0 : Int) ≤ b ∧ b < (s2N : Int)) ∧
 ∃ f : Int, hat H1 (e.add (Int.toNat b * 1)) = some (.int .u32 f) ∧
 if x = f then (
 (g (IntKind.wrap .i64 (b + 1)) H1 ∧ m15 (IntKind.wrap .i64 (b + 1)) H1 < m15 b H1))
 else
 R (.bool false) H1)
 else
 R (.bool true) H1)
 else
 R (.bool false) H
namespace slices_Equal_uint32_uint32
theorem link {s1B : Option Addr} {s1N : Nat} {s1C : Nat} {s2B : Option Addr} {s2N : Nat} {s2C : Nat} {H : Array Obj} {R : Value → Array Obj → Prop} (h : pt s1B s1N s1C s2B s2N s2C H R) : C s1B s1N s1C s2B s2N s2C H R := by
 refine T_en K0 26 Tryz.func116 ?_
 intro w0 Q hQ
 unfold pt at h
 refine T_su [(0, vs s1B s1N s1C), (1, vs s2B s2N s2C)] ?_
 refine T_srz 0 ?_
 refine T_ed 1 [] [] ?_
 refine T_sz ?_
 refine T_srz 1 ?_
 refine T_ed 5 [] [(10, .bool ((s1N : Int) != (s2N : Int)))] ?_
 by_cases c1 : (s1N : Int) = (s2N : Int)
 ·rw [if_pos c1] at h
  refine T_cFz 10 (bne_eq_false_iff_eq.mpr c1) ?_
  refine T_kt ?_
  refine T_sz ?_
  refine T_srz 3 ?_
  refine T_ed 3 [10] [(12, vi s1N), (13, vi 0)] ?_
  refine T_bz 0 ?_
  obtain ⟨g, m15, i3, i4⟩ := h
  refine S_loop (x := K14) (σ := Int) (fun s_ => [(0, vs s1B s1N s1C), (1, vs s2B s2N s2C), (12, vi s1N), (13, vi s_)]) (fun s_ H => g s_ H) (fun s_ H => m15 s_ H) (0 : Int) (by kernel_rfl) i3 sk ?_
  rintro b H1 i5
  have h := i4 b H1 i5
  refine T_su [(0, vs s1B s1N s1C), (1, vs s2B s2N s2C), (12, vi s1N), (13, vi b)] ?_
  refine T_srz 4 ?_
  refine T_ed 1 [] [(14, .bool (decide (b < (s1N : Int))))] ?_
  refine T_sz ?_
  by_cases c6 : b < (s1N : Int)
  ·rw [if_pos c6] at h
   refine T_cTz 14 (decide_eq_true c6) ?_
   refine T_kt ?_
   refine T_sz ?_
   refine T_bz 1 ?_
   refine T_srz 5 ?_
   refine T_ed 2 [14] [(5, vi b)] ?_
   refine T_sz ?_
   refine T_rqz 6 ?_
   refine T_q1 16 (vs s1B s1N s1C) [] ?_
   refine T_q1 17 (vi b) [] ?_
   obtain ⟨d, rfl, h⟩ := h
   obtain ⟨q8, h⟩ := h
   refine Q_op (some 18) (indexAtN 22 (vs (some d) s1N s1C) (vi b)) (vp (some (d.add (Int.toNat b * 1)))) (fun _=>by kernel_rfl) (fun w _ => indexAt_run (P := Tryz.prog) (t := 22) (elem := 94) (sz := 1) (a := d) (len := s1N) (cap := s1C) (k := .i64) (i := b) Tryz.underlying22 (fun _=>by kernel_rfl) q8.1 q8.2 w) [(0, vs (some d) s1N s1C), (1, vs s2B s2N s2C), (5, vi b), (12, vi s1N), (13, vi b), (18, vp (some (d.add (Int.toNat b * 1))))] pk ?_
   obtain ⟨x, q9, h⟩ := h
   refine T_ql (some 19) 94 q9 [(0, vs (some d) s1N s1C), (1, vs s2B s2N s2C), (5, vi b), (12, vi s1N), (13, vi b), (19, .int .u32 x)] ?_
   refine T_q1 20 (vs s2B s2N s2C) [] ?_
   refine T_q1 21 (vi b) [5] ?_
   obtain ⟨e, rfl, h⟩ := h
   obtain ⟨q10, h⟩ := h
   refine Q_op (some 22) (indexAtN 22 (vs (some e) s2N s2C) (vi b)) (vp (some (e.add (Int.toNat b * 1)))) (fun _=>by kernel_rfl) (fun w _ => indexAt_run (P := Tryz.prog) (t := 22) (elem := 94) (sz := 1) (a := e) (len := s2N) (cap := s2C) (k := .i64) (i := b) Tryz.underlying22 (fun _=>by kernel_rfl) q10.1 q10.2 w) [(0, vs (some d) s1N s1C), (1, vs (some e) s2N s2C), (12, vi s1N), (13, vi b), (19, .int .u32 x), (22, vp (some (e.add (Int.toNat b * 1))))] pk ?_
   obtain ⟨f, q11, h⟩ := h
   refine T_ql (some 23) 94 q11 [(0, vs (some d) s1N s1C), (1, vs (some e) s2N s2C), (12, vi s1N), (13, vi b), (19, .int .u32 x), (23, .int .u32 f)] ?_
   refine T_q1 24 (.bool (x != f)) [19, 23] ?_
   refine Q_sub [(0, vs (some d) s1N s1C), (1, vs (some e) s2N s2C), (12, vi s1N), (13, vi b), (24, .bool (x != f))] sk ?_
   refine T_qe ?_
   by_cases c12 : x = f
   ·rw [if_pos c12] at h
    refine T_cFz 24 (bne_eq_false_iff_eq.mpr c12) ?_
    refine T_k ?_
    refine S_blockEnd ?_
    refine S_then ?_
    refine T_rz 8 ?_
    refine T_ne 2 [(0, vs (some d) s1N s1C), (1, vs (some e) s2N s2C), (12, vi s1N), (13, vi (IntKind.wrap .i64 (b + 1)))] ?_
    exact S_round ((IntKind.wrap .i64 (b + 1)) : Int) sk h
   rw [if_neg c12] at h
   refine T_cTz 24 (bne_iff_ne.mpr c12) ?_
   refine T_srz 7 ?_
   exact T_nr 1 [4] [.bool false] hQ h
  rw [if_neg c6] at h
  refine T_cFz 14 (decide_eq_false c6) ?_
  refine S_exit 0 (by kernel_rfl) ?_
  refine S_exitThen ?_
  refine S_exitThen ?_
  refine S_exitHere ?_
  refine S_then ?_
  refine T_srz 9 ?_
  exact T_nr 1 [4] [.bool true] hQ h
 rw [if_neg c1] at h
 refine T_cTz 10 (bne_iff_ne.mpr c1) ?_
 refine T_srz 2 ?_
 exact T_nr 1 [4] [.bool false] hQ h
end slices_Equal_uint32_uint32

/-! slices.IndexFunc[[]moraine/api.Datum,moraine/api.Datum] -/
namespace slices_IndexFunc_api_Datum_api_Datum
def K0 := Func.code Tryz.f117
def K2 := cb K0
def K3 := ca K2
def K6 := cb K3
def K7 := ca K6
def K8 := ca K7
end slices_IndexFunc_api_Datum_api_Datum
def slices_IndexFunc_api_Datum_api_Datum.pt (sB : Option Addr) (sN : Nat) (sC : Nat) (f : Value) (H : Array Obj) (R : Value → Array Obj → Prop) : Prop :=
 ∃ (I9 : Int → Array Obj → Prop) (m9 : Int → Array Obj → Nat), I9 0 H ∧ ∀ (s8 : Int) (H1 : Array Obj), I9 s8 H1 →
 if s8 < (sN : Int) then (
 ∃ b : Addr, sB = some b ∧
 ((0 : Int) ≤ s8 ∧ s8 < (sN : Int)) ∧
 ∃ j xC m g e d xT p o q, RowAt H1 (b.add (Int.toNat s8 * 6)) 0 (DR j xC m g e d xT p o q) ∧
 FC Tryz.prog f #[.agg (DR j xC m g e d xT p o q).toArray] H1 (fun v H2 => ∃ x : Bool, v = .bool x ∧ 
 if x = true then (
 R (.int .i64 s8) H2)
 else
 (I9 (IntKind.wrap .i64 (s8 + 1)) H2 ∧ m9 (IntKind.wrap .i64 (s8 + 1)) H2 < m9 s8 H1)))
 else
 R (.int .i64 (-1)) H1
namespace slices_IndexFunc_api_Datum_api_Datum
theorem link {sB : Option Addr} {sN : Nat} {sC : Nat} {f : Value} {H : Array Obj} {R : Value → Array Obj → Prop} (h : pt sB sN sC f H R) : C sB sN sC f H R := by
 refine T_en K0 19 Tryz.func117 ?_
 intro w0 Q hQ
 unfold pt at h
 refine T_su [(0, vs sB sN sC), (1, f)] ?_
 refine T_srz 0 ?_
 refine T_ed 1 [] [] ?_
 refine T_sz ?_
 refine T_srz 1 ?_
 refine T_ed 3 [] [(7, vi sN), (8, vi 0)] ?_
 refine T_bz 0 ?_
 obtain ⟨I9, m9, i1, i2⟩ := h
 refine S_loop (x := K8) (σ := Int) (fun s_ => [(0, vs sB sN sC), (1, f), (7, vi sN), (8, vi s_)]) (fun s_ H => I9 s_ H) (fun s_ H => m9 s_ H) (0 : Int) (by kernel_rfl) i1 sk ?_
 rintro s8 H1 i3
 have h := i2 s8 H1 i3
 refine T_su [(0, vs sB sN sC), (1, f), (7, vi sN), (8, vi s8)] ?_
 refine T_srz 2 ?_
 refine T_ed 1 [] [(9, .bool (decide (s8 < (sN : Int))))] ?_
 refine T_sz ?_
 by_cases c4 : s8 < (sN : Int)
 ·rw [if_pos c4] at h
  refine T_cTz 9 (decide_eq_true c4) ?_
  refine T_kt ?_
  refine T_sz ?_
  refine T_bz 1 ?_
  refine T_srz 3 ?_
  refine T_ed 2 [9] [(5, vi s8)] ?_
  refine T_srz 4 ?_
  refine T_nd 3 [] [(11, f), (12, vs sB sN sC), (13, vi s8)] ?_
  obtain ⟨b, rfl, h⟩ := h
  obtain ⟨q6, h⟩ := h
  refine T_xd (some 14) 25 27 6 b sN sC .i64 s8 Tryz.underlying25 q6.1 q6.2 [0, 12, 13] [(0, vs (some b) sN sC), (14, vp (some (b.add (Int.toNat s8 * 6))))] ?_
  obtain ⟨j, xC, m, g, e, d, xT, p, o, q, q7, h⟩ := h
  refine T_lr 15 27 q7 [14] ?_
  refine N_callv (some 16) f #[.agg (DR j xC m g e d xT p o q).toArray] (fun _=>by kernel_rfl) h ?_; clear h
  rintro v H2 ⟨x, rfl, h⟩
  refine T_pd [11, 15] [(16, .bool x)] ?_
  refine T_e ?_
  by_cases c8 : x = true
  ·rw [if_pos c8] at h
   refine T_cTz 16 c8 ?_
   refine T_srz 5 ?_
   exact T_nr 2 [4] [vi s8] hQ h
  rw [if_neg c8] at h
  refine T_cFz 16 (eq_false_of_ne_true c8) ?_
  refine T_k ?_
  refine S_blockEnd ?_
  refine S_then ?_
  refine T_rz 6 ?_
  refine T_ed 2 [5, 8, 16] [(8, vi (IntKind.wrap .i64 (s8 + 1)))] ?_
  exact S_round ((IntKind.wrap .i64 (s8 + 1)) : Int) sk h
 rw [if_neg c4] at h
 refine T_cFz 9 (decide_eq_false c4) ?_
 refine S_exit 0 (by kernel_rfl) ?_
 refine S_exitThen ?_
 refine S_exitThen ?_
 refine S_exitHere ?_
 refine S_then ?_
 refine T_srz 7 ?_
 exact T_nr 1 [4] [vi (-1)] hQ h
end slices_IndexFunc_api_Datum_api_Datum

/-! slices.Clone[[]uint32,uint32] -/
namespace slices_Clone_uint32_uint32
def K0 := Func.code Tryz.f118
end slices_Clone_uint32_uint32
def slices_Clone_uint32_uint32.pt (sB : Option Addr) (sN : Nat) (sC : Nat) (H : Array Obj) (R : Value → Array Obj → Prop) : Prop :=
 onPtr sB (
 R (.slice none 0 0) H) (fun a =>
 ∀ (b : Nat) (H1 : Array Obj), b = H.size → H1 = H.push (.cells #[] 94) →
 appendK 1 94 4 [.int .u32 0] (some (ad b)) 0 0 (some a) sN H1 (fun ap d H2 =>
 R (.slice ap (0 + sN) d) H2))
namespace slices_Clone_uint32_uint32
theorem link {sB : Option Addr} {sN : Nat} {sC : Nat} {H : Array Obj} {R : Value → Array Obj → Prop} (h : pt sB sN sC H R) : C sB sN sC H R := by
 refine T_en K0 8 Tryz.func118 ?_
 intro w0 Q hQ
 unfold pt at h
 refine T_su [(0, vs sB sN sC)] ?_
 refine T_srz 0 ?_
 refine T_ed 1 [] [] ?_
 refine T_sz ?_
 refine T_srz 1 ?_
 refine T_nd 1 [] [(3, vs sB sN sC)] ?_
 rcases sB with _ | a
 ·rw [onPtr_none] at h
  refine T_ne 1 [(0, vs none sN sC), (4, .bool true)] ?_
  refine T_tz 4 ?_
  refine T_srz 2 ?_
  exact T_nr 1 [2] [vs none 0 0] hQ h
 rw [onPtr_some] at h
 refine T_ne 1 [(0, vs (some a) sN sC), (4, .bool false)] ?_
 refine T_fz 4 ?_
 refine T_kt ?_
 refine T_srz 3 ?_
 refine T_ud [4] [] ?_
 refine T_nw (some 5) (fun b => vs (pa b) 0 0) (.cells #[] 94) ?_
 intro b H1 e1 e2
 replace h := h b H1 e1 e2
 refine T_pd [] [(5, vs (pa b) 0 0)] ?_
 refine T_nd 1 [0] [(6, vs (some a) sN sC)] ?_
 refine N_op (some 7) (appendN #[22, 22] 22 #[vs (pa b) 0 0, vs (some a) sN sC]) _ (fun _=>by kernel_rfl) (ss_append (T := 94) (sz := 1) (bytes := 4) (zero := (.int .u32 0 : Value)) Tryz.underlying22 Tryz.underlying22 rfl (show Tryz.prog.info? 94 = some Tryz.t94 from by kernel_rfl) (by kernel_rfl) (by kernel_rfl) (by decide) (by kernel_rfl) (by first | exact h | (simpa only [Value.cells, List.toList_toArray] using h))) ?_; clear h
 rintro _ H2 ⟨ap, d, rfl, h⟩
 refine ⟨[(7, vs ap (0 + sN) d)], pk, ?_⟩
 exact T_nr 1 [2] [vs ap (0 + sN) d] hQ h
end slices_Clone_uint32_uint32

/-! moraine/morainelaw17.heavy -/
namespace morainelaw17_heavy
def K0 := Func.code Tryz.f6
end morainelaw17_heavy
def morainelaw17_heavy.pt (dKind : Int) (dC : Int) (dNNeg : Bool) (dNMagB : Option Addr) (dNMagN : Nat) (dNMagC : Nat) (dT : ByteArray) (dLB : Option Addr) (dLN : Nat) (dLC : Nat) (H : Array Obj) (R : Value → Array Obj → Prop) : Prop :=
 ∀ (b : Nat) (H1 : Array Obj), b = H.size → H1 = H.push (.cells (DR dKind dC dNNeg dNMagB dNMagN dNMagC dT dLB dLN dLC).toArray 27) →
 ∃ f xC g e d a xT j i k, RowAt H1 (ad b) 0 (DR f xC g e d a xT j i k) ∧
 morainelaw17_weigh.C f xC g e d a xT j i k 3000 H1 (fun v H2 => ∃ x : Int, v = .int .i64 x ∧ 
 R (.bool (decide (x < 0))) H2)
namespace morainelaw17_heavy
set_option maxRecDepth 100000 in
theorem link {dKind : Int} {dC : Int} {dNNeg : Bool} {dNMagB : Option Addr} {dNMagN : Nat} {dNMagC : Nat} {dT : ByteArray} {dLB : Option Addr} {dLN : Nat} {dLC : Nat} {H : Array Obj} {R : Value → Array Obj → Prop} (h : pt dKind dC dNNeg dNMagB dNMagN dNMagC dT dLB dLN dLC H R) : C dKind dC dNNeg dNMagB dNMagN dNMagC dT dLB dLN dLC H R := by
 refine T_en K0 6 Tryz.func6 ?_
 intro w0 Q hQ
 unfold pt at h
 refine T_su [(0, .agg (DR dKind dC dNNeg dNMagB dNMagN dNMagC dT dLB dLN dLC).toArray)] ?_
 refine T_srz 0 ?_
 refine T_nw (some 1) (fun b => vp (pa b)) (.cells (DR dKind dC dNNeg dNMagB dNMagN dNMagC dT dLB dLN dLC).toArray 27) ?_
 intro b H1 e1 e2
 replace h := h b H1 e1 e2
 refine ⟨[(1, vp (pa b))], pk, ?_⟩
 refine T_ed 1 [] [] ?_
 refine T_srz 1 ?_
 obtain ⟨f, xC, g, e, d, a, xT, j, i, k, q3, h⟩ := h
 refine T_lr 3 27 q3 [1] ?_
 refine T_c (some 4) h ?_; clear h
 rintro v H2 ⟨x, rfl, h⟩
 refine ⟨[(4, vi x)], pk, ?_⟩
 exact T_nr 2 [2] [.bool (decide (x < 0))] hQ h
end morainelaw17_heavy

/-! moraine/morainelaw17.weigh -/
namespace morainelaw17_weigh
def K0 := Func.code Tryz.f19
def K2 := cb K0
def K4 := cb K2
def K6 := cb K4
def K13 := ca K6
def K16 := cb K13
def K17 := ca K16
def K18 := ca K17
end morainelaw17_weigh
def morainelaw17_weigh.pt (dKind : Int) (dC : Int) (dNNeg : Bool) (dNMagB : Option Addr) (dNMagN : Nat) (dNMagC : Nat) (dT : ByteArray) (dLB : Option Addr) (dLN : Nat) (dLC : Nat) (left : Int) (H : Array Obj) (R : Value → Array Obj → Prop) : Prop :=
 ∀ (b : Nat) (H1 : Array Obj), b = H.size → H1 = H.push (.cells (DR dKind dC dNNeg dNMagB dNMagN dNMagC dT dLB dLN dLC).toArray 27) →
 ∃ x : ByteArray, hat H1 ((ad b).add 4) = some (.string x) ∧
 if (x.size : Int) > 1000 then (
 R (.int .i64 (-1)) H1)
 else
 ∃ (xB : Option Addr) (xN xC : Nat), hat H1 (((ad b).add 2).add 1) = some (.slice xB xN xC) ∧
 if (xN : Int) > 300 then (
 R (.int .i64 (-1)) H1)
 else
 ∃ (af : Int → Int → Array Obj → Prop) (m19 : Int → Int → Array Obj → Nat), af (IntKind.wrap .i64 (left - 1)) 0 H1 ∧ ∀ (d : Int) (i : Int) (H2 : Array Obj), af d i H2 →
 ∃ (ae : Option Addr) (e ac : Nat), hat H2 ((ad b).add 5) = some (.slice ae e ac) ∧
 if ((decide (i < (e : Int))) && (decide (d ≥ 0))) = true then (
 ∃ (u : Option Addr) (q s : Nat), hat H2 ((ad b).add 5) = some (.slice u q s) ∧
 ∃ p : Addr, u = some p ∧
 ((0 : Int) ≤ i ∧ i < (q : Int)) ∧
 ∃ m r o j g f xT aa z ab, RowAt H2 (p.add (Int.toNat i * 6)) 0 (DR m r o j g f xT aa z ab) ∧
 morainelaw17_weigh.C m r o j g f xT aa z ab d H2 (fun v H3 => ∃ y : Int, v = .int .i64 y ∧ 
 (af y (IntKind.wrap .i64 (i + 1)) H3 ∧ m19 y (IntKind.wrap .i64 (i + 1)) H3 < m19 d i H2)))
 else
 R (.int .i64 d) H2
namespace morainelaw17_weigh
set_option maxRecDepth 100000 in
theorem link {dKind : Int} {dC : Int} {dNNeg : Bool} {dNMagB : Option Addr} {dNMagN : Nat} {dNMagC : Nat} {dT : ByteArray} {dLB : Option Addr} {dLN : Nat} {dLC : Nat} {left : Int} {H : Array Obj} {R : Value → Array Obj → Prop} (h : pt dKind dC dNNeg dNMagB dNMagN dNMagC dT dLB dLN dLC left H R) : C dKind dC dNNeg dNMagB dNMagN dNMagC dT dLB dLN dLC left H R := by
 refine T_en K0 38 Tryz.func19 ?_
 intro w0 Q hQ
 unfold pt at h
 refine T_su [(0, .agg (DR dKind dC dNNeg dNMagB dNMagN dNMagC dT dLB dLN dLC).toArray), (1, vi left)] ?_
 refine T_srz 0 ?_
 refine T_nw (some 2) (fun b => vp (pa b)) (.cells (DR dKind dC dNNeg dNMagB dNMagN dNMagC dT dLB dLN dLC).toArray 27) ?_
 intro b H1 e1 e2
 replace h := h b H1 e1 e2
 refine T_pd [0] [(2, vp (pa b))] ?_
 refine T_ed 1 [] [] ?_
 refine T_srz 1 ?_
 refine T_ed 3 [1] [(1, vi (IntKind.wrap .i64 (left - 1)))] ?_
 refine T_sz ?_
 refine T_srz 2 ?_
 refine T_nd 1 [] [(8, vp (some ((ad b).add 4)))] ?_
 obtain ⟨x, q3, h⟩ := h
 refine T_l1 9 9 q3 [8] ?_
 refine T_nd 3 [9] [(12, .bool (decide ((x.size : Int) > 1000)))] ?_
 by_cases c4 : (x.size : Int) > 1000
 ·rw [if_pos c4] at h
  refine N_bd 12 (decide_eq_true c4) ?_
  refine T_ed 6 [12] [(18, .bool true)] ?_
  refine T_tz 18 ?_
  refine T_srz 3 ?_
  exact T_nr 1 [4] [vi (-1)] hQ h
 rw [if_neg c4] at h
 refine N_bd 12 (decide_eq_false c4) ?_
 refine T_nd 2 [] [(14, vp (some (((ad b).add 2).add 1)))] ?_
 obtain ⟨xB, xN, xC, q6, h⟩ := h
 refine T_l1 15 22 q6 [14] ?_
 refine T_ed 3 [12, 15] [(18, .bool (decide ((xN : Int) > 300)))] ?_
 by_cases c7 : (xN : Int) > 300
 ·rw [if_pos c7] at h
  refine T_cTz 18 (decide_eq_true c7) ?_
  refine T_srz 3 ?_
  exact T_nr 1 [4] [vi (-1)] hQ h
 rw [if_neg c7] at h
 refine T_cFz 18 (decide_eq_false c7) ?_
 refine T_kt ?_
 refine T_sz ?_
 refine T_srz 4 ?_
 refine T_ed 1 [18] [(5, vi 0)] ?_
 refine T_bz 0 ?_
 obtain ⟨af, m19, i9, i10⟩ := h
 refine S_loop (x := K18) (σ := Int × Int) (fun s_ => [(1, vi s_.1), (2, vp (pa b)), (5, vi s_.2)]) (fun s_ H => af s_.1 s_.2 H) (fun s_ H => m19 s_.1 s_.2 H) (((IntKind.wrap .i64 (left - 1)), 0) : Int × Int) (by kernel_rfl) i9 sk ?_
 rintro ⟨d, i⟩ H2 i11
 have h := i10 d i H2 i11
 refine T_su [(1, vi d), (2, vp (pa b)), (5, vi i)] ?_
 refine T_sz ?_
 refine T_srz 5 ?_
 refine T_nd 2 [] [(19, vi i), (20, vp (some ((ad b).add 5)))] ?_
 obtain ⟨ae, e, ac, q12, h⟩ := h
 refine T_l1 21 25 q12 [20] ?_
 refine T_nd 3 [19, 21] [(24, .bool (decide (i < (e : Int))))] ?_
 refine N_cut [(1, vi d), (2, vp (pa b)), (5, vi i), (27, .bool ((decide (i < (e : Int))) && (decide (d ≥ 0))))] ?_ ?_
 ·refine S_then ?_
  by_cases c15 : ((decide (i < (e : Int))) && (decide (d ≥ 0))) = true
  ·rw [if_pos c15] at h
   refine T_cTz 27 c15 ?_
   refine T_kt ?_
   refine T_sz ?_
   refine T_bz 1 ?_
   refine T_rz 7 ?_
   refine T_n 1 [(1, vi d), (2, vp (pa b)), (5, vi i), (30, vp (some ((ad b).add 5)))] ?_
   obtain ⟨u, q, s, q17, h⟩ := h
   refine T_l1 31 25 q17 [30] ?_
   refine T_nd 1 [] [(32, vi i)] ?_
   obtain ⟨p, rfl, h⟩ := h
   obtain ⟨q18, h⟩ := h
   refine T_xd (some 33) 25 27 6 p q s .i64 i Tryz.underlying25 q18.1 q18.2 [31, 32] [(33, vp (some (p.add (Int.toNat i * 6))))] ?_
   obtain ⟨m, r, o, j, g, f, xT, aa, z, ab, q19, h⟩ := h
   refine T_lr 34 27 q19 [33] ?_
   refine T_nd 1 [1] [(35, vi d)] ?_
   refine T_c (some 36) h ?_; clear h
   rintro v H3 ⟨y, rfl, h⟩
   refine T_pd [34, 35] [(36, vi y)] ?_
   refine T_nd 1 [36] [(1, vi y)] ?_
   refine N_end (by kernel_rfl) ?_
   refine S_blockEnd ?_
   refine S_then ?_
   refine T_rz 6 ?_
   refine T_ed 3 [5] [(5, vi (IntKind.wrap .i64 (i + 1)))] ?_
   exact S_round ((y, (IntKind.wrap .i64 (i + 1))) : Int × Int) sk h
  rw [if_neg c15] at h
  refine T_cFz 27 (eq_false_of_ne_true c15) ?_
  refine S_exit 0 (by kernel_rfl) ?_
  refine S_exitThen ?_
  refine S_exitThen ?_
  refine S_exitHere ?_
  refine S_then ?_
  refine T_srz 8 ?_
  exact T_nr 2 [4] [vi d] hQ h
 intro hk
 refine T_nu [(1, vi d), (2, vp (pa b)), (5, vi i), (24, .bool (decide (i < (e : Int))))] ?_
 by_cases c13 : i < (e : Int)
 ·have b14 : (decide (i < (e : Int))) = true := decide_eq_true c13
  refine N_env [(1, vi d), (2, vp (pa b)), (5, vi i), (24, .bool true)] (by rw [b14]) ?_
  refine T_nd 3 [24] [(27, .bool (decide (d ≥ 0)))] ?_
  refine N_end (by kernel_rfl) ?_
  refine S_bd 27 (b := (decide (d ≥ 0))) (v := ((decide (i < (e : Int))) && (decide (d ≥ 0)))) (by simp only [b14, BL]) ?_
  exact hk
 have b14 : (decide (i < (e : Int))) = false := decide_eq_false c13
 refine N_env [(1, vi d), (2, vp (pa b)), (5, vi i), (24, .bool false)] (by rw [b14]) ?_
 refine T_nd 3 [24] [(27, .bool false)] ?_
 refine N_end (by kernel_rfl) ?_
 refine S_bd 27 (b := false) (v := ((decide (i < (e : Int))) && (decide (d ≥ 0)))) (by simp only [b14, BL]) ?_
 exact hk
end morainelaw17_weigh

/-! moraine/syms.Intern -/
namespace syms_Intern
def K0 := Func.code Tryz.f30
end syms_Intern
def syms_Intern.pt (hv : Option Addr) (name : ByteArray) (H : Array Obj) (R : Value → Array Obj → Prop) : Prop :=
 if name.toList = (ByteArray.mk #[]).toList then (
 R (.tuple #[.int .u64 0, .int .i64 1]) H)
 else
 unicode_utf8_ValidString.C name H (fun v H1 => ∃ x : Bool, v = .bool x ∧ 
 if x = true then (
 unicode_utf8_RuneCountInString.C name H1 (fun q H2 => ∃ i : Int, q = .int .i64 i ∧ 
 if i > 62 then (
 R (.tuple #[.int .u64 0, .int .i64 6]) H2)
 else
 syms_Find.C hv name H2 (fun p H3 => ∃ (ra : Int) (rb : Bool), p = .tuple #[.int .u64 ra, .bool rb] ∧ 
 if rb = true then (
 R (.tuple #[.int .u64 ra, .int .i64 0]) H3)
 else
 onPtr hv (
 R (.tuple #[.int .u64 0, .int .i64 2]) H3) (fun a =>
 obj_Heap_String.C (some a) name H3 (fun o H4 => ∃ g f : Int, o = .tuple #[.int .u64 g, .int .i64 f] ∧ 
 if f = 0 then (
 ∀ (b : Nat) (H5 : Array Obj), b = H4.size → H5 = H4.push (.cells #[.int .u64 g] 35) →
 obj_Heap_Make.C (some a) 4 0 (some (ad b)) 1 1 H5 (fun m H6 => ∃ e d : Int, m = .tuple #[.int .u64 e, .int .i64 d] ∧ 
 if d = 0 then (
 ∃ (xB : Option Addr) (xN xC : Nat), hat H6 (a.add 1) = some (.slice xB xN xC) ∧
 ∀ (k : Nat) (H7 : Array Obj), k = H6.size → H7 = H6.push (.cells #[.int .u64 e] 35) →
 appendK 1 35 8 [.int .u64 0] xB xN xC (some (ad k)) 1 H7 (fun ap j H8 =>
 (CanPuts H8 (a.add 1) 0 1) ∧ ∀ H9, H9 = hputs H8 (a.add 1) [.slice ap (xN + 1) j] 0 →
 R (.tuple #[.int .u64 e, .int .i64 d]) H9))
 else
 R (.tuple #[.int .u64 e, .int .i64 d]) H6))
 else
 R (.tuple #[.int .u64 0, .int .i64 f]) H4)))))
 else
 R (.tuple #[.int .u64 0, .int .i64 1]) H1)
namespace syms_Intern
theorem link {hv : Option Addr} {name : ByteArray} {H : Array Obj} {R : Value → Array Obj → Prop} (h : pt hv name H R) : C hv name H R := by
 refine T_en K0 63 Tryz.func30 ?_
 intro w0 Q hQ
 unfold pt at h
 refine T_su [(0, vp hv), (1, .string name)] ?_
 refine T_srz 0 ?_
 refine T_ed 2 [] [] ?_
 refine T_sz ?_
 refine T_bz 0 ?_
 refine T_srz 1 ?_
 refine T_nd 3 [] [(14, .bool (name.toList == (ByteArray.mk #[]).toList))] ?_
 by_cases c1 : name.toList = (ByteArray.mk #[]).toList
 ·rw [if_pos c1] at h
  refine N_bd 14 (beq_iff_eq.mpr c1) ?_
  refine T_ed 5 [14] [(11, .bool true)] ?_
  refine T_tz 11 ?_
  refine T_srz 2 ?_
  exact T_nr 2 [4, 5] [vu 0, vi 1] hQ h
 rw [if_neg c1] at h
 refine N_bd 14 (beq_eq_false_iff_ne.mpr c1) ?_
 refine T_nd 1 [] [(15, .string name)] ?_
 refine T_c (some 16) h ?_; clear h
 rintro v H1 ⟨x, rfl, h⟩
 refine T_pd [15] [(16, .bool x)] ?_
 refine T_ed 3 [14, 16] [(11, .bool (!x))] ?_
 by_cases c3 : x = true
 ·rw [if_pos c3] at h
  refine T_cFz 11 (congrArg Bool.not (c3)) ?_
  refine T_srz 3 ?_
  refine T_nd 1 [11] [(20, .string name)] ?_
  refine T_c (some 21) h ?_; clear h
  rintro q H2 ⟨i, rfl, h⟩
  refine T_pd [20] [(21, vi i)] ?_
  refine T_ed 2 [21] [(19, .bool (decide (i > 62)))] ?_
  by_cases c5 : i > 62
  ·rw [if_pos c5] at h
   refine T_cTz 19 (decide_eq_true c5) ?_
   refine T_srz 4 ?_
   exact T_nr 2 [4, 5] [vu 0, vi 6] hQ h
  rw [if_neg c5] at h
  refine T_cFz 19 (decide_eq_false c5) ?_
  refine T_k ?_
  refine S_blockEnd ?_
  refine S_then ?_
  refine T_sz ?_
  refine T_srz 5 ?_
  refine T_nd 2 [19] [(24, vp hv), (25, .string name)] ?_
  refine T_c (some 26) h ?_; clear h
  rintro p H3 ⟨ra, rb, rfl, h⟩
  refine T_pd [24, 25] [(26, .tuple #[vu ra, .bool rb])] ?_
  refine T_ed 5 [26] [(6, vu ra), (7, .bool rb)] ?_
  refine T_srz 6 ?_
  refine T_ed 1 [7] [(29, .bool rb)] ?_
  by_cases c7 : rb = true
  ·rw [if_pos c7] at h
   refine T_cTz 29 c7 ?_
   refine T_srz 7 ?_
   exact T_nr 3 [4, 5] [vu ra, vi 0] hQ h
  rw [if_neg c7] at h
  refine T_cFz 29 (eq_false_of_ne_true c7) ?_
  refine T_kt ?_
  refine T_sz ?_
  refine T_srz 8 ?_
  refine T_nd 1 [6, 29] [(31, vp hv)] ?_
  rcases hv with _ | a
  ·rw [onPtr_none] at h
   refine T_ed 1 [0, 31] [(0, vp none), (32, .bool true)] ?_
   refine T_tz 32 ?_
   refine T_srz 9 ?_
   exact T_nr 2 [4, 5] [vu 0, vi 2] hQ h
  rw [onPtr_some] at h
  refine T_ed 1 [0, 31] [(0, vp (some a)), (32, .bool false)] ?_
  refine T_fz 32 ?_
  refine T_kt ?_
  refine T_srz 10 ?_
  refine T_nd 2 [1, 32] [(34, vp (some a)), (35, .string name)] ?_
  refine T_c (some 36) h ?_; clear h
  rintro o H4 ⟨g, f, rfl, h⟩
  refine T_pd [34, 35] [(36, .tuple #[vu g, vi f])] ?_
  refine T_ed 5 [36] [(8, vu g), (9, vi f)] ?_
  refine T_sz ?_
  refine T_srz 11 ?_
  refine T_ed 2 [] [(40, .bool (f != 0))] ?_
  by_cases c9 : f = 0
  ·rw [if_pos c9] at h
   refine T_cFz 40 (bne_eq_false_iff_eq.mpr c9) ?_
   refine T_kt ?_
   refine T_srz 13 ?_
   refine T_nd 2 [8, 9, 40] [(43, vp (some a)), (44, vu g)] ?_
   refine T_nw (some 45) (fun b => vs (pa b) 1 1) (.cells #[vu g] 35) ?_
   intro b H5 e11 e12
   replace h := h b H5 e11 e12
   refine T_pd [44] [(45, vs (pa b) 1 1)] ?_
   refine T_c (some 46) h ?_; clear h
   rintro m H6 ⟨e, d, rfl, h⟩
   refine T_pd [43, 45] [(46, .tuple #[vu e, vi d])] ?_
   refine T_ed 5 [46] [(9, vi d), (10, vu e)] ?_
   refine T_sz ?_
   refine T_srz 14 ?_
   refine T_ed 2 [] [(50, .bool (d == 0))] ?_
   by_cases c13 : d = 0
   ·rw [if_pos c13] at h
    refine T_cTz 50 (beq_iff_eq.mpr c13) ?_
    refine T_rz 15 ?_
    refine T_nd 4 [0, 50] [(51, vp (some a)), (54, vp (some (a.add 1)))] ?_
    obtain ⟨xB, xN, xC, q15, h⟩ := h
    refine T_l1 55 43 q15 [54] ?_
    refine T_nd 1 [] [(56, vu e)] ?_
    refine T_nw (some 57) (fun b => vs (pa b) 1 1) (.cells #[vu e] 35) ?_
    intro k H7 e16 e17
    replace h := h k H7 e16 e17
    refine T_pd [56] [(57, vs (pa k) 1 1)] ?_
    refine N_op (some 58) (appendN #[43, 43] 43 #[vs xB xN xC, vs (pa k) 1 1]) _ (fun _=>by kernel_rfl) (ss_append (T := 35) (sz := 1) (bytes := 8) (zero := (vu 0 : Value)) Tryz.underlying43 Tryz.underlying43 rfl (show Tryz.prog.info? 35 = some Tryz.t35 from by kernel_rfl) (by kernel_rfl) (by kernel_rfl) (by decide) (by kernel_rfl) (by first | exact h | (simpa only [Value.cells, List.toList_toArray] using h))) ?_; clear h
    rintro _ H8 ⟨ap, j, rfl, h⟩
    refine T_pd [55, 57] [(58, vs ap (xN + 1) j)] ?_
    refine T_nd 2 [51] [(60, vp (some (a.add 1)))] ?_
    obtain ⟨q19, h⟩ := h
    refine T_st1 43 (vs ap (xN + 1) j) q19 ?_
    intro H9 e18
    replace h := h H9 e18
    refine T_pd [58, 60] [] ?_
    refine T_e ?_
    refine T_srz 16 ?_
    exact T_nr 4 [4, 5] [vu e, vi d] hQ h
   rw [if_neg c13] at h
   refine T_cFz 50 (beq_eq_false_iff_ne.mpr c13) ?_
   refine T_kt ?_
   refine T_srz 16 ?_
   exact T_nr 4 [4, 5] [vu e, vi d] hQ h
  rw [if_neg c9] at h
  refine T_cTz 40 (bne_iff_ne.mpr c9) ?_
  refine T_srz 12 ?_
  exact T_nr 3 [4, 5] [vu 0, vi f] hQ h
 rw [if_neg c3] at h
 refine T_cTz 11 (congrArg Bool.not (eq_false_of_ne_true c3)) ?_
 refine T_srz 2 ?_
 exact T_nr 2 [4, 5] [vu 0, vi 1] hQ h
end syms_Intern

/-! moraine/syms.Find -/
namespace syms_Find
def K0 := Func.code Tryz.f57
def K2 := cb K0
def K4 := cb K2
def K11 := ca K4
def K14 := cb K11
def K15 := ca K14
def K16 := ca K15
def K17 := cb K15
end syms_Find
def syms_Find.pt (hv : Option Addr) (name : ByteArray) (H : Array Obj) (R : Value → Array Obj → Prop) : Prop :=
 ∀ (b : Nat) (H1 : Array Obj), b = H.size → H1 = H.push (.cells #[.string name] 9) →
 ∀ (a : Nat) (H2 : Array Obj), a = H1.size → H2 = H1.push (.cells #[.int .u64 0] 35) →
 ∀ (d : Nat) (H3 : Array Obj), d = H2.size → H3 = H2.push (.cells #[.bool false] 4) →
 onPtr hv (
 (CanPuts H3 (ad a) 0 1) ∧ ∀ H4, H4 = hputs H3 (ad a) [.int .u64 0] 0 →
 (CanPuts H4 (ad d) 0 1) ∧ ∀ H5, H5 = hputs H4 (ad d) [.bool false] 0 →
 ∃ r : Int, hat H5 (ad a) = some (.int .u64 r) ∧
 ∃ t : Bool, hat H5 (ad d) = some (.bool t) ∧
 R (.tuple #[.int .u64 r, .bool t]) H5) (fun o =>
 syms_named.C (some o) H3 (fun v H6 => v = v ∧ 
 ∀ (rc : LoopState → Option Code → Obj) (lp : Nat) (H7 : Array Obj), lp = H6.size + 1 → H7 = (H6.push (.deferred (some []))).push (rc .ready none) →
 ∀ vY : Value, (∀ (e : Int) (x_3 : ByteArray) (H8 : Array Obj) (vRy : Value → Array Obj → Prop), H8[lp]? = some (rc .ready none) →
 ( H8[lp]? = some (rc .ready none) ∧ ∀ H9 : Array Obj, H9 = setBlk H8 lp (rc .busy none) →
 ∃ i : ByteArray, hat H9 (ad b) = some (.string i) ∧
 if x_3.toList = i.toList then (
 (CanPuts H9 (ad a) 0 1) ∧ ∀ k, k = hputs H9 (ad a) [.int .u64 e] 0 →
 (CanPuts k (ad d) 0 1) ∧ ∀ m, m = hputs k (ad d) [.bool true] 0 →
 m[lp]? = some (rc .busy none) ∧
 vRy (.bool false) (setBlk m lp (rc .done (some .ret))))
 else
 H9[lp]? = some (rc .busy none) ∧
 vRy (.bool true) (setBlk H9 lp (rc .ready none))) →
 FC Tryz.prog vY #[.int .u64 e, .string x_3] H8 vRy) →
 FE Tryz.prog v #[vY] H7 (fun _ p =>
 (p[lp]? = some (rc .ready none) ∧ ∀ f : Array Obj, f = setBlk p lp (rc .exhausted none) →
 (CanPuts f (ad a) 0 1) ∧ ∀ j, j = hputs f (ad a) [.int .u64 0] 0 →
 (CanPuts j (ad d) 0 1) ∧ ∀ z, z = hputs j (ad d) [.bool false] 0 →
 Shut (H6.size :: []) z (fun y =>
 ∃ x : Int, hat y (ad a) = some (.int .u64 x) ∧
 ∃ u : Bool, hat y (ad d) = some (.bool u) ∧
 R (.tuple #[.int .u64 x, .bool u]) y)) ∨
 (p[lp]? = some (rc .done (some .ret)) ∧ ∀ f : Array Obj, f = setBlk p lp (rc .exhausted (some .ret)) →
 Shut (H6.size :: []) f (fun aa =>
 ∃ q : Int, hat aa (ad a) = some (.int .u64 q) ∧
 ∃ s : Bool, hat aa (ad d) = some (.bool s) ∧
 R (.tuple #[.int .u64 q, .bool s]) aa)))))
namespace syms_Find
theorem link {hv : Option Addr} {name : ByteArray} {H : Array Obj} {R : Value → Array Obj → Prop} (h : pt hv name H R) : C hv name H R := by
 refine T_en K0 18 Tryz.func57 ?_
 intro w0 Q hQ
 unfold pt at h
 refine T_su [(0, vp hv), (1, .string name)] ?_
 refine T_srz 0 ?_
 refine T_nw (some 3) (fun b => vp (pa b)) (.cells #[.string name] 9) ?_
 intro b H1 e1 e2
 replace h := h b H1 e1 e2
 refine T_pd [1] [(3, vp (pa b))] ?_
 refine T_nw (some 4) (fun b => vp (pa b)) (.cells #[vu 0] 35) ?_
 intro a H2 e3 e4
 replace h := h a H2 e3 e4
 refine T_pd [] [(4, vp (pa a))] ?_
 refine T_nw (some 5) (fun b => vp (pa b)) (.cells #[.bool false] 4) ?_
 intro d H3 e5 e6
 replace h := h d H3 e5 e6
 refine T_pd [] [(5, vp (pa d))] ?_
 refine T_e ?_
 refine T_sz ?_
 refine T_srz 1 ?_
 refine T_nd 1 [] [(8, vp hv)] ?_
 rcases hv with _ | o
 ·rw [onPtr_none] at h
  refine T_ed 1 [0, 8] [(0, vp none), (9, .bool true)] ?_
  refine T_tz 9 ?_
  refine T_srz 2 ?_
  refine T_ud [0, 3, 9] [] ?_
  obtain ⟨q8, h⟩ := h
  refine T_st1 35 (vu 0) q8 ?_
  intro H4 e7
  replace h := h H4 e7
  refine T_pd [] [] ?_
  obtain ⟨q10, h⟩ := h
  refine T_st1 4 (.bool false) q10 ?_
  intro H5 e9
  replace h := h H5 e9
  refine T_pd [] [] ?_
  refine T_e ?_
  refine S_ret (by kernel_rfl) ?_
  show At _ _ _ _ _ (Q .ret)
  obtain ⟨r, q11, h⟩ := h
  obtain ⟨t, q12, h⟩ := h
  exact S_done (fn := Tryz.f57) [vu r, .bool t] hQ (show ResOK _ _ _ [.cell 4 35, .cell 5 4] _ from .cell (by kernel_rfl) (loadOK_one (fun _=>by kernel_rfl) q11) (.cell (by kernel_rfl) (loadOK_one (fun _=>by kernel_rfl) q12) (.nil))) h
 rw [onPtr_some] at h
 refine T_ed 1 [0, 8] [(0, vp (some o)), (9, .bool false)] ?_
 refine T_fz 9 ?_
 refine T_kt ?_
 refine T_sz ?_
 refine T_srz 3 ?_
 refine T_nd 1 [0, 9] [(10, vp (some o))] ?_
 refine T_c (some 11) h ?_; clear h
 rintro v H6 ⟨-, h⟩
 refine T_pd [10] [(11, v)] ?_
 refine T_e ?_
 refine T_bz 0 ?_
 refine S_range (g := .tmp 11) (ps := #[12, 13]) (assign := K16) (body := K17) (v) (by kernel_rfl) (by kernel_rfl) (by kernel_rfl) ?_
 intro rc lp H7 r13 e14 e15 y16
 refine FE.mono (h rc lp H7 e14 e15 (.func (.yield lp) #[] #[]) ?_) ?_
 ·clear h
  intro e x_3 H8 vRy q17 h
  refine y16 #[vu e, .string x_3] H8 vRy (by kernel_rfl) q17 (fun w1x => ?_)
  refine T_sd [] [(12, vu e), (13, .string x_3)] ?_
  refine T_srz 4 ?_
  refine T_ed 1 [11, 12] [(6, vu e)] ?_
  refine T_rz 5 ?_
  refine T_nd 1 [13] [(7, .string x_3)] ?_
  refine N_end (by kernel_rfl) ?_
  obtain ⟨q19, h⟩ := h
  refine S_then ?_
  refine S_begin r13 q19 ?_
  intro H9 e18
  replace h := h H9 e18
  refine T_bz 1 ?_
  refine T_srz 6 ?_
  refine T_nd 1 [7] [(14, .string x_3)] ?_
  obtain ⟨i, q20, h⟩ := h
  refine T_l1 15 9 q20 [3] ?_
  refine T_ed 1 [14, 15] [(16, .bool (x_3.toList == i.toList))] ?_
  by_cases c21 : x_3.toList = i.toList
  ·rw [if_pos c21] at h
   refine T_cTz 16 (beq_iff_eq.mpr c21) ?_
   refine T_srz 7 ?_
   refine T_nd 1 [6, 16] [(17, vu e)] ?_
   obtain ⟨q24, h⟩ := h
   refine T_st1 35 (vu e) q24 ?_
   intro k e23
   replace h := h k e23
   refine T_pd [4, 17] [] ?_
   obtain ⟨q26, h⟩ := h
   refine T_st1 4 (.bool true) q26 ?_
   intro m e25
   replace h := h m e25
   refine ⟨[], pk, ?_⟩
   refine T_e ?_
   refine S_ret (by kernel_rfl) ?_
   show At _ _ _ _ _ (roundPost _ _ _ .ret)
   obtain ⟨q27, h⟩ := h
   exact S_rret r13 q27 h
  rw [if_neg c21] at h
  refine T_cFz 16 (beq_eq_false_iff_ne.mpr c21) ?_
  refine T_k ?_
  refine S_blockEnd ?_
  obtain ⟨q28, h⟩ := h
  exact S_rnormal r13 q28 h
 clear h y16
 rintro _ p (⟨q29, h⟩ | ⟨q29, h⟩)
 ·refine .inl ⟨q29, fun f e38 => ?_⟩
  replace h := h f e38
  refine S_marks (H6.size :: []) rfl ?_
  refine T_sd [3, 11] [] ?_
  refine S_blockEnd ?_
  refine S_then ?_
  refine T_srz 8 ?_
  obtain ⟨q31, h⟩ := h
  refine T_st1 35 (vu 0) q31 ?_
  intro j e30
  replace h := h j e30
  refine T_pd [] [] ?_
  obtain ⟨q33, h⟩ := h
  refine T_st1 4 (.bool false) q33 ?_
  intro z e32
  replace h := h z e32
  refine T_pd [] [] ?_
  refine T_e ?_
  refine S_ret (by kernel_rfl) ?_
  show At _ _ _ _ _ (Q .ret)
  refine S_doneM (fn := Tryz.f57) (H6.size :: []) hQ (Shut.mono (fun y h => ?_) h)
  obtain ⟨x, q34, h⟩ := h
  obtain ⟨u, q35, h⟩ := h
  exact ⟨[vu x, .bool u], (show ResOK _ _ _ [.cell 4 35, .cell 5 4] _ from .cell (by kernel_rfl) (loadOK_one (fun _=>by kernel_rfl) q34) (.cell (by kernel_rfl) (loadOK_one (fun _=>by kernel_rfl) q35) (.nil))), h⟩
 refine .inr ⟨_, q29, fun f e38 => ?_⟩
 replace h := h f e38
 refine S_marks (H6.size :: []) rfl ?_
 refine T_sd [3, 11] [] ?_
 refine S_ret rfl ?_
 show At _ _ _ _ _ (Q .ret)
 refine S_doneM (fn := Tryz.f57) (H6.size :: []) hQ (Shut.mono (fun aa h => ?_) h)
 obtain ⟨q, q36, h⟩ := h
 obtain ⟨s, q37, h⟩ := h
 exact ⟨[vu q, .bool s], (show ResOK _ _ _ [.cell 4 35, .cell 5 4] _ from .cell (by kernel_rfl) (loadOK_one (fun _=>by kernel_rfl) q36) (.cell (by kernel_rfl) (loadOK_one (fun _=>by kernel_rfl) q37) (.nil))), h⟩
end syms_Find

/-! moraine/syms.Name -/
namespace syms_Name
def K0 := Func.code Tryz.f68
end syms_Name
def syms_Name.pt (hv : Option Addr) (wv : Int) (H : Array Obj) (R : Value → Array Obj → Prop) : Prop :=
 onPtr hv (
 R (.tuple #[.string (ByteArray.mk #[]), .int .i64 3]) H) (fun a =>
 obj_Heap_Get.C (some a) wv 4 0 H (fun v H1 => ∃ ra rb : Int, v = .tuple #[.int .u64 ra, .int .i64 rb] ∧ 
 if rb = 0 then (
 obj_Heap_Text.C (some a) ra H1 (fun e H2 => ∃ (d : ByteArray) (b : Int), e = .tuple #[.string d, .int .i64 b] ∧ 
 R (.tuple #[.string d, .int .i64 b]) H2))
 else
 R (.tuple #[.string (ByteArray.mk #[]), .int .i64 3]) H1))
namespace syms_Name
theorem link {hv : Option Addr} {wv : Int} {H : Array Obj} {R : Value → Array Obj → Prop} (h : pt hv wv H R) : C hv wv H R := by
 refine T_en K0 23 Tryz.func68 ?_
 intro w0 Q hQ
 unfold pt at h
 refine T_su [(0, vp hv), (1, vu wv)] ?_
 refine T_srz 0 ?_
 refine T_ed 2 [] [] ?_
 refine T_sz ?_
 refine T_srz 1 ?_
 refine T_nd 1 [] [(8, vp hv)] ?_
 rcases hv with _ | a
 ·rw [onPtr_none] at h
  refine T_ed 1 [0, 8] [(0, vp none), (9, .bool true)] ?_
  refine T_tz 9 ?_
  refine T_srz 2 ?_
  exact T_nr 2 [4, 5] [.string (ByteArray.mk #[]), vi 3] hQ h
 rw [onPtr_some] at h
 refine T_ed 1 [0, 8] [(0, vp (some a)), (9, .bool false)] ?_
 refine T_fz 9 ?_
 refine T_kt ?_
 refine T_srz 3 ?_
 refine T_nd 2 [1, 9] [(11, vp (some a)), (12, vu wv)] ?_
 refine T_c (some 13) h ?_; clear h
 rintro v H1 ⟨ra, rb, rfl, h⟩
 refine T_pd [11, 12] [(13, .tuple #[vu ra, vi rb])] ?_
 refine T_ed 5 [13] [(6, vu ra), (7, vi rb)] ?_
 refine T_sz ?_
 refine T_srz 4 ?_
 refine T_ed 2 [7] [(17, .bool (rb != 0))] ?_
 by_cases c1 : rb = 0
 ·rw [if_pos c1] at h
  refine T_cFz 17 (bne_eq_false_iff_eq.mpr c1) ?_
  refine T_kt ?_
  refine T_srz 6 ?_
  refine T_n 2 [(18, vp (some a)), (19, vu ra)] ?_
  refine T_c (some 20) h ?_; clear h
  rintro e H2 ⟨d, b, rfl, h⟩
  refine ⟨[(20, .tuple #[.string d, vi b])], pk, ?_⟩
  exact T_nr 4 [4, 5] [.string d, vi b] hQ h
 rw [if_neg c1] at h
 refine T_cTz 17 (bne_iff_ne.mpr c1) ?_
 refine T_srz 5 ?_
 exact T_nr 2 [4, 5] [.string (ByteArray.mk #[]), vi 3] hQ h
end syms_Name

/-! moraine/syms.named -/
namespace syms_named
def K0 := Func.code Tryz.f92
end syms_named
def syms_named.pt (hv : Option Addr) (H : Array Obj) (R : Value → Array Obj → Prop) : Prop :=
 ∀ (b : Nat) (H1 : Array Obj), b = H.size → H1 = H.push (.cells #[.pointer hv] 30) →
 R (.func (.func 119) #[] #[.pointer (some (ad b))]) H1
namespace syms_named
theorem link {hv : Option Addr} {H : Array Obj} {R : Value → Array Obj → Prop} (h : pt hv H R) : C hv H R := by
 refine T_en K0 4 Tryz.func92 ?_
 intro w0 Q hQ
 unfold pt at h
 refine T_su [(0, vp hv)] ?_
 refine T_srz 0 ?_
 refine T_nw (some 1) (fun b => vp (pa b)) (.cells #[vp hv] 30) ?_
 intro b H1 e1 e2
 replace h := h b H1 e1 e2
 refine ⟨[(1, vp (pa b))], pk, ?_⟩
 refine T_ed 1 [] [] ?_
 refine T_srz 1 ?_
 exact T_nr 2 [2] [.func (.func 119) #[] #[vp (pa b)]] hQ h
end syms_named

/-! moraine/syms.named.1 -/
namespace syms_named_1
def K0 := Func.code Tryz.f119
def K2 := cb K0
def K3 := ca K2
def K4 := ca K3
end syms_named_1
def syms_named_1.pt (yield : Value) (cap0 : Option Addr) (H : Array Obj) (R : Value → Array Obj → Prop) : Prop :=
 ∃ b : Addr, cap0 = some b ∧
 ∃ x : Option Addr, hat H b = some (.pointer x) ∧
 ∃ xA : Addr, x = some xA ∧
 ∃ (xB : Option Addr) (xN xC : Nat), hat H (xA.add 1) = some (.slice xB xN xC) ∧
 ∃ (I5 : Int → Array Obj → Prop) (m5 : Int → Array Obj → Nat), I5 0 H ∧ ∀ (d : Int) (H1 : Array Obj), I5 d H1 →
 if d < (xN : Int) then (
 ∃ e : Addr, xB = some e ∧
 ((0 : Int) ≤ d ∧ d < (xN : Int)) ∧
 ∃ f : Int, hat H1 (e.add (Int.toNat d * 1)) = some (.int .u64 f) ∧
 ∃ j : Option Addr, hat H1 b = some (.pointer j) ∧
 syms_Name.C j f H1 (fun v H2 => ∃ (ra : ByteArray) (rb : Int), v = .tuple #[.string ra, .int .i64 rb] ∧ 
 if rb = 0 then (
 FC Tryz.prog yield #[.int .u64 f, .string ra] H2 (fun m H3 => ∃ g : Bool, m = .bool g ∧ 
 if g = true then (
 (I5 (IntKind.wrap .i64 (d + 1)) H3 ∧ m5 (IntKind.wrap .i64 (d + 1)) H3 < m5 d H1))
 else
 R (.tuple #[]) H3))
 else
 (I5 (IntKind.wrap .i64 (d + 1)) H2 ∧ m5 (IntKind.wrap .i64 (d + 1)) H2 < m5 d H1)))
 else
 R (.tuple #[]) H1
namespace syms_named_1
theorem link {yield : Value} {cap0 : Option Addr} {H : Array Obj} {R : Value → Array Obj → Prop} (h : pt yield cap0 H R) : C yield cap0 H R := by
 refine T_en K0 32 Tryz.func119 ?_
 intro w0 Q hQ
 unfold pt at h
 refine T_su [(0, yield), (1, vp cap0)] ?_
 refine T_srz 0 ?_
 obtain ⟨b, rfl, h⟩ := h
 obtain ⟨x, q1, h⟩ := h
 refine T_ld (some 7) 30 q1 [1] [(1, vp (some b)), (7, vp x)] ?_
 obtain ⟨xA, rfl, h⟩ := h
 refine T_nd 2 [7] [(9, vp (some (xA.add 1)))] ?_
 obtain ⟨xB, xN, xC, q2, h⟩ := h
 refine T_l1 10 43 q2 [9] ?_
 refine T_ed 2 [] [(11, vi xN), (12, vi 0)] ?_
 refine T_bz 0 ?_
 obtain ⟨I5, m5, i3, i4⟩ := h
 refine S_loop (x := K4) (σ := Int) (fun s_ => [(0, yield), (1, vp (some b)), (10, vs xB xN xC), (11, vi xN), (12, vi s_)]) (fun s_ H => I5 s_ H) (fun s_ H => m5 s_ H) (0 : Int) (by kernel_rfl) i3 sk ?_
 rintro d H1 i5
 have h := i4 d H1 i5
 refine T_su [(0, yield), (1, vp (some b)), (10, vs xB xN xC), (11, vi xN), (12, vi d)] ?_
 refine T_srz 1 ?_
 refine T_ed 1 [] [(13, .bool (decide (d < (xN : Int))))] ?_
 refine T_sz ?_
 by_cases c6 : d < (xN : Int)
 ·rw [if_pos c6] at h
  refine T_cTz 13 (decide_eq_true c6) ?_
  refine T_kt ?_
  refine T_sz ?_
  refine T_bz 1 ?_
  refine T_srz 2 ?_
  refine T_ud [13] [] ?_
  obtain ⟨e, rfl, h⟩ := h
  obtain ⟨q8, h⟩ := h
  refine T_xd (some 14) 43 35 1 e xN xC .i64 d Tryz.underlying43 q8.1 q8.2 [10] [(10, vs (some e) xN xC), (14, vp (some (e.add (Int.toNat d * 1))))] ?_
  obtain ⟨f, q9, h⟩ := h
  refine T_l1 15 35 q9 [14] ?_
  refine T_ed 1 [15] [(4, vu f)] ?_
  refine T_srz 3 ?_
  obtain ⟨j, q10, h⟩ := h
  refine T_l1 17 30 q10 [] ?_
  refine T_nd 1 [] [(18, vu f)] ?_
  refine T_c (some 19) h ?_; clear h
  rintro v H2 ⟨ra, rb, rfl, h⟩
  refine T_pd [17, 18] [(19, .tuple #[.string ra, vi rb])] ?_
  refine T_ed 5 [19] [(5, .string ra), (6, vi rb)] ?_
  refine T_srz 4 ?_
  refine T_nd 3 [6] [(24, .bool (rb == 0))] ?_
  by_cases c11 : rb = 0
  ·rw [if_pos c11] at h
   refine N_bd 24 (beq_iff_eq.mpr c11) ?_
   refine T_nd 3 [4, 5] [(25, yield), (26, vu f), (27, .string ra)] ?_
   refine N_callv (some 28) yield #[vu f, .string ra] (fun _=>by kernel_rfl) h ?_; clear h
   rintro m H3 ⟨g, rfl, h⟩
   refine T_pd [25, 26, 27] [(28, .bool g)] ?_
   refine T_ed 2 [24, 28] [(30, .bool (!g))] ?_
   by_cases c13 : g = true
   ·rw [if_pos c13] at h
    refine T_cFz 30 (congrArg Bool.not (c13)) ?_
    refine T_k ?_
    refine S_blockEnd ?_
    refine S_then ?_
    refine T_rz 5 ?_
    refine T_ed 2 [12, 30] [(12, vi (IntKind.wrap .i64 (d + 1)))] ?_
    exact S_round ((IntKind.wrap .i64 (d + 1)) : Int) sk h
   rw [if_neg c13] at h
   refine T_cTz 30 (congrArg Bool.not (eq_false_of_ne_true c13)) ?_
   exact T_ret [] [] hQ h
  rw [if_neg c11] at h
  refine N_bd 24 (beq_eq_false_iff_ne.mpr c11) ?_
  refine T_ed 6 [4, 5, 24] [(30, .bool false)] ?_
  refine T_fz 30 ?_
  refine T_k ?_
  refine S_blockEnd ?_
  refine S_then ?_
  refine T_rz 5 ?_
  refine T_ed 2 [12, 30] [(12, vi (IntKind.wrap .i64 (d + 1)))] ?_
  exact S_round ((IntKind.wrap .i64 (d + 1)) : Int) sk h
 rw [if_neg c6] at h
 refine T_cFz 13 (decide_eq_false c6) ?_
 refine S_exit 0 (by kernel_rfl) ?_
 refine S_exitThen ?_
 refine S_exitThen ?_
 refine S_exitHere ?_
 exact S_doneN (fn := Tryz.f119) [] hQ (show ResOK _ _ _ [] _ from .nil) h
end syms_named_1

/-! moraine/morainelaw17.awake -/
namespace morainelaw17_awake
def K0 := Func.code Tryz.f8
end morainelaw17_awake
def morainelaw17_awake.pt  (H : Array Obj) (R : Value → Array Obj → Prop) : Prop :=
 obj_New.C 16 H (fun v H1 => ∃ (ra : Option Addr) (rb : Int), v = .tuple #[.pointer ra, .int .i64 rb] ∧ 
 if rb = 0 then (
 ∀ (b : Nat) (H2 : Array Obj), b = H1.size → H2 = H1.push (.cells #[.int .i64 1, .int .i32 0, .bool false, .slice none 0 0, .string (ByteArray.mk #[]), .slice none 0 0, .int .i64 6, .int .i32 0, .bool false, .slice none 0 0, .string (ByteArray.mk #[97]), .slice none 0 0] 27) →
 moraineref03_List.C (some (ad b)) 2 2 H2 (fun bl H3 => ∃ (an xC : Int) (ao : Bool) (ai : Option Addr) (ah ag : Nat) (xT : ByteArray) (bd : Option Addr) (bc be : Nat), bl = .agg (DR an xC ao ai ah ag xT bd bc be).toArray ∧ 
 ∀ (e : Nat) (H4 : Array Obj), e = H3.size → H4 = H3.push (.cells (DR 0 0 false none 0 0 (ByteArray.mk #[]) none 0 0).toArray 27) →
 (CanPuts H4 (ad e) 0 6) ∧ ∀ H5, H5 = hputs H4 (ad e) (DR an xC ao ai ah ag xT bd bc be) 0 →
 ∃ ak bb aj z ae af a9 a3 a0 a2, RowAt H5 (ad e) 0 (DR ak bb aj z ae af a9 a3 a0 a2) ∧
 build_Heap.C ra ak bb aj z ae af a9 a3 a0 a2 H5 (fun bj H6 => ∃ m f : Int, bj = .tuple #[.int .u64 m, .int .i64 f] ∧ 
 build_Datum.C ra m H6 (fun bk H7 => ∃ (t a6 : Int) (s : Bool) (i : Option Addr) (j k : Nat) (a7 : ByteArray) (aw : Option Addr) (au aq : Nat) (g : Int), bk = .tuple #[.agg (DR t a6 s i j k a7 aw au aq).toArray, .int .i64 g] ∧ 
 ∀ (o : Nat) (H8 : Array Obj), o = H7.size → H8 = H7.push (.cells (DR 0 0 false none 0 0 (ByteArray.mk #[]) none 0 0).toArray 27) →
 (CanPuts H8 (ad o) 0 6) ∧ ∀ H9, H9 = hputs H8 (ad o) (DR t a6 s i j k a7 aw au aq) 0 →
 obj_Heap_Car.C ra m H9 (fun bg bf => ∃ d a : Int, bg = .tuple #[.int .u64 d, .int .i64 a] ∧ 
 if f = 0 then (
 if g = 0 then (
 ∃ y a5 u p r q a4 ax av ap, RowAt bf (ad o) 0 (DR y a5 u p r q a4 ax av ap) ∧
 ∃ am a8 al aa ac ab ba a1 az ay, RowAt bf (ad e) 0 (DR am a8 al aa ac ab ba a1 az ay) ∧
 moraineref03_Same.C y a5 u p r q a4 ax av ap am a8 al aa ac ab ba a1 az ay bf (fun bh bi => ∃ x : Bool, bh = .bool x ∧ 
 R (.bool ((x && (a == 0)) && (d == 12))) bi))
 else
 R (.bool false) bf)
 else
 R (.bool false) bf)))))
 else
 R (.bool false) H1)
namespace morainelaw17_awake
set_option maxRecDepth 100000 in
theorem link  {H : Array Obj} {R : Value → Array Obj → Prop} (h : pt  H R) : C  H R := by
 refine T_en K0 57 Tryz.func8 ?_
 intro w0 Q hQ
 unfold pt at h
 refine T_su [] ?_
 refine T_srz 0 ?_
 refine T_ne 1 [] ?_
 refine T_srz 1 ?_
 refine T_c (some 11) h ?_; clear h
 rintro v H1 ⟨ra, rb, rfl, h⟩
 refine ⟨[(11, .tuple #[vp ra, vi rb])], pk, ?_⟩
 refine T_ne 5 [(1, vp ra), (2, vi rb)] ?_
 refine T_sz ?_
 refine T_srz 2 ?_
 refine T_ed 2 [2] [(15, .bool (rb != 0))] ?_
 by_cases c1 : rb = 0
 ·rw [if_pos c1] at h
  refine T_cFz 15 (bne_eq_false_iff_eq.mpr c1) ?_
  refine T_kt ?_
  refine T_srz 4 ?_
  refine T_nd 2 [15] [(16, .agg (DR 1 0 false none 0 0 (ByteArray.mk #[]) none 0 0).toArray), (17, .agg (DR 6 0 false none 0 0 (ByteArray.mk #[97]) none 0 0).toArray)] ?_
  refine T_nw (some 18) (fun b => vs (pa b) 2 2) (.cells #[vi 1, .int .i32 0, .bool false, vs none 0 0, .string (ByteArray.mk #[]), vs none 0 0, vi 6, .int .i32 0, .bool false, vs none 0 0, .string (ByteArray.mk #[97]), vs none 0 0] 27) ?_
  intro b H2 e3 e4
  replace h := h b H2 e3 e4
  refine T_pd [16, 17] [(18, vs (pa b) 2 2)] ?_
  refine T_c (some 19) h ?_; clear h
  rintro bl H3 ⟨an, xC, ao, ai, ah, ag, xT, bd, bc, be, rfl, h⟩
  refine T_pd [18] [(19, .agg (DR an xC ao ai ah ag xT bd bc be).toArray)] ?_
  refine T_nw (some 3) (fun b => vp (pa b)) (.cells (DR 0 0 false none 0 0 (ByteArray.mk #[]) none 0 0).toArray 27) ?_
  intro e H4 e5 e6
  replace h := h e H4 e5 e6
  refine T_pd [] [(3, vp (pa e))] ?_
  obtain ⟨q8, h⟩ := h
  refine T_sta 27 (DR an xC ao ai ah ag xT bd bc be) q8 ?_
  intro H5 e7
  replace h := h H5 e7
  refine T_pd [19] [] ?_
  refine T_e ?_
  refine T_srz 5 ?_
  refine T_nd 1 [] [(21, vp ra)] ?_
  obtain ⟨ak, bb, aj, z, ae, af, a9, a3, a0, a2, q9, h⟩ := h
  refine T_lr 22 27 q9 [] ?_
  refine T_c (some 23) h ?_; clear h
  rintro bj H6 ⟨m, f, rfl, h⟩
  refine T_pd [21, 22] [(23, .tuple #[vu m, vi f])] ?_
  refine T_ed 5 [23] [(4, vu m), (5, vi f)] ?_
  refine T_srz 6 ?_
  refine T_nd 2 [] [(27, vp ra), (28, vu m)] ?_
  refine T_c (some 29) h ?_; clear h
  rintro bk H7 ⟨t, a6, s, i, j, k, a7, aw, au, aq, g, rfl, h⟩
  refine T_pd [27, 28] [(29, .tuple #[.agg (DR t a6 s i j k a7 aw au aq).toArray, vi g])] ?_
  refine T_nd 3 [29] [(30, .agg (DR t a6 s i j k a7 aw au aq).toArray), (31, vi g)] ?_
  refine T_nw (some 6) (fun b => vp (pa b)) (.cells (DR 0 0 false none 0 0 (ByteArray.mk #[]) none 0 0).toArray 27) ?_
  intro o H8 e10 e11
  replace h := h o H8 e10 e11
  refine T_pd [] [(6, vp (pa o))] ?_
  obtain ⟨q13, h⟩ := h
  refine T_sta 27 (DR t a6 s i j k a7 aw au aq) q13 ?_
  intro H9 e12
  replace h := h H9 e12
  refine T_pd [30] [] ?_
  refine T_ed 1 [31] [(7, vi g)] ?_
  refine T_srz 7 ?_
  refine T_nd 2 [1, 4] [(33, vp ra), (34, vu m)] ?_
  refine T_c (some 35) h ?_; clear h
  rintro bg bf ⟨d, a, rfl, h⟩
  refine T_pd [33, 34] [(35, .tuple #[vu d, vi a])] ?_
  refine T_ed 5 [35] [(8, vu d), (9, vi a)] ?_
  refine T_srz 8 ?_
  refine T_nd 3 [5] [(40, .bool (f == 0))] ?_
  by_cases c14 : f = 0
  ·rw [if_pos c14] at h
   refine N_bd 40 (beq_iff_eq.mpr c14) ?_
   refine T_nd 4 [7, 40] [(44, .bool (g == 0))] ?_
   by_cases c16 : g = 0
   ·rw [if_pos c16] at h
    refine N_bd 44 (beq_iff_eq.mpr c16) ?_
    obtain ⟨y, a5, u, p, r, q, a4, ax, av, ap, q18, h⟩ := h
    refine T_lr 45 27 q18 [6] ?_
    obtain ⟨am, a8, al, aa, ac, ab, ba, a1, az, ay, q19, h⟩ := h
    refine T_lr 46 27 q19 [3] ?_
    refine T_c (some 47) h ?_; clear h
    rintro bh bi ⟨x, rfl, h⟩
    refine T_pd [45, 46] [(47, .bool x)] ?_
    refine T_nd 2 [44, 47] [(49, .bool x)] ?_
    refine N_cut [(0, .bool ((x && (a == 0)) && (d == 12)))] ?_ ?_
    ·refine S_then ?_
     exact T_ret [0] [.bool ((x && (a == 0)) && (d == 12))] hQ h
    intro hk
    refine T_nu [(8, vu d), (9, vi a), (49, .bool x)] ?_
    by_cases c20 : x = true
    ·have b21 : x = true := c20
     refine N_env [(8, vu d), (9, vi a), (49, .bool true)] (by rw [b21]) ?_
     refine T_nd 4 [9, 49] [(53, .bool (a == 0))] ?_
     by_cases c22 : a = 0
     ·have b23 : (a == 0) = true := beq_iff_eq.mpr c22
      refine N_bd 53 b23 ?_
      refine T_n 4 [(0, .bool (d == 12))] ?_
      refine N_end (by kernel_rfl) ?_
      refine S_env [(0, .bool ((x && (a == 0)) && (d == 12)))] (by simp only [b21, b23, BL]) ?_
      exact hk
     have b23 : (a == 0) = false := beq_eq_false_iff_ne.mpr c22
     refine N_bd 53 b23 ?_
     refine T_n 4 [(0, .bool false)] ?_
     refine N_end (by kernel_rfl) ?_
     refine S_env [(0, .bool ((x && (a == 0)) && (d == 12)))] (by simp only [b21, b23, BL]) ?_
     exact hk
    have b21 : x = false := eq_false_of_ne_true c20
    refine N_env [(8, vu d), (9, vi a), (49, .bool false)] (by rw [b21]) ?_
    refine T_n 8 [(0, .bool false)] ?_
    refine N_end (by kernel_rfl) ?_
    refine S_env [(0, .bool ((x && (a == 0)) && (d == 12)))] (by simp only [b21, BL]) ?_
    exact hk
   rw [if_neg c16] at h
   refine N_bd 44 (beq_eq_false_iff_ne.mpr c16) ?_
   exact T_nr 13 [0] [.bool false] hQ h
  rw [if_neg c14] at h
  refine N_bd 40 (beq_eq_false_iff_ne.mpr c14) ?_
  exact T_nr 17 [0] [.bool false] hQ h
 rw [if_neg c1] at h
 refine T_cTz 15 (bne_iff_ne.mpr c1) ?_
 refine T_srz 3 ?_
 exact T_nr 1 [0] [.bool false] hQ h
end morainelaw17_awake

/-! moraine/morainelaw17.BuildTwice -/
namespace morainelaw17_BuildTwice
def K0 := Func.code Tryz.f3
end morainelaw17_BuildTwice
def morainelaw17_BuildTwice.pt (dKind : Int) (dC : Int) (dNNeg : Bool) (dNMagB : Option Addr) (dNMagN : Nat) (dNMagC : Nat) (dT : ByteArray) (dLB : Option Addr) (dLN : Nat) (dLC : Nat) (H : Array Obj) (R : Value → Array Obj → Prop) : Prop :=
 ∀ (b : Nat) (H1 : Array Obj), b = H.size → H1 = H.push (.cells (DR dKind dC dNNeg dNMagB dNMagN dNMagC dT dLB dLN dLC).toArray 27) →
 ∃ b4 xC cc bk bj bl xT dd dc df, RowAt H1 (ad b) 0 (DR b4 xC cc bk bj bl xT dd dc df) ∧
 morainelaw17_heavy.C b4 xC cc bk bj bl xT dd dc df H1 (fun v H2 => ∃ x : Bool, v = .bool x ∧ 
 if x = true then (
 morainelaw17_awake.C  H2 (fun d5 H3 => ∃ db : Bool, d5 = .bool db ∧ 
 R (.bool db) H3))
 else
 ∃ bg cy a8 au a2 am cq cg cf b7, RowAt H2 (ad b) 0 (DR bg cy a8 au a2 am cq cg cf b7) ∧
 moraineref03_May.C bg cy a8 au a2 am cq cg cf b7 H2 (fun d3 H4 => ∃ cj : Bool, d3 = .bool cj ∧ 
 if cj = true then (
 obj_New.C 600 H4 (fun d2 H5 => ∃ (ra : Option Addr) (rb : Int), d2 = .tuple #[.pointer ra, .int .i64 rb] ∧ 
 ∃ bd cv bc aq al ak c0 b2 b1 b3, RowAt H5 (ad b) 0 (DR bd cv bc aq al ak c0 b2 b1 b3) ∧
 build_Heap.C ra bd cv bc aq al ak c0 b2 b1 b3 H5 (fun d7 H6 => ∃ d e : Int, d7 = .tuple #[.int .u64 d, .int .i64 e] ∧ 
 ∃ a9 cw bb ay a3 av cr b6 ce bz, RowAt H6 (ad b) 0 (DR a9 cw bb ay a3 av cr b6 ce bz) ∧
 build_Heap.C ra a9 cw bb ay a3 av cr b6 ce bz H6 (fun d0 H7 => ∃ a o : Int, d0 = .tuple #[.int .u64 a, .int .i64 o] ∧ 
 if (((rb != 0) || (e != 0)) || (o != 0)) = true then (
 ∃ J : Bool → Array Obj → Prop, (
 if rb = 0 then (
 morainelaw17_awake.C  H7 (fun d1 H9 => ∃ da : Bool, d1 = .bool da ∧ 
 J da H9))
 else
 J false H7) ∧ ∀ (s2 : Bool) (H8 : Array Obj), J s2 H8 →
 R (.bool s2) H8)
 else
 ∃ a4 : Int, hat H7 (ad b) = some (.int .i64 a4) ∧
 if a4 = 6 then (
 if d = a then (
 morainelaw17_awake.C  H7 (fun d4 dx => ∃ c9 : Bool, d4 = .bool c9 ∧ 
 R (.bool c9) dx))
 else
 R (.bool false) H7)
 else
 if a4 = 7 then (
 if d = a then (
 R (.bool false) H7)
 else
 obj_Heap_SetCar.C ra d 28 H7 (fun dv dl => ∃ c5 : Int, dv = .int .i64 c5 ∧ 
 if c5 = 0 then (
 build_Datum.C ra a dl (fun dj dm => ∃ (ac cp : Int) (ab : Bool) (p : Option Addr) (q r : Nat) (co : ByteArray) (bo : Option Addr) (bn bt : Nat) (j : Int), dj = .tuple #[.agg (DR ac cp ab p q r co bo bn bt).toArray, .int .i64 j] ∧ 
 ∀ (ah : Nat) (H13 : Array Obj), ah = dm.size → H13 = dm.push (.cells (DR 0 0 false none 0 0 (ByteArray.mk #[]) none 0 0).toArray 27) →
 (CanPuts H13 (ad ah) 0 6) ∧ ∀ c6, c6 = hputs H13 (ad ah) (DR ac cp ab p q r co bo bn bt) 0 →
 if j = 6 then (
 morainelaw17_awake.C  c6 (fun dt dw => ∃ de : Bool, dt = .bool de ∧ 
 R (.bool de) dw))
 else
 if j = 0 then (
 ∃ ai ck ax y t u cm bu bp bq, RowAt c6 (ad ah) 0 (DR ai ck ax y t u cm bu bp bq) ∧
 ∃ bf c2 ba aw az a1 cz ci cd bx, RowAt c6 (ad b) 0 (DR bf c2 ba aw az a1 cz ci cd bx) ∧
 moraineref03_Same.C ai ck ax y t u cm bu bp bq bf c2 ba aw az a1 cz ci cd bx c6 (fun di du => ∃ c3 : Bool, di = .bool c3 ∧ 
 if c3 = true then (
 morainelaw17_awake.C  du (fun dn dz => ∃ c1 : Bool, dn = .bool c1 ∧ 
 R (.bool c1) dz))
 else
 R (.bool false) du))
 else
 R (.bool false) c6))
 else
 R (.bool false) dl))
 else
 build_Datum.C ra a H7 (fun dh dp => ∃ (k a6 : Int) (m : Bool) (i : Option Addr) (f g : Nat) (a7 : ByteArray) (ae : Option Addr) (ag af : Nat) (a5 : Int), dh = .tuple #[.agg (DR k a6 m i f g a7 ae ag af).toArray, .int .i64 a5] ∧ 
 ∀ (bi : Nat) (H19 : Array Obj), bi = dp.size → H19 = dp.push (.cells (DR 0 0 false none 0 0 (ByteArray.mk #[]) none 0 0).toArray 27) →
 (CanPuts H19 (ad bi) 0 6) ∧ ∀ c8, c8 = hputs H19 (ad bi) (DR k a6 m i f g a7 ae ag af) 0 →
 if a5 = 0 then (
 ∃ ao cn a0 aa s z cl br bm bs, RowAt c8 (ad bi) 0 (DR ao cn a0 aa s z cl br bm bs) ∧
 ∃ be cs bh ap aj an ct ch b0 b9, RowAt c8 (ad b) 0 (DR be cs bh ap aj an ct ch b0 b9) ∧
 moraineref03_Same.C ao cn a0 aa s z cl br bm bs be cs bh ap aj an ct ch b0 b9 c8 (fun dg dr => ∃ bw : Bool, dg = .bool bw ∧ 
 if bw = true then (
 morainelaw17_awake.C  dr (fun dk d6 => ∃ cx : Bool, dk = .bool cx ∧ 
 R (.bool cx) d6))
 else
 R (.bool false) dr))
 else
 R (.bool false) c8)))))
 else
 morainelaw17_awake.C  H4 (fun dq dy => ∃ cu : Bool, dq = .bool cu ∧ 
 R (.bool cu) dy)))
namespace morainelaw17_BuildTwice
theorem link {dKind : Int} {dC : Int} {dNNeg : Bool} {dNMagB : Option Addr} {dNMagN : Nat} {dNMagC : Nat} {dT : ByteArray} {dLB : Option Addr} {dLN : Nat} {dLC : Nat} {H : Array Obj} {R : Value → Array Obj → Prop} (h : pt dKind dC dNNeg dNMagB dNMagN dNMagC dT dLB dLN dLC H R) : C dKind dC dNNeg dNMagB dNMagN dNMagC dT dLB dLN dLC H R := by
 refine T_en K0 109 Tryz.func3 ?_
 intro w0 Q hQ
 unfold pt at h
 refine T_su [(0, .agg (DR dKind dC dNNeg dNMagB dNMagN dNMagC dT dLB dLN dLC).toArray)] ?_
 refine T_srz 0 ?_
 refine T_nw (some 1) (fun b => vp (pa b)) (.cells (DR dKind dC dNNeg dNMagB dNMagN dNMagC dT dLB dLN dLC).toArray 27) ?_
 intro b H1 e1 e2
 replace h := h b H1 e1 e2
 refine ⟨[(1, vp (pa b))], pk, ?_⟩
 refine T_ed 1 [] [] ?_
 refine T_sz ?_
 refine T_srz 1 ?_
 obtain ⟨b4, xC, cc, bk, bj, bl, xT, dd, dc, df, q3, h⟩ := h
 refine T_lr 13 27 q3 [] ?_
 refine T_c (some 14) h ?_; clear h
 rintro v H2 ⟨x, rfl, h⟩
 refine T_pd [13] [(14, .bool x)] ?_
 refine T_nd 1 [14] [(15, .bool x)] ?_
 by_cases c4 : x = true
 ·rw [if_pos c4] at h
  refine N_bd 15 c4 ?_
  refine T_ed 4 [15] [(19, .bool true)] ?_
  refine T_tz 19 ?_
  refine T_srz 2 ?_
  refine T_nu [] ?_
  refine T_c (some 20) h ?_; clear h
  rintro d5 H3 ⟨db, rfl, h⟩
  refine ⟨[(20, .bool db)], pk, ?_⟩
  exact T_nr 1 [2] [.bool db] hQ h
 rw [if_neg c4] at h
 refine N_bd 15 (eq_false_of_ne_true c4) ?_
 obtain ⟨bg, cy, a8, au, a2, am, cq, cg, cf, b7, q6, h⟩ := h
 refine T_lr 16 27 q6 [] ?_
 refine T_c (some 17) h ?_; clear h
 rintro d3 H4 ⟨cj, rfl, h⟩
 refine T_pd [16] [(17, .bool cj)] ?_
 refine T_ed 2 [15, 17] [(19, .bool (!cj))] ?_
 by_cases c7 : cj = true
 ·rw [if_pos c7] at h
  refine T_cFz 19 (congrArg Bool.not (c7)) ?_
  refine T_kt ?_
  refine T_srz 3 ?_
  refine T_ud [19] [] ?_
  refine T_c (some 22) h ?_; clear h
  rintro d2 H5 ⟨ra, rb, rfl, h⟩
  refine T_pd [] [(22, .tuple #[vp ra, vi rb])] ?_
  refine T_ed 5 [22] [(3, vp ra), (4, vi rb)] ?_
  refine T_srz 4 ?_
  refine T_nd 1 [] [(26, vp ra)] ?_
  obtain ⟨bd, cv, bc, aq, al, ak, c0, b2, b1, b3, q9, h⟩ := h
  refine T_lr 27 27 q9 [] ?_
  refine T_c (some 28) h ?_; clear h
  rintro d7 H6 ⟨d, e, rfl, h⟩
  refine T_pd [26, 27] [(28, .tuple #[vu d, vi e])] ?_
  refine T_ed 5 [28] [(5, vu d), (6, vi e)] ?_
  refine T_srz 5 ?_
  refine T_nd 1 [] [(32, vp ra)] ?_
  obtain ⟨a9, cw, bb, ay, a3, av, cr, b6, ce, bz, q10, h⟩ := h
  refine T_lr 33 27 q10 [] ?_
  refine T_c (some 34) h ?_; clear h
  rintro d0 H7 ⟨a, o, rfl, h⟩
  refine T_pd [32, 33] [(34, .tuple #[vu a, vi o])] ?_
  refine T_ed 5 [34] [(7, vu a), (8, vi o)] ?_
  refine T_sz ?_
  refine T_srz 6 ?_
  refine N_cut [(1, vp (pa b)), (3, vp ra), (4, vi rb), (5, vu d), (7, vu a), (46, .bool (((rb != 0) || (e != 0)) || (o != 0)))] ?_ ?_
  ·refine S_then ?_
   by_cases c15 : (((rb != 0) || (e != 0)) || (o != 0)) = true
   ·rw [if_pos c15] at h
    refine T_cTz 46 c15 ?_
    refine T_sz ?_
    obtain ⟨J, h, j18⟩ := h
    refine S_join (σ := Bool) (fun s_ => [(2, .bool s_)]) (fun s_ H => J s_ H) ?_ ?_
    ·rintro s2 H8 j19
     replace h := j18 s2 H8 j19
     refine T_su [(2, .bool s2)] ?_
     refine S_then ?_
     exact T_ret [2] [.bool s2] hQ h
    refine T_rz 7 ?_
    refine T_n 3 [(49, .bool (rb == 0))] ?_
    by_cases c20 : rb = 0
    ·rw [if_pos c20] at h
     have b21 : (rb == 0) = true := beq_iff_eq.mpr c20
     refine N_env [(49, .bool true)] (by rw [b21]) ?_
     clear b21
     refine T_c (some 50) h ?_; clear h
     rintro d1 H9 ⟨da, rfl, h⟩
     refine T_pd [] [(50, .bool da)] ?_
     refine T_ne 2 [(2, .bool da)] ?_
     exact S_meet (da : Bool) sk h
    rw [if_neg c20] at h
    have b21 : (rb == 0) = false := beq_eq_false_iff_ne.mpr c20
    refine N_env [(49, .bool false)] (by rw [b21]) ?_
    clear b21
    refine T_ne 3 [(2, .bool false)] ?_
    exact S_meet (false : Bool) sk h
   rw [if_neg c15] at h
   refine T_cFz 46 (eq_false_of_ne_true c15) ?_
   refine T_kt ?_
   refine T_sz ?_
   refine T_srz 8 ?_
   refine T_n 1 [(1, vp (pa b)), (3, vp ra), (5, vu d), (7, vu a), (52, vp (pa b))] ?_
   obtain ⟨a4, q22, h⟩ := h
   refine T_l1 53 3 q22 [52] ?_
   refine T_e ?_
   refine T_bz 0 ?_
   refine T_srz 9 ?_
   refine T_ed 2 [] [(54, .bool (a4 == 6))] ?_
   by_cases c23 : a4 = 6
   ·rw [if_pos c23] at h
    refine T_cTz 54 (beq_iff_eq.mpr c23) ?_
    refine T_srz 10 ?_
    refine T_n 4 [(59, .bool (d == a))] ?_
    by_cases c25 : d = a
    ·rw [if_pos c25] at h
     have b26 : (d == a) = true := beq_iff_eq.mpr c25
     refine N_env [(59, .bool true)] (by rw [b26]) ?_
     clear b26
     refine T_c (some 60) h ?_; clear h
     rintro d4 dx ⟨c9, rfl, h⟩
     refine T_pd [] [(60, .bool c9)] ?_
     exact T_nr 2 [2] [.bool c9] hQ h
    rw [if_neg c25] at h
    have b26 : (d == a) = false := beq_eq_false_iff_ne.mpr c25
    refine N_env [(59, .bool false)] (by rw [b26]) ?_
    clear b26
    exact T_nr 3 [2] [.bool false] hQ h
   rw [if_neg c23] at h
   refine T_cFz 54 (beq_eq_false_iff_ne.mpr c23) ?_
   refine T_srz 11 ?_
   refine T_ed 2 [53, 54] [(62, .bool (a4 == 7))] ?_
   by_cases c27 : a4 = 7
   ·rw [if_pos c27] at h
    refine T_cTz 62 (beq_iff_eq.mpr c27) ?_
    refine T_sz ?_
    refine T_srz 12 ?_
    refine T_nd 4 [62] [(67, .bool (d == a))] ?_
    by_cases c29 : d = a
    ·rw [if_pos c29] at h
     refine N_bd 67 (beq_iff_eq.mpr c29) ?_
     refine T_ed 5 [5, 67] [(72, .bool true)] ?_
     refine T_tz 72 ?_
     refine T_srz 13 ?_
     exact T_nr 1 [2] [.bool false] hQ h
    rw [if_neg c29] at h
    refine N_bd 67 (beq_eq_false_iff_ne.mpr c29) ?_
    refine T_nd 2 [5] [(68, vp ra), (69, vu d)] ?_
    refine T_c (some 70) h ?_; clear h
    rintro dv dl ⟨c5, rfl, h⟩
    refine T_pd [68, 69] [(70, vi c5)] ?_
    refine T_ed 2 [67, 70] [(72, .bool (c5 != 0))] ?_
    by_cases c31 : c5 = 0
    ·rw [if_pos c31] at h
     refine T_cFz 72 (bne_eq_false_iff_eq.mpr c31) ?_
     refine T_kt ?_
     refine T_srz 14 ?_
     refine T_nd 2 [3, 7, 72] [(74, vp ra), (75, vu a)] ?_
     refine T_c (some 76) h ?_; clear h
     rintro dj dm ⟨ac, cp, ab, p, q, r, co, bo, bn, bt, j, rfl, h⟩
     refine T_pd [74, 75] [(76, .tuple #[.agg (DR ac cp ab p q r co bo bn bt).toArray, vi j])] ?_
     refine T_nd 3 [76] [(77, .agg (DR ac cp ab p q r co bo bn bt).toArray), (78, vi j)] ?_
     refine T_nw (some 9) (fun b => vp (pa b)) (.cells (DR 0 0 false none 0 0 (ByteArray.mk #[]) none 0 0).toArray 27) ?_
     intro ah H13 e33 e34
     replace h := h ah H13 e33 e34
     refine T_pd [] [(9, vp (pa ah))] ?_
     obtain ⟨q36, h⟩ := h
     refine T_sta 27 (DR ac cp ab p q r co bo bn bt) q36 ?_
     intro c6 e35
     replace h := h c6 e35
     refine T_pd [77] [] ?_
     refine T_ed 1 [78] [(10, vi j)] ?_
     refine T_srz 15 ?_
     refine T_nd 3 [] [(81, .bool (j == 6))] ?_
     by_cases c37 : j = 6
     ·rw [if_pos c37] at h
      refine N_bd 81 (beq_iff_eq.mpr c37) ?_
      refine T_n 9 [(90, .bool true)] ?_
      refine T_c (some 91) h ?_; clear h
      rintro dt dw ⟨de, rfl, h⟩
      refine T_pd [] [(91, .bool de)] ?_
      exact T_nr 2 [2] [.bool de] hQ h
     rw [if_neg c37] at h
     refine N_bd 81 (beq_eq_false_iff_ne.mpr c37) ?_
     refine T_nd 3 [10] [(84, .bool (j == 0))] ?_
     by_cases c39 : j = 0
     ·rw [if_pos c39] at h
      refine N_bd 84 (beq_iff_eq.mpr c39) ?_
      obtain ⟨ai, ck, ax, y, t, u, cm, bu, bp, bq, q41, h⟩ := h
      refine T_lr 85 27 q41 [9] ?_
      obtain ⟨bf, c2, ba, aw, az, a1, cz, ci, cd, bx, q42, h⟩ := h
      refine T_lr 86 27 q42 [1] ?_
      refine T_c (some 87) h ?_; clear h
      rintro di du ⟨c3, rfl, h⟩
      refine T_pd [85, 86] [(87, .bool c3)] ?_
      refine T_n 3 [(90, .bool c3)] ?_
      by_cases c43 : c3 = true
      ·rw [if_pos c43] at h
       have b44 : c3 = true := c43
       refine N_env [(90, .bool true)] (by rw [b44]) ?_
       clear b44
       refine T_c (some 91) h ?_; clear h
       rintro dn dz ⟨c1, rfl, h⟩
       refine T_pd [] [(91, .bool c1)] ?_
       exact T_nr 2 [2] [.bool c1] hQ h
      rw [if_neg c43] at h
      have b44 : c3 = false := eq_false_of_ne_true c43
      refine N_env [(90, .bool false)] (by rw [b44]) ?_
      clear b44
      exact T_nr 3 [2] [.bool false] hQ h
     rw [if_neg c39] at h
     refine N_bd 84 (beq_eq_false_iff_ne.mpr c39) ?_
     exact T_nr 9 [2] [.bool false] hQ h
    rw [if_neg c31] at h
    refine T_cTz 72 (bne_iff_ne.mpr c31) ?_
    refine T_srz 13 ?_
    exact T_nr 1 [2] [.bool false] hQ h
   rw [if_neg c27] at h
   refine T_cFz 62 (beq_eq_false_iff_ne.mpr c27) ?_
   refine T_k ?_
   refine S_blockEnd ?_
   refine S_then ?_
   refine T_srz 16 ?_
   refine T_n 2 [(1, vp (pa b)), (94, vp ra), (95, vu a)] ?_
   refine T_c (some 96) h ?_; clear h
   rintro dh dp ⟨k, a6, m, i, f, g, a7, ae, ag, af, a5, rfl, h⟩
   refine T_pd [94, 95] [(96, .tuple #[.agg (DR k a6 m i f g a7 ae ag af).toArray, vi a5])] ?_
   refine T_nd 3 [96] [(97, .agg (DR k a6 m i f g a7 ae ag af).toArray), (98, vi a5)] ?_
   refine T_nw (some 11) (fun b => vp (pa b)) (.cells (DR 0 0 false none 0 0 (ByteArray.mk #[]) none 0 0).toArray 27) ?_
   intro bi H19 e45 e46
   replace h := h bi H19 e45 e46
   refine T_pd [] [(11, vp (pa bi))] ?_
   obtain ⟨q48, h⟩ := h
   refine T_sta 27 (DR k a6 m i f g a7 ae ag af) q48 ?_
   intro c8 e47
   replace h := h c8 e47
   refine T_pd [97] [] ?_
   refine T_ed 1 [98] [(12, vi a5)] ?_
   refine T_srz 17 ?_
   refine T_nd 3 [12] [(101, .bool (a5 == 0))] ?_
   by_cases c49 : a5 = 0
   ·rw [if_pos c49] at h
    refine N_bd 101 (beq_iff_eq.mpr c49) ?_
    obtain ⟨ao, cn, a0, aa, s, z, cl, br, bm, bs, q51, h⟩ := h
    refine T_lr 102 27 q51 [11] ?_
    obtain ⟨be, cs, bh, ap, aj, an, ct, ch, b0, b9, q52, h⟩ := h
    refine T_lr 103 27 q52 [1] ?_
    refine T_c (some 104) h ?_; clear h
    rintro dg dr ⟨bw, rfl, h⟩
    refine T_pd [102, 103] [(104, .bool bw)] ?_
    refine T_n 2 [(106, .bool bw)] ?_
    by_cases c53 : bw = true
    ·rw [if_pos c53] at h
     have b54 : bw = true := c53
     refine N_env [(106, .bool true)] (by rw [b54]) ?_
     clear b54
     refine T_c (some 107) h ?_; clear h
     rintro dk d6 ⟨cx, rfl, h⟩
     refine T_pd [] [(107, .bool cx)] ?_
     exact T_nr 2 [2] [.bool cx] hQ h
    rw [if_neg c53] at h
    have b54 : bw = false := eq_false_of_ne_true c53
    refine N_env [(106, .bool false)] (by rw [b54]) ?_
    clear b54
    exact T_nr 3 [2] [.bool false] hQ h
   rw [if_neg c49] at h
   refine N_bd 101 (beq_eq_false_iff_ne.mpr c49) ?_
   exact T_nr 8 [2] [.bool false] hQ h
  intro hk
  refine T_n 3 [(1, vp (pa b)), (3, vp ra), (4, vi rb), (5, vu d), (6, vi e), (7, vu a), (8, vi o), (39, .bool (rb != 0))] ?_
  by_cases c11 : rb = 0
  ·have b12 : (rb != 0) = false := bne_eq_false_iff_eq.mpr c11
   refine N_env [(1, vp (pa b)), (3, vp ra), (4, vi rb), (5, vu d), (6, vi e), (7, vu a), (8, vi o), (39, .bool false)] (by rw [b12]) ?_
   refine T_nd 4 [6, 39] [(43, .bool (e != 0))] ?_
   by_cases c13 : e = 0
   ·have b14 : (e != 0) = false := bne_eq_false_iff_eq.mpr c13
    refine N_bd 43 b14 ?_
    refine T_nd 3 [8, 43] [(46, .bool (o != 0))] ?_
    refine N_end (by kernel_rfl) ?_
    refine S_bd 46 (b := (o != 0)) (v := (((rb != 0) || (e != 0)) || (o != 0))) (by simp only [b12, b14, BL]) ?_
    exact hk
   have b14 : (e != 0) = true := bne_iff_ne.mpr c13
   refine N_bd 43 b14 ?_
   refine T_nd 3 [8, 43] [(46, .bool true)] ?_
   refine N_end (by kernel_rfl) ?_
   refine S_bd 46 (b := true) (v := (((rb != 0) || (e != 0)) || (o != 0))) (by simp only [b12, b14, BL]) ?_
   exact hk
  have b12 : (rb != 0) = true := bne_iff_ne.mpr c11
  refine N_env [(1, vp (pa b)), (3, vp ra), (4, vi rb), (5, vu d), (6, vi e), (7, vu a), (8, vi o), (39, .bool true)] (by rw [b12]) ?_
  refine T_nd 7 [6, 8, 39] [(46, .bool true)] ?_
  refine N_end (by kernel_rfl) ?_
  refine S_bd 46 (b := true) (v := (((rb != 0) || (e != 0)) || (o != 0))) (by simp only [b12, BL]) ?_
  exact hk
 rw [if_neg c7] at h
 refine T_cTz 19 (congrArg Bool.not (eq_false_of_ne_true c7)) ?_
 refine T_srz 2 ?_
 refine T_nu [] ?_
 refine T_c (some 20) h ?_; clear h
 rintro dq dy ⟨cu, rfl, h⟩
 refine ⟨[(20, .bool cu)], pk, ?_⟩
 exact T_nr 1 [2] [.bool cu] hQ h
end morainelaw17_BuildTwice

end Go.Proofs.YtdgejifkcfgliaaGreatDoor
