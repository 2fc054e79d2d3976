/- Printed: what each function asks, and that it is sound. -/
import Derived.Test.YtdgejifkcfgliaaGreatDoorFnsC
set_option linter.unusedSimpArgs false
set_option linter.unusedVariables false
set_option maxRecDepth 100000
set_option maxHeartbeats 1000000
noncomputable section
namespace Go.Proofs.YtdgejifkcfgliaaGreatDoor
open Go
/-! moraine/datum.May -/
namespace datum_May
def K0 := Func.code Tryz.f25
end datum_May
def datum_May.pt (y dC : Int) (z : Bool) (o : Option Addr) (p m : Nat) (dT : ByteArray) (ai : Option Addr) (aj ah : Nat) (H : Array Obj) (R : Value → Array Obj → Prop) : Prop :=
 ∀ (b : Nat) (H1 : Array Obj), b = H.size → H1 = H.push (.cells (DR y dC z o p m dT ai aj ah).toArray 27) →
 ∃ t xC s j i k xT ag ae af, RowAt H1 (ad b) 0 (DR t xC s j i k xT ag ae af) ∧
 datum_plain.C t xC s j i k xT ag ae af H1 (fun v H2 => ∃ x : Bool, v = .bool x ∧ 
 if x = true then (
 ∃ f ab g a d e aa r u q, RowAt H2 (ad b) 0 (DR f ab g a d e aa r u q) ∧
 datum_Depth.C f ab g a d e aa r u q H2 (fun ak H3 => ∃ ac : Int, ak = .int .i64 ac ∧ 
 R (.bool (decide (ac ≤ 64))) H3))
 else
 R (.bool false) H2)
namespace datum_May
theorem link {y dC : Int} {z : Bool} {o : Option Addr} {p m : Nat} {dT : ByteArray} {ai : Option Addr} {aj ah : Nat} {H : Array Obj} {R : Value → Array Obj → Prop} (h : pt y dC z o p m dT ai aj ah H R) : C y dC z o p m dT ai aj ah H R := by
 refine T_en K0 10 Tryz.func25 ?_
 intro w0 Q hQ
 unfold pt at h
 refine T_su [(0, .agg (DR y dC z o p m dT ai aj ah).toArray)] <| T_srz 0 <| T_nw (some 1) (fun b => vp (pa b)) (.cells (DR y dC z o p m dT ai aj ah).toArray 27) ?_
 intro b H1 e1 e2
 replace h := h b H1 e1 e2
 refine ⟨[(1, vp (pa b))], pk, ?_⟩
 refine T_ed 1 [] [] <| T_srz 1 ?_
 obtain ⟨t, xC, s, j, i, k, xT, ag, ae, af, q3, h⟩ := h
 refine T_lr 3 27 q3 [] ?_
 refine T_c (some 4) h ?_; clear h
 rintro v H2 ⟨x, rfl, h⟩
 refine T_pd [3] [(4, .bool x)] <| T_nd 1 [4] [(5, .bool x)] ?_
 by_cases c4 : x = true
 ·rw [if_pos c4] at h
  refine N_bd 5 c4 ?_
  obtain ⟨f, ab, g, a, d, e, aa, r, u, q, q6, h⟩ := h
  refine T_lr 6 27 q6 [1] ?_
  refine T_c (some 7) h ?_; clear h
  rintro ak H3 ⟨ac, rfl, h⟩
  exact T_pd [6] [(7, vi ac)] <| T_nr 3 [2] [.bool (decide (ac ≤ 64))] hQ h
 rw [if_neg c4] at h
 exact N_bd 5 (eq_false_of_ne_true c4) <| T_nr 5 [2] [.bool false] hQ h
end datum_May

/-! moraine/datum.plain -/
namespace datum_plain
def K0 := Func.code Tryz.f49
def K2 := cb K0
def K3 := ca K2
def K5 := ca K3
end datum_plain
def datum_plain.pt (am dC : Int) (an : Bool) (ab : Option Addr) (ac aa : Nat) (dT : ByteArray) (bi : Option Addr) (bj bh : Nat) (H : Array Obj) (R : Value → Array Obj → Prop) : Prop :=
 ∀ (b : Nat) (H1 : Array Obj), b = H.size → H1 = H.push (.cells (DR am dC an ab ac aa dT bi bj bh).toArray 27) →
 ∃ x : Int, hat H1 (ad b) = some (.int .i64 x) ∧
 if x < 0 then (
 R (.bool false) H1)
 else
 ∃ d : Int, hat H1 (ad b) = some (.int .i64 d) ∧
 if d > 10 then (
 R (.bool false) H1)
 else
 ∃ q xC p g e f xT aq ao ap, RowAt H1 (ad b) 0 (DR q xC p g e f xT aq ao ap) ∧
 ∃ o av m k i j au ai ag af, RowAt H1 (ad b) 0 (DR o av m k i j au ai ag af) ∧
 datum_own.C o av m k i j au ai ag af H1 (fun v H2 => ∃ (z bb : Int) (y : Bool) (s : Option Addr) (u t : Nat) (ba : ByteArray) (ay : Option Addr) (ax aw : Nat), v = .agg (DR z bb y s u t ba ay ax aw).toArray ∧ RowAt H2 (ad b) 0 (DR q xC p g e f xT aq ao ap) ∧ 
 datum_flat.C q xC p g e f xT aq ao ap z bb y s u t ba ay ax aw H2 (fun bt H3 => ∃ r : Bool, bt = .bool r ∧ 
 if r = true then (
 ∃ a : Int, hat H3 (ad b) = some (.int .i64 a) ∧
 if a = 3 then (
 ∃ be : Int, hat H3 ((ad b).add 1) = some (.int .i32 be) ∧
 unicode_utf8_ValidRune.C be H3 (fun bw H4 => ∃ bg : Bool, bw = .bool bg ∧ 
 R (.bool bg) H4))
 else
 if a = 4 then (
 ∃ (a4 : Bool) (al : Option Addr) (ak aj : Nat), RowAt H3 ((ad b).add 2) 0 [.bool a4, .slice al ak aj] ∧
 num_May.C a4 al ak aj H3 (fun bp H5 => ∃ bf : Bool, bp = .bool bf ∧ 
 R (.bool bf) H5))
 else
 if a = 6 then (
 ∃ bd : ByteArray, hat H3 ((ad b).add 4) = some (.string bd) ∧
 datum_text.C bd 1 H3 (fun bu H6 => ∃ bc : Bool, bu = .bool bc ∧ 
 R (.bool bc) H6))
 else
 if a = 5 then (
 ∃ a8 : ByteArray, hat H3 ((ad b).add 4) = some (.string a8) ∧
 datum_text.C a8 0 H3 (fun bs H7 => ∃ a9 : Bool, bs = .bool a9 ∧ 
 R (.bool a9) H7))
 else
 if a = 7 then (
 ∃ (xB : Option Addr) (xN bl : Nat), hat H3 ((ad b).add 5) = some (.slice xB xN bl) ∧
 if (xN : Int) = 2 then (
 ∃ (bo : Option Addr) (ae bm : Nat), hat H3 ((ad b).add 5) = some (.slice bo ae bm) ∧
 if (ae : Int) ≤ 62 then (
 ∃ (az : Option Addr) (a7 a5 : Nat), hat H3 ((ad b).add 5) = some (.slice az a7 a5) ∧
 slices_ContainsFunc_api_Datum_api_Datum.C az a7 a5 (.func (.func 88) #[] #[]) H3 (fun br H8 => ∃ a1 : Bool, br = .bool a1 ∧ 
 R (.bool (!a1)) H8))
 else
 R (.bool false) H3)
 else
 R (.bool false) H3)
 else
 if a = 8 then (
 ∃ (bk : Option Addr) (ah bn : Nat), hat H3 ((ad b).add 5) = some (.slice bk ah bn) ∧
 if (ah : Int) ≤ 62 then (
 ∃ (a0 : Option Addr) (a6 a2 : Nat), hat H3 ((ad b).add 5) = some (.slice a0 a6 a2) ∧
 slices_ContainsFunc_api_Datum_api_Datum.C a0 a6 a2 (.func (.func 88) #[] #[]) H3 (fun bq H9 => ∃ a3 : Bool, bq = .bool a3 ∧ 
 R (.bool (!a3)) H9))
 else
 R (.bool false) H3)
 else
 R (.bool true) H3)
 else
 R (.bool false) H3))
namespace datum_plain
theorem link {am dC : Int} {an : Bool} {ab : Option Addr} {ac aa : Nat} {dT : ByteArray} {bi : Option Addr} {bj bh : Nat} {H : Array Obj} {R : Value → Array Obj → Prop} (h : pt am dC an ab ac aa dT bi bj bh H R) : C am dC an ab ac aa dT bi bj bh H R := by
 refine T_en K0 58 Tryz.func49 ?_
 intro w0 Q hQ
 unfold pt at h
 refine T_su [(0, .agg (DR am dC an ab ac aa dT bi bj bh).toArray)] <| T_srz 0 <| T_nw (some 1) (fun b => vp (pa b)) (.cells (DR am dC an ab ac aa dT bi bj bh).toArray 27) ?_
 intro b H1 e1 e2
 replace h := h b H1 e1 e2
 refine ⟨[(1, vp (pa b))], pk, ?_⟩
 refine T_ed 1 [] [] <| T_sz <| T_sz ?_
 obtain ⟨x, q3, h⟩ := h
 by_cases c4 : x < 0
 ·rw [if_pos c4] at h
  refine S_regionG 1 (Code.ops K5) [(15, (ad b), [vi x])] 15 (bv 15 0) (by kernel_rfl) (by kernel_rfl) (by kernel_rfl) (by kernel_rfl) (by kernel_rfl) (show FactsAt _ _ _ from ⟨⟨q3, trivial⟩, trivial⟩) ?_
  refine T_gp 0 (some 3) (vp (pa b)) (bv 15 1) [(1, vp (pa b)), (3, vp (pa b))] <| T_g1 1 4 (vi x) (bv 15 3) [3] (loadN 3 (vp (pa b))) (held_one 15 (fun _=>by kernel_rfl) (List.Mem.head _) (.inr (by kernel_rfl))) <| T_gp1 2 5 (.bool (decide (x < 0))) (bv 15 7) [4] <| T_gp1 3 6 (.bool (decide (x < 0))) (bv 15 15) [5] ?_
  refine G_bd 6 (decide_eq_true c4) ?_
  refine T_gsd 4 (some 7) (bv 15 31) [] [(7, undef)] <| T_gsd 5 (some 8) (bv 15 63) [7] [(8, undef)] <| T_gsd 6 (some 9) (bv 15 127) [8] [(9, undef)] <| T_gp1 7 10 (.bool true) (bv 15 255) [6, 9] <| T_gp1 8 11 (.bool true) (bv 15 511) [10] <| T_gsd 9 (some 12) (bv 15 1023) [] [(12, undef)] <| T_gsd 10 (some 13) (bv 15 2047) [] [(13, undef)] <| T_gsd 11 (some 14) (bv 15 4095) [13] [(14, undef)] <| T_gsd 12 (some 15) (bv 15 8191) [12, 14] [(15, undef)] ?_
  refine T_gsd 13 (some 16) (bv 15 16383) [15] [(16, undef)] <| T_gp1 14 17 (.bool true) (bv 15 32767) [11, 16] ?_
  refine G_sub [(1, vp (pa b)), (17, .bool true)] sk ?_
  refine G_end (by kernel_rfl) ?_
  refine S_then ?_
  exact T_tz 17 <| T_srz 2 <| T_nr 1 [2] [.bool false] hQ h
 rw [if_neg c4] at h
 obtain ⟨d, q6, h⟩ := h
 by_cases c7 : d > 10
 ·rw [if_pos c7] at h
  refine S_regionG 1 (Code.ops K5) [(15, (ad b), [vi x]), (15, (ad b), [vi d])] 15 (bv 15 0) (by kernel_rfl) (by kernel_rfl) (by kernel_rfl) (by kernel_rfl) (by kernel_rfl) (show FactsAt _ _ _ from ⟨⟨q3, trivial⟩, ⟨q6, trivial⟩, trivial⟩) ?_
  refine T_gp 0 (some 3) (vp (pa b)) (bv 15 1) [(1, vp (pa b)), (3, vp (pa b))] <| T_g1 1 4 (vi x) (bv 15 3) [3] (loadN 3 (vp (pa b))) (held_one 15 (fun _=>by kernel_rfl) (List.Mem.head _) (.inr (by kernel_rfl))) <| T_gp1 2 5 (.bool (decide (x < 0))) (bv 15 7) [4] <| T_gp1 3 6 (.bool (decide (x < 0))) (bv 15 15) [5] ?_
  refine G_bd 6 (decide_eq_false c4) ?_
  refine T_gp1 4 7 (vp (pa b)) (bv 15 31) [] <| T_g1 5 8 (vi d) (bv 15 63) [7] (loadN 3 (vp (pa b))) (held_one 15 (fun _=>by kernel_rfl) (List.Mem.tail _ (List.Mem.head _)) (.inr (by kernel_rfl))) <| T_gp1 6 9 (.bool (decide (d > 10))) (bv 15 127) [8] <| T_gp1 7 10 (.bool (decide (d > 10))) (bv 15 255) [6, 9] <| T_gp1 8 11 (.bool (decide (d > 10))) (bv 15 511) [10] ?_
  refine G_bd 11 (decide_eq_true c7) ?_
  refine T_gsd 9 (some 12) (bv 15 1023) [] [(12, undef)] <| T_gsd 10 (some 13) (bv 15 2047) [] [(13, undef)] <| T_gsd 11 (some 14) (bv 15 4095) [13] [(14, undef)] <| T_gsd 12 (some 15) (bv 15 8191) [12, 14] [(15, undef)] <| T_gsd 13 (some 16) (bv 15 16383) [15] [(16, undef)] <| T_gp1 14 17 (.bool true) (bv 15 32767) [11, 16] ?_
  refine G_sub [(1, vp (pa b)), (17, .bool true)] sk ?_
  refine G_end (by kernel_rfl) ?_
  refine S_then ?_
  exact T_tz 17 <| T_srz 2 <| T_nr 1 [2] [.bool false] hQ h
 rw [if_neg c7] at h
 obtain ⟨q, xC, p, g, e, f, xT, aq, ao, ap, q9, h⟩ := h
 obtain ⟨o, av, m, k, i, j, au, ai, ag, af, q10, h⟩ := h
 refine S_regionG 1 (Code.ops K5) [(11, (ad b), [vi x]), (11, (ad b), [vi d]), (12, (ad b), (DR q xC p g e f xT aq ao ap)), (11, (ad b), (DR o av m k i j au ai ag af))] 15 (bv 15 0) (by kernel_rfl) (by kernel_rfl) (by kernel_rfl) (by kernel_rfl) (by kernel_rfl) (show FactsAt _ _ _ from ⟨⟨q3, trivial⟩, ⟨q6, trivial⟩, q9, q10, trivial⟩) ?_
 refine T_gp 0 (some 3) (vp (pa b)) (bv 15 1) [(1, vp (pa b)), (3, vp (pa b))] <| T_g1 1 4 (vi x) (bv 15 3) [3] (loadN 3 (vp (pa b))) (held_one 11 (fun _=>by kernel_rfl) (List.Mem.head _) (.inl (by kernel_rfl))) <| T_gp1 2 5 (.bool (decide (x < 0))) (bv 15 7) [4] <| T_gp1 3 6 (.bool (decide (x < 0))) (bv 15 15) [5] ?_
 refine G_bd 6 (decide_eq_false c4) ?_
 refine T_gp1 4 7 (vp (pa b)) (bv 15 31) [] <| T_g1 5 8 (vi d) (bv 15 63) [7] (loadN 3 (vp (pa b))) (held_one 11 (fun _=>by kernel_rfl) (List.Mem.tail _ (List.Mem.head _)) (.inl (by kernel_rfl))) <| T_gp1 6 9 (.bool (decide (d > 10))) (bv 15 127) [8] <| T_gp1 7 10 (.bool (decide (d > 10))) (bv 15 255) [6, 9] <| T_gp1 8 11 (.bool (decide (d > 10))) (bv 15 511) [10] ?_
 refine G_bd 11 (decide_eq_false c7) ?_
 refine T_g1 9 12 (.agg (DR q xC p g e f xT aq ao ap).toArray) (bv 15 1023) [] (loadN 27 (vp (pa b))) (held_row 12 (fun _=>by kernel_rfl) (fun _=>by kernel_rfl) (List.Mem.tail _ (List.Mem.tail _ (List.Mem.head _))) (.inl (by kernel_rfl))) <| T_g1 10 13 (.agg (DR o av m k i j au ai ag af).toArray) (bv 15 2047) [] (loadN 27 (vp (pa b))) (held_row 11 (fun _=>by kernel_rfl) (fun _=>by kernel_rfl) (List.Mem.tail _ (List.Mem.tail _ (List.Mem.tail _ (List.Mem.head _)))) (.inl (by kernel_rfl))) ?_
 refine G_call 11 (some 14) (bv 15 4095) 83 #[.agg (DR o av m k i j au ai ag af).toArray] (by kernel_rfl) (fun _=>by kernel_rfl) h (by kernel_rfl) ?_; clear h
 rintro v H2 ⟨z, bb, y, s, u, t, ba, ay, ax, aw, rfl, h⟩
 obtain ⟨f11, h⟩ := h
 refine ⟨[(1, vp (pa b)), (11, .bool false), (12, .agg (DR q xC p g e f xT aq ao ap).toArray), (14, .agg (DR z bb y s u t ba ay ax aw).toArray)], pk, (show FactsAt _ _ _ from ⟨trivial, trivial, f11, trivial, trivial⟩), ?_⟩
 refine G_call 12 (some 15) (bv 15 8191) 82 #[.agg (DR q xC p g e f xT aq ao ap).toArray, .agg (DR z bb y s u t ba ay ax aw).toArray] (by kernel_rfl) (fun _=>by kernel_rfl) h (by kernel_rfl) ?_; clear h
 rintro bt H3 ⟨r, rfl, h⟩
 refine ⟨[(1, vp (pa b)), (11, .bool false), (15, .bool r)], pk, (show FactsAt _ _ _ from ⟨trivial, trivial, trivial, trivial, trivial⟩), ?_⟩
 refine T_g 13 (some 16) (.bool (!r)) (bv 15 16383) [(1, vp (pa b)), (11, .bool false), (16, .bool (!r))] (pure (.value (.bool (!r))) : Sem Next) (fun _ _ _ _ _ => rfl) <| T_g1 14 17 (.bool (!r)) (bv 15 32767) [11, 16] (pure (.value (.bool (!r))) : Sem Next) (fun _ _ _ _ _ => rfl) ?_
 refine G_sub [(1, vp (pa b)), (17, .bool (!r))] sk ?_
 refine G_end (by kernel_rfl) ?_
 refine S_then ?_
 by_cases c12 : r = true
 ·rw [if_pos c12] at h
  refine T_cFz 17 (congrArg Bool.not (c12)) <| T_kt <| T_sz <| T_srz 3 <| T_n 1 [(1, vp (pa b)), (18, vp (pa b))] ?_
  obtain ⟨a, q14, h⟩ := h
  refine T_l1 19 3 q14 [18] <| T_e <| T_bz 0 <| T_sz <| T_bz 6 <| T_sz <| T_bz 5 <| T_sz <| T_bz 4 ?_
  refine T_sz <| T_bz 3 <| T_sz <| T_bz 2 <| T_sz <| T_bz 1 <| T_sz <| T_sz <| T_srz 4 ?_
  refine T_ed 2 [] [(20, .bool (a == 3))] ?_
  by_cases c15 : a = 3
  ·rw [if_pos c15] at h
   refine T_cTz 20 (beq_iff_eq.mpr c15) ?_
   refine S_exit 1 (by kernel_rfl) ?_
   refine S_exitThen ?_
   refine S_exitThen ?_
   refine S_exitHere ?_
   refine S_then ?_
   refine T_sz <| T_srz 10 <| T_n 1 [(32, vp (some ((ad b).add 1)))] ?_
   obtain ⟨be, q17, h⟩ := h
   refine T_l1 33 21 q17 [32] ?_
   refine T_c (some 34) h ?_; clear h
   rintro bw H4 ⟨bg, rfl, h⟩
   refine ⟨[(34, .bool bg)], pk, ?_⟩
   exact T_nr 1 [2] [.bool bg] hQ h
  rw [if_neg c15] at h
  refine T_cFz 20 (beq_eq_false_iff_ne.mpr c15) <| T_kt <| T_sz <| T_srz 5 <| T_ed 2 [20] [(22, .bool (a == 4))] ?_
  by_cases c18 : a = 4
  ·rw [if_pos c18] at h
   refine T_cTz 22 (beq_iff_eq.mpr c18) ?_
   refine S_exit 2 (by kernel_rfl) ?_
   refine S_exitThen ?_
   refine S_exitThen ?_
   refine S_exitPast (by kernel_rfl) ?_
   refine S_exitThen ?_
   refine S_exitHere ?_
   refine S_then ?_
   refine T_sz <| T_srz 11 <| T_n 1 [(35, vp (some ((ad b).add 2)))] ?_
   obtain ⟨a4, al, ak, aj, q20, h⟩ := h
   refine T_lr 36 24 q20 [35] ?_
   refine T_c (some 37) h ?_; clear h
   rintro bp H5 ⟨bf, rfl, h⟩
   refine ⟨[(37, .bool bf)], pk, ?_⟩
   exact T_nr 1 [2] [.bool bf] hQ h
  rw [if_neg c18] at h
  refine T_cFz 22 (beq_eq_false_iff_ne.mpr c18) <| T_kt <| T_sz <| T_srz 6 <| T_ed 2 [22] [(24, .bool (a == 6))] ?_
  by_cases c21 : a = 6
  ·rw [if_pos c21] at h
   refine T_cTz 24 (beq_iff_eq.mpr c21) ?_
   refine S_exit 3 (by kernel_rfl) ?_
   refine S_exitThen ?_
   refine S_exitThen ?_
   refine S_exitPast (by kernel_rfl) ?_
   refine S_exitThen ?_
   refine S_exitPast (by kernel_rfl) ?_
   refine S_exitThen ?_
   refine S_exitHere ?_
   refine S_then ?_
   refine T_sz <| T_srz 12 <| T_n 1 [(38, vp (some ((ad b).add 4)))] ?_
   obtain ⟨bd, q23, h⟩ := h
   refine T_l1 39 9 q23 [38] ?_
   refine T_c (some 40) h ?_; clear h
   rintro bu H6 ⟨bc, rfl, h⟩
   refine ⟨[(40, .bool bc)], pk, ?_⟩
   exact T_nr 1 [2] [.bool bc] hQ h
  rw [if_neg c21] at h
  refine T_cFz 24 (beq_eq_false_iff_ne.mpr c21) <| T_kt <| T_sz <| T_srz 7 <| T_ed 2 [24] [(26, .bool (a == 5))] ?_
  by_cases c24 : a = 5
  ·rw [if_pos c24] at h
   refine T_cTz 26 (beq_iff_eq.mpr c24) ?_
   refine S_exit 4 (by kernel_rfl) ?_
   refine S_exitThen ?_
   refine S_exitThen ?_
   refine S_exitPast (by kernel_rfl) ?_
   refine S_exitThen ?_
   refine S_exitPast (by kernel_rfl) ?_
   refine S_exitThen ?_
   refine S_exitPast (by kernel_rfl) ?_
   refine S_exitThen ?_
   refine S_exitHere ?_
   refine S_then ?_
   refine T_sz <| T_srz 13 <| T_n 1 [(41, vp (some ((ad b).add 4)))] ?_
   obtain ⟨a8, q26, h⟩ := h
   refine T_l1 42 9 q26 [41] ?_
   refine T_c (some 43) h ?_; clear h
   rintro bs H7 ⟨a9, rfl, h⟩
   refine ⟨[(43, .bool a9)], pk, ?_⟩
   exact T_nr 1 [2] [.bool a9] hQ h
  rw [if_neg c24] at h
  refine T_cFz 26 (beq_eq_false_iff_ne.mpr c24) <| T_kt <| T_sz <| T_srz 8 <| T_ed 2 [26] [(28, .bool (a == 7))] ?_
  by_cases c27 : a = 7
  ·rw [if_pos c27] at h
   refine T_cTz 28 (beq_iff_eq.mpr c27) ?_
   refine S_exit 5 (by kernel_rfl) ?_
   refine S_exitThen ?_
   refine S_exitThen ?_
   refine S_exitPast (by kernel_rfl) ?_
   refine S_exitThen ?_
   refine S_exitPast (by kernel_rfl) ?_
   refine S_exitThen ?_
   refine S_exitPast (by kernel_rfl) ?_
   refine S_exitThen ?_
   refine S_exitPast (by kernel_rfl) ?_
   refine S_exitThen ?_
   refine S_exitHere ?_
   refine S_then ?_
   refine T_srz 14 <| T_nd 1 [19, 28] [(44, vp (some ((ad b).add 5)))] ?_
   obtain ⟨xB, xN, bl, q29, h⟩ := h
   refine T_l1 45 25 q29 [44] <| T_ed 2 [45] [(47, .bool ((xN : Int) != 2))] ?_
   by_cases c30 : (xN : Int) = 2
   ·rw [if_pos c30] at h
    refine T_cFz 47 (bne_eq_false_iff_eq.mpr c30) <| T_k ?_
    refine S_blockEnd ?_
    refine S_then ?_
    refine T_sz <| T_srz 16 <| T_nd 1 [47] [(48, vp (some ((ad b).add 5)))] ?_
    obtain ⟨bo, ae, bm, q32, h⟩ := h
    refine T_l1 49 25 q32 [48] <| T_nd 3 [49] [(52, .bool (decide ((ae : Int) ≤ 62)))] ?_
    by_cases c33 : (ae : Int) ≤ 62
    ·rw [if_pos c33] at h
     refine N_bd 52 (decide_eq_true c33) <| T_nd 1 [1] [(53, vp (some ((ad b).add 5)))] ?_
     obtain ⟨az, a7, a5, q35, h⟩ := h
     refine T_l1 54 25 q35 [53] ?_
     refine T_c (some 55) h ?_; clear h
     rintro br H8 ⟨a1, rfl, h⟩
     exact T_pd [54] [(55, .bool a1)] <| T_nr 3 [2] [.bool (!a1)] hQ h
    rw [if_neg c33] at h
    exact N_bd 52 (decide_eq_false c33) <| T_nr 6 [2] [.bool false] hQ h
   rw [if_neg c30] at h
   exact T_cTz 47 (bne_iff_ne.mpr c30) <| T_srz 15 <| T_nr 1 [2] [.bool false] hQ h
  rw [if_neg c27] at h
  refine T_cFz 28 (beq_eq_false_iff_ne.mpr c27) <| T_kt <| T_srz 9 <| T_ed 2 [19, 28] [(30, .bool (a == 8))] ?_
  by_cases c36 : a = 8
  ·rw [if_pos c36] at h
   refine T_cTz 30 (beq_iff_eq.mpr c36) ?_
   refine S_exit 6 (by kernel_rfl) ?_
   refine S_exitThen ?_
   refine S_exitPast (by kernel_rfl) ?_
   refine S_exitThen ?_
   refine S_exitPast (by kernel_rfl) ?_
   refine S_exitThen ?_
   refine S_exitPast (by kernel_rfl) ?_
   refine S_exitThen ?_
   refine S_exitPast (by kernel_rfl) ?_
   refine S_exitThen ?_
   refine S_exitPast (by kernel_rfl) ?_
   refine S_exitThen ?_
   refine S_exitHere ?_
   refine S_then ?_
   refine T_sz <| T_srz 16 <| T_nd 1 [30] [(48, vp (some ((ad b).add 5)))] ?_
   obtain ⟨bk, ah, bn, q38, h⟩ := h
   refine T_l1 49 25 q38 [48] <| T_nd 3 [49] [(52, .bool (decide ((ah : Int) ≤ 62)))] ?_
   by_cases c39 : (ah : Int) ≤ 62
   ·rw [if_pos c39] at h
    refine N_bd 52 (decide_eq_true c39) <| T_nd 1 [1] [(53, vp (some ((ad b).add 5)))] ?_
    obtain ⟨a0, a6, a2, q41, h⟩ := h
    refine T_l1 54 25 q41 [53] ?_
    refine T_c (some 55) h ?_; clear h
    rintro bq H9 ⟨a3, rfl, h⟩
    exact T_pd [54] [(55, .bool a3)] <| T_nr 3 [2] [.bool (!a3)] hQ h
   rw [if_neg c39] at h
   exact N_bd 52 (decide_eq_false c39) <| T_nr 6 [2] [.bool false] hQ h
  rw [if_neg c36] at h
  refine T_cFz 30 (beq_eq_false_iff_ne.mpr c36) <| T_kt ?_
  refine S_exit 0 (by kernel_rfl) ?_
  refine S_exitPast (by kernel_rfl) ?_
  refine S_exitThen ?_
  refine S_exitPast (by kernel_rfl) ?_
  refine S_exitThen ?_
  refine S_exitPast (by kernel_rfl) ?_
  refine S_exitThen ?_
  refine S_exitPast (by kernel_rfl) ?_
  refine S_exitThen ?_
  refine S_exitPast (by kernel_rfl) ?_
  refine S_exitThen ?_
  refine S_exitPast (by kernel_rfl) ?_
  refine S_exitThen ?_
  refine S_exitHere ?_
  refine S_then ?_
  exact T_srz 17 <| T_nr 1 [2] [.bool true] hQ h
 rw [if_neg c12] at h
 exact T_cTz 17 (congrArg Bool.not (eq_false_of_ne_true c12)) <| T_srz 2 <| T_nr 1 [2] [.bool false] hQ h
end datum_plain

/-! moraine/datum.Depth -/
namespace datum_Depth
def K0 := Func.code Tryz.f50
def K2 := cb K0
def K4 := cb K2
def K6 := cb K4
def K11 := ca K6
def K14 := cb K11
def K15 := ca K14
def K16 := ca K15
end datum_Depth
def datum_Depth.pt (aj dC : Int) (ak : Bool) (ac : Option Addr) (ae ab : Nat) (dT : ByteArray) (ax : Option Addr) (ay aw : Nat) (H : Array Obj) (R : Value → Array Obj → Prop) : Prop :=
 ∀ (b : Nat) (H1 : Array Obj), b = H.size → H1 = H.push (.cells (DR aj dC ak ac ae ab dT ax ay aw).toArray 27) →
 ∃ x : Int, hat H1 (ad b) = some (.int .i64 x) ∧
 ∃ J : Int → Array Obj → Prop, (
 if x = 8 then (
 J 1 H1)
 else
 J 0 H1) ∧ ∀ (nv : Int) (H2 : Array Obj), J nv H2 →
 ∃ (xB : Option Addr) (xN xC : Nat), hat H2 ((ad b).add 5) = some (.slice xB xN xC) ∧
 ∃ (av : Int → Int → Array Obj → Prop) (m17 : Int → Int → Array Obj → Nat), av nv 0 H2 ∧ ∀ (d : Int) (s13 : Int) (H3 : Array Obj), av d s13 H3 →
 if s13 < (xN : Int) then (
 ∃ f : Addr, xB = some f ∧
 ((0 : Int) ≤ s13 ∧ s13 < (xN : Int)) ∧
 ∃ u aa s m j o xT an al am, RowAt H3 (f.add (Int.toNat s13 * 6)) 0 (DR u aa s m j o xT an al am) ∧
 ∀ (g : Nat) (H4 : Array Obj), g = H3.size → H4 = H3.push (.cells (DR 0 0 false none 0 0 (ByteArray.mk #[]) none 0 0).toArray 27) →
 (CanPuts H4 (ad g) 0 6) ∧ ∀ H5, H5 = hputs H4 (ad g) (DR u aa s m j o xT an al am) 0 →
 ∃ y aq z p q r au ah ai ag, RowAt H5 (ad g) 0 (DR y aq z p q r au ah ai ag) ∧
 datum_Depth.C y aq z p q r au ah ai ag H5 (fun v H6 => ∃ e : Int, v = .int .i64 e ∧ 
 ∃ ao : Int, hat H6 (ad b) = some (.int .i64 ao) ∧
 if ao = 7 then (
 ∃ (a0 : Option Addr) (af az : Nat), hat H6 ((ad b).add 5) = some (.slice a0 af az) ∧
 if (IntKind.wrap .i64 (s13 + 1)) < (af : Int) then (
 (av (if d < (IntKind.wrap .i64 (e + 1)) then (IntKind.wrap .i64 (e + 1)) else d) (IntKind.wrap .i64 (s13 + 1)) H6 ∧ m17 (if d < (IntKind.wrap .i64 (e + 1)) then (IntKind.wrap .i64 (e + 1)) else d) (IntKind.wrap .i64 (s13 + 1)) H6 < m17 d s13 H3))
 else
 ∃ ap : Int, hat H6 (ad g) = some (.int .i64 ap) ∧
 if ap = 7 then (
 (av (if d < e then e else d) (IntKind.wrap .i64 (s13 + 1)) H6 ∧ m17 (if d < e then e else d) (IntKind.wrap .i64 (s13 + 1)) H6 < m17 d s13 H3))
 else
 (av (if d < (IntKind.wrap .i64 (e + 1)) then (IntKind.wrap .i64 (e + 1)) else d) (IntKind.wrap .i64 (s13 + 1)) H6 ∧ m17 (if d < (IntKind.wrap .i64 (e + 1)) then (IntKind.wrap .i64 (e + 1)) else d) (IntKind.wrap .i64 (s13 + 1)) H6 < m17 d s13 H3))
 else
 (av (if d < (IntKind.wrap .i64 (e + 1)) then (IntKind.wrap .i64 (e + 1)) else d) (IntKind.wrap .i64 (s13 + 1)) H6 ∧ m17 (if d < (IntKind.wrap .i64 (e + 1)) then (IntKind.wrap .i64 (e + 1)) else d) (IntKind.wrap .i64 (s13 + 1)) H6 < m17 d s13 H3)))
 else
 R (.int .i64 d) H3
namespace datum_Depth
theorem link {aj dC : Int} {ak : Bool} {ac : Option Addr} {ae ab : Nat} {dT : ByteArray} {ax : Option Addr} {ay aw : Nat} {H : Array Obj} {R : Value → Array Obj → Prop} (h : pt aj dC ak ac ae ab dT ax ay aw H R) : C aj dC ak ac ae ab dT ax ay aw H R := by
 refine T_en K0 43 Tryz.func50 ?_
 intro w0 Q hQ
 unfold pt at h
 refine T_su [(0, .agg (DR aj dC ak ac ae ab dT ax ay aw).toArray)] <| T_srz 0 <| T_nw (some 1) (fun b => vp (pa b)) (.cells (DR aj dC ak ac ae ab dT ax ay aw).toArray 27) ?_
 intro b H1 e1 e2
 replace h := h b H1 e1 e2
 refine ⟨[(1, vp (pa b))], pk, ?_⟩
 refine T_ed 1 [] [] <| T_srz 1 <| T_ed 1 [] [(3, vi 0)] <| T_sz <| T_srz 2 <| T_nd 1 [] [(7, vp (pa b))] ?_
 obtain ⟨x, q3, h⟩ := h
 refine T_l1 8 3 q3 [7] <| T_ne 1 [(1, vp (pa b)), (3, vi 0), (9, .bool (x == 8))] ?_
 obtain ⟨J, h, j5⟩ := h
 refine S_join (σ := Int) (fun s_ => [(1, vp (pa b)), (3, vi s_)]) (fun s_ H => J s_ H) ?_ ?_
 ·rintro nv H2 j6
  replace h := j5 nv H2 j6
  refine T_su [(1, vp (pa b)), (3, vi nv)] ?_
  refine S_then ?_
  refine T_sz <| T_srz 4 <| T_nd 1 [] [(10, vp (some ((ad b).add 5)))] ?_
  obtain ⟨xB, xN, xC, q7, h⟩ := h
  refine T_l1 11 25 q7 [10] <| T_ed 2 [] [(12, vi xN), (13, vi 0)] <| T_bz 0 ?_
  obtain ⟨av, m17, i8, i9⟩ := h
  refine S_loop (x := K16) (σ := Int × Int) (fun s_ => [(1, vp (pa b)), (3, vi s_.1), (11, vs xB xN xC), (12, vi xN), (13, vi s_.2)]) (fun s_ H => av s_.1 s_.2 H) (fun s_ H => m17 s_.1 s_.2 H) ((nv, 0) : Int × Int) (by kernel_rfl) i8 sk ?_
  rintro ⟨d, s13⟩ H3 i10
  have h := i9 d s13 H3 i10
  refine T_su [(1, vp (pa b)), (3, vi d), (11, vs xB xN xC), (12, vi xN), (13, vi s13)] <| T_srz 5 <| T_ed 1 [] [(14, .bool (decide (s13 < (xN : Int))))] <| T_sz ?_
  by_cases c11 : s13 < (xN : Int)
  ·rw [if_pos c11] at h
   refine T_cTz 14 (decide_eq_true c11) <| T_kt <| T_sz <| T_bz 1 <| T_srz 6 <| T_nd 1 [14] [(15, vi s13)] ?_
   obtain ⟨f, rfl, h⟩ := h
   obtain ⟨q13, h⟩ := h
   refine T_xd (some 16) 25 27 6 f xN xC .i64 s13 Tryz.underlying25 q13.1 q13.2 [11] [(11, vs (some f) xN xC), (16, vp (some (f.add (Int.toNat s13 * 6))))] ?_
   obtain ⟨u, aa, s, m, j, o, xT, an, al, am, q14, h⟩ := h
   refine T_lr 17 27 q14 [16] <| T_nw (some 5) (fun b => vp (pa b)) (.cells (DR 0 0 false none 0 0 (ByteArray.mk #[]) none 0 0).toArray 27) ?_
   intro g H4 e15 e16
   replace h := h g H4 e15 e16
   refine T_pd [] [(5, vp (pa g))] <| T_nd 1 [15] [(4, vi s13)] ?_
   obtain ⟨q18, h⟩ := h
   refine T_sta 27 (DR u aa s m j o xT an al am) q18 ?_
   intro H5 e17
   replace h := h H5 e17
   refine T_pd [17] [] <| T_e <| T_srz 7 ?_
   obtain ⟨y, aq, z, p, q, r, au, ah, ai, ag, q19, h⟩ := h
   refine T_lr 18 27 q19 [] ?_
   refine T_c (some 19) h ?_; clear h
   rintro v H6 ⟨e, rfl, h⟩
   refine T_pd [18] [(19, vi e)] <| T_ed 1 [19] [(6, vi e)] <| T_sz <| T_srz 8 <| T_nd 1 [] [(20, vp (pa b))] ?_
   obtain ⟨ao, q20, h⟩ := h
   refine T_l1 21 3 q20 [20] <| T_nd 2 [21] [(23, .bool (ao != 7))] ?_
   by_cases c21 : ao = 7
   ·rw [if_pos c21] at h
    refine N_bd 23 (bne_eq_false_iff_eq.mpr c21) <| T_nd 3 [4] [(25, vi (IntKind.wrap .i64 (s13 + 1))), (26, vp (some ((ad b).add 5)))] ?_
    obtain ⟨a0, af, az, q23, h⟩ := h
    refine T_l1 27 25 q23 [26] <| T_nd 4 [23, 25, 27] [(31, .bool (decide ((IntKind.wrap .i64 (s13 + 1)) < (af : Int))))] ?_
    by_cases c24 : (IntKind.wrap .i64 (s13 + 1)) < (af : Int)
    ·rw [if_pos c24] at h
     refine N_bd 31 (decide_eq_true c24) <| T_ed 4 [5, 31] [(35, .bool true)] <| T_tz 35 <| T_rz 9 <| T_ed 3 [6, 35] [(6, vi (IntKind.wrap .i64 (e + 1)))] <| T_rz 10 <| T_nd 4 [3, 6] [(3, vi (if d < (IntKind.wrap .i64 (e + 1)) then (IntKind.wrap .i64 (e + 1)) else d))] ?_
     refine N_end (by kernel_rfl) ?_
     refine S_blockEnd ?_
     refine S_then ?_
     refine T_rz 11 <| T_ed 2 [13] [(13, vi (IntKind.wrap .i64 (s13 + 1)))] ?_
     exact S_round (((if d < (IntKind.wrap .i64 (e + 1)) then (IntKind.wrap .i64 (e + 1)) else d), (IntKind.wrap .i64 (s13 + 1))) : Int × Int) sk h
    rw [if_neg c24] at h
    refine N_bd 31 (decide_eq_false c24) <| T_nd 1 [5] [(32, vp (pa g))] ?_
    obtain ⟨ap, q26, h⟩ := h
    refine T_l1 33 3 q26 [32] <| T_ed 2 [31, 33] [(35, .bool (ap != 7))] ?_
    by_cases c27 : ap = 7
    ·rw [if_pos c27] at h
     refine T_cFz 35 (bne_eq_false_iff_eq.mpr c27) <| T_kt <| T_rz 10 <| T_nd 4 [3, 6, 35] [(3, vi (if d < e then e else d))] ?_
     refine N_end (by kernel_rfl) ?_
     refine S_blockEnd ?_
     refine S_then ?_
     refine T_rz 11 <| T_ed 2 [13] [(13, vi (IntKind.wrap .i64 (s13 + 1)))] ?_
     exact S_round (((if d < e then e else d), (IntKind.wrap .i64 (s13 + 1))) : Int × Int) sk h
    rw [if_neg c27] at h
    refine T_cTz 35 (bne_iff_ne.mpr c27) <| T_rz 9 <| T_ed 3 [6, 35] [(6, vi (IntKind.wrap .i64 (e + 1)))] <| T_rz 10 <| T_nd 4 [3, 6] [(3, vi (if d < (IntKind.wrap .i64 (e + 1)) then (IntKind.wrap .i64 (e + 1)) else d))] ?_
    refine N_end (by kernel_rfl) ?_
    refine S_blockEnd ?_
    refine S_then ?_
    refine T_rz 11 <| T_ed 2 [13] [(13, vi (IntKind.wrap .i64 (s13 + 1)))] ?_
    exact S_round (((if d < (IntKind.wrap .i64 (e + 1)) then (IntKind.wrap .i64 (e + 1)) else d), (IntKind.wrap .i64 (s13 + 1))) : Int × Int) sk h
   rw [if_neg c21] at h
   refine N_bd 23 (bne_iff_ne.mpr c21) <| T_ed 12 [4, 5, 23] [(35, .bool true)] <| T_tz 35 <| T_rz 9 <| T_ed 3 [6, 35] [(6, vi (IntKind.wrap .i64 (e + 1)))] <| T_rz 10 <| T_nd 4 [3, 6] [(3, vi (if d < (IntKind.wrap .i64 (e + 1)) then (IntKind.wrap .i64 (e + 1)) else d))] ?_
   refine N_end (by kernel_rfl) ?_
   refine S_blockEnd ?_
   refine S_then ?_
   refine T_rz 11 <| T_ed 2 [13] [(13, vi (IntKind.wrap .i64 (s13 + 1)))] ?_
   exact S_round (((if d < (IntKind.wrap .i64 (e + 1)) then (IntKind.wrap .i64 (e + 1)) else d), (IntKind.wrap .i64 (s13 + 1))) : Int × Int) sk h
  rw [if_neg c11] at h
  refine T_cFz 14 (decide_eq_false c11) ?_
  refine S_exit 0 (by kernel_rfl) ?_
  refine S_exitThen ?_
  refine S_exitThen ?_
  refine S_exitHere ?_
  refine S_then ?_
  exact T_srz 12 <| T_nr 2 [2] [vi d] hQ h
 by_cases c29 : x = 8
 ·rw [if_pos c29] at h
  have b30 : (x == 8) = true := beq_iff_eq.mpr c29
  refine S_env [(1, vp (pa b)), (3, vi 0), (9, .bool true)] (by simp only [b30, Bool.not_true, Bool.not_false]) ?_
  clear b30
  refine T_tz 9 <| T_rz 3 <| T_ed 1 [3, 9] [(3, vi 1)] ?_
  exact S_meet (1 : Int) sk h
 rw [if_neg c29] at h
 have b30 : (x == 8) = false := beq_eq_false_iff_ne.mpr c29
 refine S_env [(1, vp (pa b)), (3, vi 0), (9, .bool false)] (by simp only [b30, Bool.not_true, Bool.not_false]) ?_
 clear b30
 refine T_fz 9 <| T_kt ?_
 exact S_meet (0 : Int) sk h
end datum_Depth

/-! moraine/datum.flat -/
namespace datum_flat
def K0 := Func.code Tryz.f82
end datum_flat
def datum_flat.pt (t aC : Int) (s : Bool) (i : Option Addr) (g j : Nat) (aT : ByteArray) (am : Option Addr) (al ak : Nat) (o bC : Int) (m : Bool) (d : Option Addr) (f e : Nat) (bT : ByteArray) (ai : Option Addr) (aj ah : Nat) (H : Array Obj) (R : Value → Array Obj → Prop) : Prop :=
 ∀ (b : Nat) (H1 : Array Obj), b = H.size → H1 = H.push (.cells (DR t aC s i g j aT am al ak).toArray 27) →
 ∀ (a : Nat) (H2 : Array Obj), a = H1.size → H2 = H1.push (.cells (DR o bC m d f e bT ai aj ah).toArray 27) →
 ∃ x : Int, hat H2 (ad b) = some (.int .i64 x) ∧
 ∃ z : Int, hat H2 (ad a) = some (.int .i64 z) ∧
 if x = z then (
 ∃ r : Int, hat H2 ((ad b).add 1) = some (.int .i32 r) ∧
 ∃ ab : Int, hat H2 ((ad a).add 1) = some (.int .i32 ab) ∧
 if r = ab then (
 ∃ q : Bool, hat H2 ((ad b).add 2) = some (.bool q) ∧
 ∃ aa : Bool, hat H2 ((ad a).add 2) = some (.bool aa) ∧
 if q = aa then (
 ∃ (xB : Option Addr) (xN xC : Nat), hat H2 (((ad b).add 2).add 1) = some (.slice xB xN xC) ∧
 ∃ (ae : Option Addr) (ac af : Nat), hat H2 (((ad a).add 2).add 1) = some (.slice ae ac af) ∧
 slices_Equal_uint32_uint32.C xB xN xC ae ac af H2 (fun v H3 => ∃ ag : Bool, v = .bool ag ∧ 
 if ag = true then (
 ∃ p : ByteArray, hat H3 ((ad b).add 4) = some (.string p) ∧
 ∃ y : ByteArray, hat H3 ((ad a).add 4) = some (.string y) ∧
 if p.toList = y.toList then (
 ∃ (ao : Option Addr) (k ap : Nat), hat H3 ((ad b).add 5) = some (.slice ao k ap) ∧
 ∃ (an : Option Addr) (u aq : Nat), hat H3 ((ad a).add 5) = some (.slice an u aq) ∧
 R (.bool ((k : Int) == (u : Int))) H3)
 else
 R (.bool false) H3)
 else
 R (.bool false) H3))
 else
 R (.bool false) H2)
 else
 R (.bool false) H2)
 else
 R (.bool false) H2
namespace datum_flat
theorem link {t aC : Int} {s : Bool} {i : Option Addr} {g j : Nat} {aT : ByteArray} {am : Option Addr} {al ak : Nat} {o bC : Int} {m : Bool} {d : Option Addr} {f e : Nat} {bT : ByteArray} {ai : Option Addr} {aj ah : Nat} {H : Array Obj} {R : Value → Array Obj → Prop} (h : pt t aC s i g j aT am al ak o bC m d f e bT ai aj ah H R) : C t aC s i g j aT am al ak o bC m d f e bT ai aj ah H R := by
 refine T_en K0 51 Tryz.func82 ?_
 intro w0 Q hQ
 unfold pt at h
 refine T_su [(0, .agg (DR t aC s i g j aT am al ak).toArray), (1, .agg (DR o bC m d f e bT ai aj ah).toArray)] <| T_srz 0 <| T_nw (some 2) (fun b => vp (pa b)) (.cells (DR t aC s i g j aT am al ak).toArray 27) ?_
 intro b H1 e1 e2
 replace h := h b H1 e1 e2
 refine T_pd [0] [(2, vp (pa b))] <| T_nw (some 3) (fun b => vp (pa b)) (.cells (DR o bC m d f e bT ai aj ah).toArray 27) ?_
 intro a H2 e3 e4
 replace h := h a H2 e3 e4
 refine T_pd [1] [(3, vp (pa a))] <| T_ed 1 [] [] <| T_srz 1 <| T_nd 1 [] [(5, vp (pa b))] ?_
 obtain ⟨x, q5, h⟩ := h
 refine T_l1 6 3 q5 [5] <| T_nd 1 [] [(7, vp (pa a))] ?_
 obtain ⟨z, q6, h⟩ := h
 refine T_l1 8 3 q6 [7] <| T_nd 2 [6, 8] [(10, .bool (x == z))] ?_
 by_cases c7 : x = z
 ·rw [if_pos c7] at h
  refine N_bd 10 (beq_iff_eq.mpr c7) <| T_nd 1 [] [(11, vp (some ((ad b).add 1)))] ?_
  obtain ⟨r, q9, h⟩ := h
  refine T_l1 12 21 q9 [11] <| T_nd 1 [] [(13, vp (some ((ad a).add 1)))] ?_
  obtain ⟨ab, q10, h⟩ := h
  refine T_l1 14 21 q10 [13] <| T_nd 3 [10, 12, 14] [(17, .bool (r == ab))] ?_
  by_cases c11 : r = ab
  ·rw [if_pos c11] at h
   refine N_bd 17 (beq_iff_eq.mpr c11) <| T_nd 2 [] [(19, vp (some ((ad b).add 2)))] ?_
   obtain ⟨q, q13, h⟩ := h
   refine T_l1 20 4 q13 [19] <| T_nd 2 [] [(22, vp (some ((ad a).add 2)))] ?_
   obtain ⟨aa, q14, h⟩ := h
   refine T_l1 23 4 q14 [22] <| T_nd 3 [17, 20, 23] [(26, .bool (q == aa))] ?_
   by_cases c15 : q = aa
   ·rw [if_pos c15] at h
    refine N_bd 26 (beq_iff_eq.mpr c15) <| T_nd 2 [] [(28, vp (some (((ad b).add 2).add 1)))] ?_
    obtain ⟨xB, xN, xC, q17, h⟩ := h
    refine T_l1 29 22 q17 [28] <| T_nd 2 [] [(31, vp (some (((ad a).add 2).add 1)))] ?_
    obtain ⟨ae, ac, af, q18, h⟩ := h
    refine T_l1 32 22 q18 [31] ?_
    refine T_c (some 33) h ?_; clear h
    rintro v H3 ⟨ag, rfl, h⟩
    refine T_pd [29, 32] [(33, .bool ag)] <| T_nd 2 [26, 33] [(35, .bool ag)] ?_
    by_cases c19 : ag = true
    ·rw [if_pos c19] at h
     refine N_bd 35 c19 <| T_nd 1 [] [(36, vp (some ((ad b).add 4)))] ?_
     obtain ⟨p, q21, h⟩ := h
     refine T_l1 37 9 q21 [36] <| T_nd 1 [] [(38, vp (some ((ad a).add 4)))] ?_
     obtain ⟨y, q22, h⟩ := h
     refine T_l1 39 9 q22 [38] <| T_nd 3 [35, 37, 39] [(42, .bool (p.toList == y.toList))] ?_
     by_cases c23 : p.toList = y.toList
     ·rw [if_pos c23] at h
      refine N_bd 42 (beq_iff_eq.mpr c23) <| T_nd 1 [2] [(43, vp (some ((ad b).add 5)))] ?_
      obtain ⟨ao, k, ap, q25, h⟩ := h
      refine T_l1 44 25 q25 [43] <| T_nd 2 [3, 44] [(45, vi k), (46, vp (some ((ad a).add 5)))] ?_
      obtain ⟨an, u, aq, q26, h⟩ := h
      exact T_l1 47 25 q26 [46] <| T_nr 4 [4] [.bool ((k : Int) == (u : Int))] hQ h
     rw [if_neg c23] at h
     exact N_bd 42 (beq_eq_false_iff_ne.mpr c23) <| T_nr 9 [4] [.bool false] hQ h
    rw [if_neg c19] at h
    exact N_bd 35 (eq_false_of_ne_true c19) <| T_nr 16 [4] [.bool false] hQ h
   rw [if_neg c15] at h
   exact N_bd 26 (beq_eq_false_iff_ne.mpr c15) <| T_nr 25 [4] [.bool false] hQ h
  rw [if_neg c11] at h
  exact N_bd 17 (beq_eq_false_iff_ne.mpr c11) <| T_nr 34 [4] [.bool false] hQ h
 rw [if_neg c7] at h
 exact N_bd 10 (beq_eq_false_iff_ne.mpr c7) <| T_nr 41 [4] [.bool false] hQ h
end datum_flat

/-! moraine/datum.own -/
namespace datum_own
def K0 := Func.code Tryz.f83
end datum_own
def datum_own.pt (c0 dC : Int) (c1 : Bool) (bj : Option Addr) (bk bi : Nat) (dT : ByteArray) (d1 : Option Addr) (d2 d0 : Nat) (H : Array Obj) (R : Value → Array Obj → Prop) : Prop :=
 ∀ (b : Nat) (H1 : Array Obj), b = H.size → H1 = H.push (.cells (DR c0 dC c1 bj bk bi dT d1 d2 d0).toArray 27) →
 ∀ (a : Nat) (H2 : Array Obj), a = H1.size → H2 = H1.push (.cells (DR 0 0 false none 0 0 (ByteArray.mk #[]) none 0 0).toArray 27) →
 ∃ x : Int, hat H2 (ad b) = some (.int .i64 x) ∧
 ∀ (d : Nat) (H3 : Array Obj), d = H2.size → H3 = H2.push (.cells (DR 0 0 false none 0 0 (ByteArray.mk #[]) none 0 0).toArray 27) →
 (CanPuts H3 (ad d) 0 6) ∧ ∀ H4, H4 = hputs H3 (ad d) (DR x 0 false none 0 0 (ByteArray.mk #[]) none 0 0) 0 →
 ∃ e : Int, hat H4 (ad b) = some (.int .i64 e) ∧
 if e = 3 then (
 ∃ c5 : Int, hat H4 ((ad b).add 1) = some (.int .i32 c5) ∧
 (CanPuts H4 ((ad d).add 1) 0 1) ∧ ∀ H5, H5 = hputs H4 ((ad d).add 1) [.int .i32 c5] 0 →
 ∃ bg xC ay au ap aq xT da c8 c9, RowAt H5 (ad d) 0 (DR bg xC ay au ap aq xT da c8 c9) ∧
 (CanPuts H5 (ad a) 0 6) ∧ ∀ H6, H6 = hputs H5 (ad a) (DR bg xC ay au ap aq xT da c8 c9) 0 →
 ∃ dc rC dq c7 c6 c3 rT en el em, RowAt H6 (ad a) 0 (DR dc rC dq c7 c6 c3 rT en el em) ∧
 R (.agg (DR dc rC dq c7 c6 c3 rT en el em).toArray) H6)
 else
 if e = 4 then (
 ∃ (bx : Bool) (ax : Option Addr) (aw av : Nat), RowAt H4 ((ad b).add 2) 0 [.bool bx, .slice ax aw av] ∧
 (CanPuts H4 ((ad d).add 2) 0 2) ∧ ∀ H7, H7 = hputs H4 ((ad d).add 2) [.bool bx, .slice ax aw av] 0 →
 ∃ ao ch am z i m cd bc a8 a6, RowAt H7 (ad d) 0 (DR ao ch am z i m cd bc a8 a6) ∧
 (CanPuts H7 (ad a) 0 6) ∧ ∀ H8, H8 = hputs H7 (ad a) (DR ao ch am z i m cd bc a8 a6) 0 →
 ∃ cp d8 cy bt bs bp d7 dt dk df, RowAt H8 (ad a) 0 (DR cp d8 cy bt bs bp d7 dt dk df) ∧
 R (.agg (DR cp d8 cy bt bs bp d7 dt dk df).toArray) H8)
 else
 if e = 5 then (
 ∃ c4 : ByteArray, hat H4 ((ad b).add 4) = some (.string c4) ∧
 (CanPuts H4 ((ad d).add 4) 0 1) ∧ ∀ H9, H9 = hputs H4 ((ad d).add 4) [.string c4] 0 →
 ∃ an ck al f aa r cf bd a4 a2, RowAt H9 (ad d) 0 (DR an ck al f aa r cf bd a4 a2) ∧
 (CanPuts H9 (ad a) 0 6) ∧ ∀ ej, ej = hputs H9 (ad a) (DR an ck al f aa r cf bd a4 a2) 0 →
 ∃ cs d5 ct b2 bq bo ef dp db di, RowAt ej (ad a) 0 (DR cs d5 ct b2 bq bo ef dp db di) ∧
 R (.agg (DR cs d5 ct b2 bq bo ef dp db di).toArray) ej)
 else
 if e = 6 then (
 ∃ c2 : ByteArray, hat H4 ((ad b).add 4) = some (.string c2) ∧
 (CanPuts H4 ((ad d).add 4) 0 1) ∧ ∀ dx, dx = hputs H4 ((ad d).add 4) [.string c2] 0 →
 ∃ ag ce ah j p v cn a9 ba a5, RowAt dx (ad d) 0 (DR ag ce ah j p v cn a9 ba a5) ∧
 (CanPuts dx (ad a) 0 6) ∧ ∀ eh, eh = hputs dx (ad a) (DR ag ce ah j p v cn a9 ba a5) 0 →
 ∃ cx ee cv b5 b6 bm d4 dj dl de, RowAt eh (ad a) 0 (DR cx ee cv b5 b6 bm d4 dj dl de) ∧
 R (.agg (DR cx ee cv b5 b6 bm d4 dj dl de).toArray) eh)
 else
 if e = 7 then (
 ∃ (xB : Option Addr) (xN bz : Nat), hat H4 ((ad b).add 5) = some (.slice xB xN bz) ∧
 (CanPuts H4 ((ad d).add 5) 0 1) ∧ ∀ dz, dz = hputs H4 ((ad d).add 5) [.slice xB xN bz] 0 →
 ∃ aj ci ac q k g cj a7 bb a3, RowAt dz (ad d) 0 (DR aj ci ac q k g cj a7 bb a3) ∧
 (CanPuts dz (ad a) 0 6) ∧ ∀ ek, ek = hputs dz (ad a) (DR aj ci ac q k g cj a7 bb a3) 0 →
 ∃ cw eb cq b4 b0 b3 d9 dg du dn, RowAt ek (ad a) 0 (DR cw eb cq b4 b0 b3 d9 dg du dn) ∧
 R (.agg (DR cw eb cq b4 b0 b3 d9 dg du dn).toArray) ek)
 else
 if e = 8 then (
 ∃ (b9 : Option Addr) (bl b8 : Nat), hat H4 ((ad b).add 5) = some (.slice b9 bl b8) ∧
 (CanPuts H4 ((ad d).add 5) 0 1) ∧ ∀ dy, dy = hputs H4 ((ad d).add 5) [.slice b9 bl b8] 0 →
 ∃ ak cc ae y t u cl az a1 be, RowAt dy (ad d) 0 (DR ak cc ae y t u cl az a1 be) ∧
 (CanPuts dy (ad a) 0 6) ∧ ∀ eg, eg = hputs dy (ad a) (DR ak cc ae y t u cl az a1 be) 0 →
 ∃ cu ea cz bu bw b7 d6 dv dw dr, RowAt eg (ad a) 0 (DR cu ea cz bu bw b7 d6 dv dw dr) ∧
 R (.agg (DR cu ea cz bu bw b7 d6 dv dw dr).toArray) eg)
 else
 ∃ af cm ai ab o s cg bf a0 bh, RowAt H4 (ad d) 0 (DR af cm ai ab o s cg bf a0 bh) ∧
 (CanPuts H4 (ad a) 0 6) ∧ ∀ ei, ei = hputs H4 (ad a) (DR af cm ai ab o s cg bf a0 bh) 0 →
 ∃ cr ec co b1 br bn d3 dd dh dm, RowAt ei (ad a) 0 (DR cr ec co b1 br bn d3 dd dh dm) ∧
 R (.agg (DR cr ec co b1 br bn d3 dd dh dm).toArray) ei
namespace datum_own
theorem link {c0 dC : Int} {c1 : Bool} {bj : Option Addr} {bk bi : Nat} {dT : ByteArray} {d1 : Option Addr} {d2 d0 : Nat} {H : Array Obj} {R : Value → Array Obj → Prop} (h : pt c0 dC c1 bj bk bi dT d1 d2 d0 H R) : C c0 dC c1 bj bk bi dT d1 d2 d0 H R := by
 refine T_en K0 32 Tryz.func83 ?_
 intro w0 Q hQ
 unfold pt at h
 refine T_su [(0, .agg (DR c0 dC c1 bj bk bi dT d1 d2 d0).toArray)] <| T_srz 0 <| T_nw (some 1) (fun b => vp (pa b)) (.cells (DR c0 dC c1 bj bk bi dT d1 d2 d0).toArray 27) ?_
 intro b H1 e1 e2
 replace h := h b H1 e1 e2
 refine ⟨[(1, vp (pa b))], pk, ?_⟩
 refine T_nw (some 2) (fun b => vp (pa b)) (.cells (DR 0 0 false none 0 0 (ByteArray.mk #[]) none 0 0).toArray 27) ?_
 intro a H2 e3 e4
 replace h := h a H2 e3 e4
 refine T_pd [] [(2, vp (pa a))] <| T_e <| T_srz 1 <| T_nd 1 [] [(4, vp (pa b))] ?_
 obtain ⟨x, q5, h⟩ := h
 refine T_l1 5 3 q5 [4] <| T_nd 1 [5] [(6, .agg (DR x 0 false none 0 0 (ByteArray.mk #[]) none 0 0).toArray)] <| T_nw (some 3) (fun b => vp (pa b)) (.cells (DR 0 0 false none 0 0 (ByteArray.mk #[]) none 0 0).toArray 27) ?_
 intro d H3 e6 e7
 replace h := h d H3 e6 e7
 refine T_pd [] [(3, vp (pa d))] ?_
 obtain ⟨q9, h⟩ := h
 refine T_sta 27 (DR x 0 false none 0 0 (ByteArray.mk #[]) none 0 0) q9 ?_
 intro H4 e8
 replace h := h H4 e8
 refine T_pd [6] [] <| T_e <| T_sz <| T_srz 2 <| T_nd 1 [] [(7, vp (pa b))] ?_
 obtain ⟨e, q10, h⟩ := h
 refine T_l1 8 3 q10 [7] <| T_e <| T_bz 0 <| T_srz 3 <| T_ed 2 [] [(9, .bool (e == 3))] ?_
 by_cases c11 : e = 3
 ·rw [if_pos c11] at h
  refine T_cTz 9 (beq_iff_eq.mpr c11) <| T_rz 4 <| T_nd 1 [1, 8, 9] [(11, vp (some ((ad b).add 1)))] ?_
  obtain ⟨c5, q13, h⟩ := h
  refine T_l1 12 21 q13 [11] <| T_nd 1 [] [(13, vp (some ((ad d).add 1)))] ?_
  obtain ⟨q15, h⟩ := h
  refine T_st1 21 (.int .i32 c5) q15 ?_
  intro H5 e14
  replace h := h H5 e14
  refine T_pd [12, 13] [] ?_
  refine N_end (by kernel_rfl) ?_
  refine S_blockEnd ?_
  refine S_then ?_
  refine T_srz 13 ?_
  obtain ⟨bg, xC, ay, au, ap, aq, xT, da, c8, c9, q16, h⟩ := h
  refine T_lr 31 27 q16 [3] ?_
  obtain ⟨q18, h⟩ := h
  refine T_sta 27 (DR bg xC ay au ap aq xT da c8 c9) q18 ?_
  intro H6 e17
  replace h := h H6 e17
  refine T_pd [31] [] <| T_e ?_
  refine S_ret (by kernel_rfl) ?_
  show At _ _ _ _ _ (Q .ret)
  obtain ⟨dc, rC, dq, c7, c6, c3, rT, en, el, em, q19, h⟩ := h
  exact S_done (fn := Tryz.f83) [.agg (DR dc rC dq c7 c6 c3 rT en el em).toArray] hQ (show ResOK _ _ _ [.cell 2 27] _ from .cell (by kernel_rfl) (loadOK_row (fun _=>by kernel_rfl) (fun _=>by kernel_rfl) q19) (.nil)) h
 rw [if_neg c11] at h
 refine T_cFz 9 (beq_eq_false_iff_ne.mpr c11) <| T_srz 5 <| T_ed 2 [9] [(14, .bool (e == 4))] ?_
 by_cases c20 : e = 4
 ·rw [if_pos c20] at h
  refine T_cTz 14 (beq_iff_eq.mpr c20) <| T_rz 6 <| T_nd 1 [1, 8, 14] [(16, vp (some ((ad b).add 2)))] ?_
  obtain ⟨bx, ax, aw, av, q22, h⟩ := h
  refine T_lr 17 24 q22 [16] <| T_nd 1 [] [(18, vp (some ((ad d).add 2)))] ?_
  obtain ⟨q24, h⟩ := h
  refine T_sta 24 [.bool bx, vs ax aw av] q24 ?_
  intro H7 e23
  replace h := h H7 e23
  refine T_pd [17, 18] [] ?_
  refine N_end (by kernel_rfl) ?_
  refine S_blockEnd ?_
  refine S_then ?_
  refine T_srz 13 ?_
  obtain ⟨ao, ch, am, z, i, m, cd, bc, a8, a6, q25, h⟩ := h
  refine T_lr 31 27 q25 [3] ?_
  obtain ⟨q27, h⟩ := h
  refine T_sta 27 (DR ao ch am z i m cd bc a8 a6) q27 ?_
  intro H8 e26
  replace h := h H8 e26
  refine T_pd [31] [] <| T_e ?_
  refine S_ret (by kernel_rfl) ?_
  show At _ _ _ _ _ (Q .ret)
  obtain ⟨cp, d8, cy, bt, bs, bp, d7, dt, dk, df, q28, h⟩ := h
  exact S_done (fn := Tryz.f83) [.agg (DR cp d8 cy bt bs bp d7 dt dk df).toArray] hQ (show ResOK _ _ _ [.cell 2 27] _ from .cell (by kernel_rfl) (loadOK_row (fun _=>by kernel_rfl) (fun _=>by kernel_rfl) q28) (.nil)) h
 rw [if_neg c20] at h
 refine T_cFz 14 (beq_eq_false_iff_ne.mpr c20) <| T_sz <| T_srz 7 <| T_ed 2 [14] [(19, .bool (e == 5))] ?_
 by_cases c29 : e = 5
 ·rw [if_pos c29] at h
  refine S_bd 19 (beq_iff_eq.mpr c29) <| T_tz 19 <| T_kt <| T_tz 19 <| T_rz 9 <| T_nd 1 [1, 8, 19] [(22, vp (some ((ad b).add 4)))] ?_
  obtain ⟨c4, q31, h⟩ := h
  refine T_l1 23 9 q31 [22] <| T_nd 1 [] [(24, vp (some ((ad d).add 4)))] ?_
  obtain ⟨q33, h⟩ := h
  refine T_st1 9 (.string c4) q33 ?_
  intro H9 e32
  replace h := h H9 e32
  refine T_pd [23, 24] [] ?_
  refine N_end (by kernel_rfl) ?_
  refine S_blockEnd ?_
  refine S_then ?_
  refine T_srz 13 ?_
  obtain ⟨an, ck, al, f, aa, r, cf, bd, a4, a2, q34, h⟩ := h
  refine T_lr 31 27 q34 [3] ?_
  obtain ⟨q36, h⟩ := h
  refine T_sta 27 (DR an ck al f aa r cf bd a4 a2) q36 ?_
  intro ej e35
  replace h := h ej e35
  refine T_pd [31] [] <| T_e ?_
  refine S_ret (by kernel_rfl) ?_
  show At _ _ _ _ _ (Q .ret)
  obtain ⟨cs, d5, ct, b2, bq, bo, ef, dp, db, di, q37, h⟩ := h
  exact S_done (fn := Tryz.f83) [.agg (DR cs d5 ct b2 bq bo ef dp db di).toArray] hQ (show ResOK _ _ _ [.cell 2 27] _ from .cell (by kernel_rfl) (loadOK_row (fun _=>by kernel_rfl) (fun _=>by kernel_rfl) q37) (.nil)) h
 rw [if_neg c29] at h
 refine S_bd 19 (beq_eq_false_iff_ne.mpr c29) <| T_fz 19 <| T_rz 8 <| T_ed 2 [19] [(19, .bool (e == 6))] ?_
 by_cases c38 : e = 6
 ·rw [if_pos c38] at h
  refine T_cTz 19 (beq_iff_eq.mpr c38) <| T_rz 9 <| T_nd 1 [1, 8, 19] [(22, vp (some ((ad b).add 4)))] ?_
  obtain ⟨c2, q40, h⟩ := h
  refine T_l1 23 9 q40 [22] <| T_nd 1 [] [(24, vp (some ((ad d).add 4)))] ?_
  obtain ⟨q42, h⟩ := h
  refine T_st1 9 (.string c2) q42 ?_
  intro dx e41
  replace h := h dx e41
  refine T_pd [23, 24] [] ?_
  refine N_end (by kernel_rfl) ?_
  refine S_blockEnd ?_
  refine S_then ?_
  refine T_srz 13 ?_
  obtain ⟨ag, ce, ah, j, p, v, cn, a9, ba, a5, q43, h⟩ := h
  refine T_lr 31 27 q43 [3] ?_
  obtain ⟨q45, h⟩ := h
  refine T_sta 27 (DR ag ce ah j p v cn a9 ba a5) q45 ?_
  intro eh e44
  replace h := h eh e44
  refine T_pd [31] [] <| T_e ?_
  refine S_ret (by kernel_rfl) ?_
  show At _ _ _ _ _ (Q .ret)
  obtain ⟨cx, ee, cv, b5, b6, bm, d4, dj, dl, de, q46, h⟩ := h
  exact S_done (fn := Tryz.f83) [.agg (DR cx ee cv b5 b6 bm d4 dj dl de).toArray] hQ (show ResOK _ _ _ [.cell 2 27] _ from .cell (by kernel_rfl) (loadOK_row (fun _=>by kernel_rfl) (fun _=>by kernel_rfl) q46) (.nil)) h
 rw [if_neg c38] at h
 refine T_cFz 19 (beq_eq_false_iff_ne.mpr c38) <| T_sz <| T_srz 10 <| T_ed 2 [19] [(25, .bool (e == 7))] ?_
 by_cases c47 : e = 7
 ·rw [if_pos c47] at h
  refine S_bd 25 (beq_iff_eq.mpr c47) <| T_tz 25 <| T_kt <| T_tz 25 <| T_rz 12 <| T_nd 1 [1, 8, 25] [(28, vp (some ((ad b).add 5)))] ?_
  obtain ⟨xB, xN, bz, q49, h⟩ := h
  refine T_l1 29 25 q49 [28] <| T_nd 1 [] [(30, vp (some ((ad d).add 5)))] ?_
  obtain ⟨q51, h⟩ := h
  refine T_st1 25 (vs xB xN bz) q51 ?_
  intro dz e50
  replace h := h dz e50
  refine T_pd [29, 30] [] ?_
  refine N_end (by kernel_rfl) ?_
  refine S_blockEnd ?_
  refine S_then ?_
  refine T_srz 13 ?_
  obtain ⟨aj, ci, ac, q, k, g, cj, a7, bb, a3, q52, h⟩ := h
  refine T_lr 31 27 q52 [3] ?_
  obtain ⟨q54, h⟩ := h
  refine T_sta 27 (DR aj ci ac q k g cj a7 bb a3) q54 ?_
  intro ek e53
  replace h := h ek e53
  refine T_pd [31] [] <| T_e ?_
  refine S_ret (by kernel_rfl) ?_
  show At _ _ _ _ _ (Q .ret)
  obtain ⟨cw, eb, cq, b4, b0, b3, d9, dg, du, dn, q55, h⟩ := h
  exact S_done (fn := Tryz.f83) [.agg (DR cw eb cq b4 b0 b3 d9 dg du dn).toArray] hQ (show ResOK _ _ _ [.cell 2 27] _ from .cell (by kernel_rfl) (loadOK_row (fun _=>by kernel_rfl) (fun _=>by kernel_rfl) q55) (.nil)) h
 rw [if_neg c47] at h
 refine S_bd 25 (beq_eq_false_iff_ne.mpr c47) <| T_fz 25 <| T_rz 11 <| T_ed 2 [8, 25] [(25, .bool (e == 8))] ?_
 by_cases c56 : e = 8
 ·rw [if_pos c56] at h
  refine T_cTz 25 (beq_iff_eq.mpr c56) <| T_rz 12 <| T_nd 1 [1, 25] [(28, vp (some ((ad b).add 5)))] ?_
  obtain ⟨b9, bl, b8, q58, h⟩ := h
  refine T_l1 29 25 q58 [28] <| T_nd 1 [] [(30, vp (some ((ad d).add 5)))] ?_
  obtain ⟨q60, h⟩ := h
  refine T_st1 25 (vs b9 bl b8) q60 ?_
  intro dy e59
  replace h := h dy e59
  refine T_pd [29, 30] [] ?_
  refine N_end (by kernel_rfl) ?_
  refine S_blockEnd ?_
  refine S_then ?_
  refine T_srz 13 ?_
  obtain ⟨ak, cc, ae, y, t, u, cl, az, a1, be, q61, h⟩ := h
  refine T_lr 31 27 q61 [3] ?_
  obtain ⟨q63, h⟩ := h
  refine T_sta 27 (DR ak cc ae y t u cl az a1 be) q63 ?_
  intro eg e62
  replace h := h eg e62
  refine T_pd [31] [] <| T_e ?_
  refine S_ret (by kernel_rfl) ?_
  show At _ _ _ _ _ (Q .ret)
  obtain ⟨cu, ea, cz, bu, bw, b7, d6, dv, dw, dr, q64, h⟩ := h
  exact S_done (fn := Tryz.f83) [.agg (DR cu ea cz bu bw b7 d6 dv dw dr).toArray] hQ (show ResOK _ _ _ [.cell 2 27] _ from .cell (by kernel_rfl) (loadOK_row (fun _=>by kernel_rfl) (fun _=>by kernel_rfl) q64) (.nil)) h
 rw [if_neg c56] at h
 refine T_cFz 25 (beq_eq_false_iff_ne.mpr c56) <| T_k ?_
 refine S_blockEnd ?_
 refine S_then ?_
 refine T_srz 13 <| T_ud [1, 25] [] ?_
 obtain ⟨af, cm, ai, ab, o, s, cg, bf, a0, bh, q65, h⟩ := h
 refine T_lr 31 27 q65 [3] ?_
 obtain ⟨q67, h⟩ := h
 refine T_sta 27 (DR af cm ai ab o s cg bf a0 bh) q67 ?_
 intro ei e66
 replace h := h ei e66
 refine T_pd [31] [] <| T_e ?_
 refine S_ret (by kernel_rfl) ?_
 show At _ _ _ _ _ (Q .ret)
 obtain ⟨cr, ec, co, b1, br, bn, d3, dd, dh, dm, q68, h⟩ := h
 exact S_done (fn := Tryz.f83) [.agg (DR cr ec co b1 br bn d3 dd dh dm).toArray] hQ (show ResOK _ _ _ [.cell 2 27] _ from .cell (by kernel_rfl) (loadOK_row (fun _=>by kernel_rfl) (fun _=>by kernel_rfl) q68) (.nil)) h
end datum_own

/-! moraine/datum.text -/
namespace datum_text
def K0 := Func.code Tryz.f86
end datum_text
def datum_text.pt (s : ByteArray) (a : Int) (H : Array Obj) (R : Value → Array Obj → Prop) : Prop :=
 unicode_utf8_RuneCountInString.C s H (fun v H1 => ∃ x : Int, v = .int .i64 x ∧ 
 unicode_utf8_ValidString.C s H1 (fun d H2 => ∃ b : Bool, d = .bool b ∧ 
 R (.bool ((b && (decide (x ≥ a))) && (decide (x ≤ 62)))) H2))
namespace datum_text
theorem link {s : ByteArray} {a : Int} {H : Array Obj} {R : Value → Array Obj → Prop} (h : pt s a H R) : C s a H R := by
 refine T_en K0 19 Tryz.func86 ?_
 intro w0 Q hQ
 unfold pt at h
 refine T_su [(0, .string s), (1, vi a)] <| T_srz 0 <| T_ed 1 [] [] <| T_srz 1 <| T_nd 1 [] [(6, .string s)] ?_
 refine T_c (some 7) h ?_; clear h
 rintro v H1 ⟨x, rfl, h⟩
 refine T_pd [6] [(7, vi x)] <| T_ed 1 [7] [(5, vi x)] <| T_srz 2 <| T_nd 1 [0] [(8, .string s)] ?_
 refine T_c (some 9) h ?_; clear h
 rintro d H2 ⟨b, rfl, h⟩
 refine T_pd [8] [(9, .bool b)] <| T_nd 1 [9] [(10, .bool b)] ?_
 refine N_cut [(4, .bool ((b && (decide (x ≥ a))) && (decide (x ≤ 62))))] ?_ ?_
 ·refine S_then ?_
  exact T_ret [4] [.bool ((b && (decide (x ≥ a))) && (decide (x ≤ 62)))] hQ h
 intro hk
 refine T_nu [(1, vi a), (5, vi x), (10, .bool b)] ?_
 by_cases c1 : b = true
 ·have b2 : b = true := c1
  refine N_env [(1, vi a), (5, vi x), (10, .bool true)] (by rw [b2]) ?_
  refine T_nd 5 [1, 10] [(15, .bool (decide (x ≥ a)))] ?_
  by_cases c3 : x ≥ a
  ·have b4 : (decide (x ≥ a)) = true := decide_eq_true c3
   refine N_bd 15 b4 <| T_n 4 [(4, .bool (decide (x ≤ 62)))] ?_
   refine N_end (by kernel_rfl) ?_
   refine S_env [(4, .bool ((b && (decide (x ≥ a))) && (decide (x ≤ 62))))] (by simp only [b2, b4, BL]) ?_
   exact hk
  have b4 : (decide (x ≥ a)) = false := decide_eq_false c3
  refine N_bd 15 b4 <| T_n 4 [(4, .bool false)] ?_
  refine N_end (by kernel_rfl) ?_
  refine S_env [(4, .bool ((b && (decide (x ≥ a))) && (decide (x ≤ 62))))] (by simp only [b2, b4, BL]) ?_
  exact hk
 have b2 : b = false := eq_false_of_ne_true c1
 refine N_env [(1, vi a), (5, vi x), (10, .bool false)] (by rw [b2]) ?_
 refine T_n 9 [(4, .bool false)] ?_
 refine N_end (by kernel_rfl) ?_
 refine S_env [(4, .bool ((b && (decide (x ≥ a))) && (decide (x ≤ 62))))] (by simp only [b2, BL]) ?_
 exact hk
end datum_text

/-! moraine/datum.plain.1 -/
namespace datum_plain_1
def K0 := Func.code Tryz.f88
end datum_plain_1
def datum_plain_1.pt (r xC : Int) (q : Bool) (j : Option Addr) (i k : Nat) (xT : ByteArray) (z : Option Addr) (u y : Nat) (H : Array Obj) (R : Value → Array Obj → Prop) : Prop :=
 ∀ (b : Nat) (H1 : Array Obj), b = H.size → H1 = H.push (.cells (DR r xC q j i k xT z u y).toArray 27) →
 ∃ g t f d e a s o p m, RowAt H1 (ad b) 0 (DR g t f d e a s o p m) ∧
 datum_plain.C g t f d e a s o p m H1 (fun v H2 => ∃ x : Bool, v = .bool x ∧ 
 R (.bool (!x)) H2)
namespace datum_plain_1
theorem link {r xC : Int} {q : Bool} {j : Option Addr} {i k : Nat} {xT : ByteArray} {z : Option Addr} {u y : Nat} {H : Array Obj} {R : Value → Array Obj → Prop} (h : pt r xC q j i k xT z u y H R) : C r xC q j i k xT z u y H R := by
 refine T_en K0 6 Tryz.func88 ?_
 intro w0 Q hQ
 unfold pt at h
 refine T_su [(0, .agg (DR r xC q j i k xT z u y).toArray)] <| T_srz 0 <| T_nw (some 1) (fun b => vp (pa b)) (.cells (DR r xC q j i k xT z u y).toArray 27) ?_
 intro b H1 e1 e2
 replace h := h b H1 e1 e2
 refine ⟨[(1, vp (pa b))], pk, ?_⟩
 refine T_ed 1 [] [] <| T_srz 1 ?_
 obtain ⟨g, t, f, d, e, a, s, o, p, m, q3, h⟩ := h
 refine T_lr 3 27 q3 [1] ?_
 refine T_c (some 4) h ?_; clear h
 rintro v H2 ⟨x, rfl, h⟩
 refine ⟨[(4, .bool x)], pk, ?_⟩
 exact T_nr 2 [2] [.bool (!x)] hQ h
end datum_plain_1

end Go.Proofs.YtdgejifkcfgliaaGreatDoor
