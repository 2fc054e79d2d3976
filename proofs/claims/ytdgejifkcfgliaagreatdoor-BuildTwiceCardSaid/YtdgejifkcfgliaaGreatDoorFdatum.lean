/- Printed: what each function asks, and that it is sound. -/
import Derived.Test.YtdgejifkcfgliaaGreatDoorFnsC
set_option linter.unusedSimpArgs false
set_option linter.unusedVariables false
set_option maxRecDepth 100000
set_option maxHeartbeats 1000000
noncomputable section
namespace Go.Proofs.YtdgejifkcfgliaaGreatDoor
open Go
/-! moraine/datum.May -/
namespace datum_May
def K0 := Func.code Tryz.f25
end datum_May
def datum_May.pt (dKind : Int) (dC : Int) (dNNeg : Bool) (dNMagB : Option Addr) (dNMagN : Nat) (dNMagC : Nat) (dT : ByteArray) (dLB : Option Addr) (dLN : Nat) (dLC : Nat) (H : Array Obj) (R : Value → Array Obj → Prop) : Prop :=
 ∀ (b : Nat) (H1 : Array Obj), b = H.size → H1 = H.push (.cells (DR dKind dC dNNeg dNMagB dNMagN dNMagC dT dLB dLN dLC).toArray 27) →
 ∃ m xC r k j i xT y u aa, RowAt H1 (ad b) 0 (DR m xC r k j i xT y u aa) ∧
 datum_plain.C m xC r k j i xT y u aa H1 (fun v H2 => ∃ x : Bool, v = .bool x ∧ 
 if x = true then (
 ∃ g t f a d e s q o p, RowAt H2 (ad b) 0 (DR g t f a d e s q o p) ∧
 datum_Depth.C g t f a d e s q o p H2 (fun ab H3 => ∃ z : Int, ab = .int .i64 z ∧ 
 R (.bool (decide (z ≤ 64))) H3))
 else
 R (.bool false) H2)
namespace datum_May
theorem link {dKind : Int} {dC : Int} {dNNeg : Bool} {dNMagB : Option Addr} {dNMagN : Nat} {dNMagC : Nat} {dT : ByteArray} {dLB : Option Addr} {dLN : Nat} {dLC : Nat} {H : Array Obj} {R : Value → Array Obj → Prop} (h : pt dKind dC dNNeg dNMagB dNMagN dNMagC dT dLB dLN dLC H R) : C dKind dC dNNeg dNMagB dNMagN dNMagC dT dLB dLN dLC H R := by
 refine T_en K0 10 Tryz.func25 ?_
 intro w0 Q hQ
 unfold pt at h
 refine T_su [(0, .agg (DR dKind dC dNNeg dNMagB dNMagN dNMagC dT dLB dLN dLC).toArray)] ?_
 refine T_srz 0 ?_
 refine T_nw (some 1) (fun b => vp (pa b)) (.cells (DR dKind dC dNNeg dNMagB dNMagN dNMagC dT dLB dLN dLC).toArray 27) ?_
 intro b H1 e1 e2
 replace h := h b H1 e1 e2
 refine ⟨[(1, vp (pa b))], pk, ?_⟩
 refine T_ed 1 [] [] ?_
 refine T_srz 1 ?_
 obtain ⟨m, xC, r, k, j, i, xT, y, u, aa, q3, h⟩ := h
 refine T_lr 3 27 q3 [] ?_
 refine T_c (some 4) h ?_; clear h
 rintro v H2 ⟨x, rfl, h⟩
 refine T_pd [3] [(4, .bool x)] ?_
 refine T_nd 1 [4] [(5, .bool x)] ?_
 by_cases c4 : x = true
 ·rw [if_pos c4] at h
  refine N_bd 5 c4 ?_
  obtain ⟨g, t, f, a, d, e, s, q, o, p, q6, h⟩ := h
  refine T_lr 6 27 q6 [1] ?_
  refine T_c (some 7) h ?_; clear h
  rintro ab H3 ⟨z, rfl, h⟩
  refine T_pd [6] [(7, vi z)] ?_
  exact T_nr 3 [2] [.bool (decide (z ≤ 64))] hQ h
 rw [if_neg c4] at h
 refine N_bd 5 (eq_false_of_ne_true c4) ?_
 exact T_nr 5 [2] [.bool false] hQ h
end datum_May

/-! moraine/datum.plain -/
namespace datum_plain
def K0 := Func.code Tryz.f49
def K2 := cb K0
def K3 := ca K2
def K5 := ca K3
end datum_plain
def datum_plain.pt (dKind : Int) (dC : Int) (dNNeg : Bool) (dNMagB : Option Addr) (dNMagN : Nat) (dNMagC : Nat) (dT : ByteArray) (dLB : Option Addr) (dLN : Nat) (dLC : Nat) (H : Array Obj) (R : Value → Array Obj → Prop) : Prop :=
 ∀ (b : Nat) (H1 : Array Obj), b = H.size → H1 = H.push (.cells (DR dKind dC dNNeg dNMagB dNMagN dNMagC dT dLB dLN dLC).toArray 27) →
 ∃ x : Int, hat H1 (ad b) = some (.int .i64 x) ∧
 if x < 0 then (
 R (.bool false) H1)
 else
 ∃ d : Int, hat H1 (ad b) = some (.int .i64 d) ∧
 if d > 10 then (
 R (.bool false) H1)
 else
 ∃ p xC q f e g xT ak aj al, RowAt H1 (ad b) 0 (DR p xC q f e g xT ak aj al) ∧
 ∃ o an m j k i am af ae ac, RowAt H1 (ad b) 0 (DR o an m j k i am af ae ac) ∧
 datum_own.C o an m j k i am af ae ac H1 (fun v H2 => ∃ (z a5 : Int) (y : Bool) (u : Option Addr) (t s : Nat) (a6 : ByteArray) (ap : Option Addr) (ao aq : Nat), v = .agg (DR z a5 y u t s a6 ap ao aq).toArray ∧ RowAt H2 (ad b) 0 (DR p xC q f e g xT ak aj al) ∧ 
 datum_flat.C p xC q f e g xT ak aj al z a5 y u t s a6 ap ao aq H2 (fun bm H3 => ∃ r : Bool, bm = .bool r ∧ 
 if r = true then (
 ∃ a : Int, hat H3 (ad b) = some (.int .i64 a) ∧
 if a = 3 then (
 ∃ a8 : Int, hat H3 ((ad b).add 1) = some (.int .i32 a8) ∧
 unicode_utf8_ValidRune.C a8 H3 (fun bk H4 => ∃ a7 : Bool, bk = .bool a7 ∧ 
 R (.bool a7) H4))
 else
 if a = 4 then (
 ∃ (az : Bool) (ai : Option Addr) (ah ag : Nat), RowAt H3 ((ad b).add 2) 0 [.bool az, .slice ai ah ag] ∧
 num_May.C az ai ah ag H3 (fun bj H5 => ∃ bb : Bool, bj = .bool bb ∧ 
 R (.bool bb) H5))
 else
 if a = 6 then (
 ∃ ba : ByteArray, hat H3 ((ad b).add 4) = some (.string ba) ∧
 datum_text.C ba 1 H3 (fun bn H6 => ∃ a9 : Bool, bn = .bool a9 ∧ 
 R (.bool a9) H6))
 else
 if a = 5 then (
 ∃ a2 : ByteArray, hat H3 ((ad b).add 4) = some (.string a2) ∧
 datum_text.C a2 0 H3 (fun bh H7 => ∃ a0 : Bool, bh = .bool a0 ∧ 
 R (.bool a0) H7))
 else
 if a = 7 then (
 ∃ (xB : Option Addr) (xN bd : Nat), hat H3 ((ad b).add 5) = some (.slice xB xN bd) ∧
 if (xN : Int) = 2 then (
 ∃ (bf : Option Addr) (aa be : Nat), hat H3 ((ad b).add 5) = some (.slice bf aa be) ∧
 if (aa : Int) ≤ 62 then (
 ∃ (av : Option Addr) (aw a4 : Nat), hat H3 ((ad b).add 5) = some (.slice av aw a4) ∧
 slices_ContainsFunc_api_Datum_api_Datum.C av aw a4 (.func (.func 88) #[] #[]) H3 (fun bi H8 => ∃ ay : Bool, bi = .bool ay ∧ 
 R (.bool (!ay)) H8))
 else
 R (.bool false) H3)
 else
 R (.bool false) H3)
 else
 if a = 8 then (
 ∃ (bc : Option Addr) (ab bg : Nat), hat H3 ((ad b).add 5) = some (.slice bc ab bg) ∧
 if (ab : Int) ≤ 62 then (
 ∃ (a3 : Option Addr) (a1 au : Nat), hat H3 ((ad b).add 5) = some (.slice a3 a1 au) ∧
 slices_ContainsFunc_api_Datum_api_Datum.C a3 a1 au (.func (.func 88) #[] #[]) H3 (fun bl H9 => ∃ ax : Bool, bl = .bool ax ∧ 
 R (.bool (!ax)) H9))
 else
 R (.bool false) H3)
 else
 R (.bool true) H3)
 else
 R (.bool false) H3))
namespace datum_plain
theorem link {dKind : Int} {dC : Int} {dNNeg : Bool} {dNMagB : Option Addr} {dNMagN : Nat} {dNMagC : Nat} {dT : ByteArray} {dLB : Option Addr} {dLN : Nat} {dLC : Nat} {H : Array Obj} {R : Value → Array Obj → Prop} (h : pt dKind dC dNNeg dNMagB dNMagN dNMagC dT dLB dLN dLC H R) : C dKind dC dNNeg dNMagB dNMagN dNMagC dT dLB dLN dLC H R := by
 refine T_en K0 58 Tryz.func49 ?_
 intro w0 Q hQ
 unfold pt at h
 refine T_su [(0, .agg (DR dKind dC dNNeg dNMagB dNMagN dNMagC dT dLB dLN dLC).toArray)] ?_
 refine T_srz 0 ?_
 refine T_nw (some 1) (fun b => vp (pa b)) (.cells (DR dKind dC dNNeg dNMagB dNMagN dNMagC dT dLB dLN dLC).toArray 27) ?_
 intro b H1 e1 e2
 replace h := h b H1 e1 e2
 refine ⟨[(1, vp (pa b))], pk, ?_⟩
 refine T_ed 1 [] [] ?_
 refine T_sz ?_
 refine T_sz ?_
 obtain ⟨x, q3, h⟩ := h
 by_cases c4 : x < 0
 ·rw [if_pos c4] at h
  refine S_regionG 1 (Code.ops K5) [(15, (ad b), [vi x])] 15 (bv 15 0) (by kernel_rfl) (by kernel_rfl) (by kernel_rfl) (by kernel_rfl) (by kernel_rfl) (show FactsAt _ _ _ from ⟨⟨q3, trivial⟩, trivial⟩) ?_
  refine T_gp 0 (some 3) (vp (pa b)) (bv 15 1) [(1, vp (pa b)), (3, vp (pa b))] ?_
  refine T_g1 1 4 (vi x) (bv 15 3) [3] (loadN 3 (vp (pa b))) (held_one 15 (fun _=>by kernel_rfl) (List.Mem.head _) (.inr (by kernel_rfl))) ?_
  refine T_gp1 2 5 (.bool (decide (x < 0))) (bv 15 7) [4] ?_
  refine T_gp1 3 6 (.bool (decide (x < 0))) (bv 15 15) [5] ?_
  refine G_bd 6 (decide_eq_true c4) ?_
  refine T_gsd 4 (some 7) (bv 15 31) [] [(7, undef)] ?_
  refine T_gsd 5 (some 8) (bv 15 63) [7] [(8, undef)] ?_
  refine T_gsd 6 (some 9) (bv 15 127) [8] [(9, undef)] ?_
  refine T_gp1 7 10 (.bool true) (bv 15 255) [6, 9] ?_
  refine T_gp1 8 11 (.bool true) (bv 15 511) [10] ?_
  refine T_gsd 9 (some 12) (bv 15 1023) [] [(12, undef)] ?_
  refine T_gsd 10 (some 13) (bv 15 2047) [] [(13, undef)] ?_
  refine T_gsd 11 (some 14) (bv 15 4095) [13] [(14, undef)] ?_
  refine T_gsd 12 (some 15) (bv 15 8191) [12, 14] [(15, undef)] ?_
  refine T_gsd 13 (some 16) (bv 15 16383) [15] [(16, undef)] ?_
  refine T_gp1 14 17 (.bool true) (bv 15 32767) [11, 16] ?_
  refine G_sub [(1, vp (pa b)), (17, .bool true)] sk ?_
  refine G_end (by kernel_rfl) ?_
  refine S_then ?_
  refine T_tz 17 ?_
  refine T_srz 2 ?_
  exact T_nr 1 [2] [.bool false] hQ h
 rw [if_neg c4] at h
 obtain ⟨d, q6, h⟩ := h
 by_cases c7 : d > 10
 ·rw [if_pos c7] at h
  refine S_regionG 1 (Code.ops K5) [(15, (ad b), [vi x]), (15, (ad b), [vi d])] 15 (bv 15 0) (by kernel_rfl) (by kernel_rfl) (by kernel_rfl) (by kernel_rfl) (by kernel_rfl) (show FactsAt _ _ _ from ⟨⟨q3, trivial⟩, ⟨q6, trivial⟩, trivial⟩) ?_
  refine T_gp 0 (some 3) (vp (pa b)) (bv 15 1) [(1, vp (pa b)), (3, vp (pa b))] ?_
  refine T_g1 1 4 (vi x) (bv 15 3) [3] (loadN 3 (vp (pa b))) (held_one 15 (fun _=>by kernel_rfl) (List.Mem.head _) (.inr (by kernel_rfl))) ?_
  refine T_gp1 2 5 (.bool (decide (x < 0))) (bv 15 7) [4] ?_
  refine T_gp1 3 6 (.bool (decide (x < 0))) (bv 15 15) [5] ?_
  refine G_bd 6 (decide_eq_false c4) ?_
  refine T_gp1 4 7 (vp (pa b)) (bv 15 31) [] ?_
  refine T_g1 5 8 (vi d) (bv 15 63) [7] (loadN 3 (vp (pa b))) (held_one 15 (fun _=>by kernel_rfl) (List.Mem.tail _ (List.Mem.head _)) (.inr (by kernel_rfl))) ?_
  refine T_gp1 6 9 (.bool (decide (d > 10))) (bv 15 127) [8] ?_
  refine T_gp1 7 10 (.bool (decide (d > 10))) (bv 15 255) [6, 9] ?_
  refine T_gp1 8 11 (.bool (decide (d > 10))) (bv 15 511) [10] ?_
  refine G_bd 11 (decide_eq_true c7) ?_
  refine T_gsd 9 (some 12) (bv 15 1023) [] [(12, undef)] ?_
  refine T_gsd 10 (some 13) (bv 15 2047) [] [(13, undef)] ?_
  refine T_gsd 11 (some 14) (bv 15 4095) [13] [(14, undef)] ?_
  refine T_gsd 12 (some 15) (bv 15 8191) [12, 14] [(15, undef)] ?_
  refine T_gsd 13 (some 16) (bv 15 16383) [15] [(16, undef)] ?_
  refine T_gp1 14 17 (.bool true) (bv 15 32767) [11, 16] ?_
  refine G_sub [(1, vp (pa b)), (17, .bool true)] sk ?_
  refine G_end (by kernel_rfl) ?_
  refine S_then ?_
  refine T_tz 17 ?_
  refine T_srz 2 ?_
  exact T_nr 1 [2] [.bool false] hQ h
 rw [if_neg c7] at h
 obtain ⟨p, xC, q, f, e, g, xT, ak, aj, al, q9, h⟩ := h
 obtain ⟨o, an, m, j, k, i, am, af, ae, ac, q10, h⟩ := h
 refine S_regionG 1 (Code.ops K5) [(11, (ad b), [vi x]), (11, (ad b), [vi d]), (12, (ad b), (DR p xC q f e g xT ak aj al)), (11, (ad b), (DR o an m j k i am af ae ac))] 15 (bv 15 0) (by kernel_rfl) (by kernel_rfl) (by kernel_rfl) (by kernel_rfl) (by kernel_rfl) (show FactsAt _ _ _ from ⟨⟨q3, trivial⟩, ⟨q6, trivial⟩, q9, q10, trivial⟩) ?_
 refine T_gp 0 (some 3) (vp (pa b)) (bv 15 1) [(1, vp (pa b)), (3, vp (pa b))] ?_
 refine T_g1 1 4 (vi x) (bv 15 3) [3] (loadN 3 (vp (pa b))) (held_one 11 (fun _=>by kernel_rfl) (List.Mem.head _) (.inl (by kernel_rfl))) ?_
 refine T_gp1 2 5 (.bool (decide (x < 0))) (bv 15 7) [4] ?_
 refine T_gp1 3 6 (.bool (decide (x < 0))) (bv 15 15) [5] ?_
 refine G_bd 6 (decide_eq_false c4) ?_
 refine T_gp1 4 7 (vp (pa b)) (bv 15 31) [] ?_
 refine T_g1 5 8 (vi d) (bv 15 63) [7] (loadN 3 (vp (pa b))) (held_one 11 (fun _=>by kernel_rfl) (List.Mem.tail _ (List.Mem.head _)) (.inl (by kernel_rfl))) ?_
 refine T_gp1 6 9 (.bool (decide (d > 10))) (bv 15 127) [8] ?_
 refine T_gp1 7 10 (.bool (decide (d > 10))) (bv 15 255) [6, 9] ?_
 refine T_gp1 8 11 (.bool (decide (d > 10))) (bv 15 511) [10] ?_
 refine G_bd 11 (decide_eq_false c7) ?_
 refine T_g1 9 12 (.agg (DR p xC q f e g xT ak aj al).toArray) (bv 15 1023) [] (loadN 27 (vp (pa b))) (held_row 12 (fun _=>by kernel_rfl) (fun _=>by kernel_rfl) (List.Mem.tail _ (List.Mem.tail _ (List.Mem.head _))) (.inl (by kernel_rfl))) ?_
 refine T_g1 10 13 (.agg (DR o an m j k i am af ae ac).toArray) (bv 15 2047) [] (loadN 27 (vp (pa b))) (held_row 11 (fun _=>by kernel_rfl) (fun _=>by kernel_rfl) (List.Mem.tail _ (List.Mem.tail _ (List.Mem.tail _ (List.Mem.head _)))) (.inl (by kernel_rfl))) ?_
 refine G_call 11 (some 14) (bv 15 4095) 83 #[.agg (DR o an m j k i am af ae ac).toArray] (by kernel_rfl) (fun _=>by kernel_rfl) h (by kernel_rfl) ?_; clear h
 rintro v H2 ⟨z, a5, y, u, t, s, a6, ap, ao, aq, rfl, h⟩
 obtain ⟨f11, h⟩ := h
 refine ⟨[(1, vp (pa b)), (11, .bool false), (12, .agg (DR p xC q f e g xT ak aj al).toArray), (14, .agg (DR z a5 y u t s a6 ap ao aq).toArray)], pk, (show FactsAt _ _ _ from ⟨trivial, trivial, f11, trivial, trivial⟩), ?_⟩
 refine G_call 12 (some 15) (bv 15 8191) 82 #[.agg (DR p xC q f e g xT ak aj al).toArray, .agg (DR z a5 y u t s a6 ap ao aq).toArray] (by kernel_rfl) (fun _=>by kernel_rfl) h (by kernel_rfl) ?_; clear h
 rintro bm H3 ⟨r, rfl, h⟩
 refine ⟨[(1, vp (pa b)), (11, .bool false), (15, .bool r)], pk, (show FactsAt _ _ _ from ⟨trivial, trivial, trivial, trivial, trivial⟩), ?_⟩
 refine T_g 13 (some 16) (.bool (!r)) (bv 15 16383) [(1, vp (pa b)), (11, .bool false), (16, .bool (!r))] (pure (.value (.bool (!r))) : Sem Next) (fun _ _ _ _ _ => rfl) ?_
 refine T_g1 14 17 (.bool (!r)) (bv 15 32767) [11, 16] (pure (.value (.bool (!r))) : Sem Next) (fun _ _ _ _ _ => rfl) ?_
 refine G_sub [(1, vp (pa b)), (17, .bool (!r))] sk ?_
 refine G_end (by kernel_rfl) ?_
 refine S_then ?_
 by_cases c12 : r = true
 ·rw [if_pos c12] at h
  refine T_cFz 17 (congrArg Bool.not (c12)) ?_
  refine T_kt ?_
  refine T_sz ?_
  refine T_srz 3 ?_
  refine T_n 1 [(1, vp (pa b)), (18, vp (pa b))] ?_
  obtain ⟨a, q14, h⟩ := h
  refine T_l1 19 3 q14 [18] ?_
  refine T_e ?_
  refine T_bz 0 ?_
  refine T_sz ?_
  refine T_bz 6 ?_
  refine T_sz ?_
  refine T_bz 5 ?_
  refine T_sz ?_
  refine T_bz 4 ?_
  refine T_sz ?_
  refine T_bz 3 ?_
  refine T_sz ?_
  refine T_bz 2 ?_
  refine T_sz ?_
  refine T_bz 1 ?_
  refine T_sz ?_
  refine T_sz ?_
  refine T_srz 4 ?_
  refine T_ed 2 [] [(20, .bool (a == 3))] ?_
  by_cases c15 : a = 3
  ·rw [if_pos c15] at h
   refine T_cTz 20 (beq_iff_eq.mpr c15) ?_
   refine S_exit 1 (by kernel_rfl) ?_
   refine S_exitThen ?_
   refine S_exitThen ?_
   refine S_exitHere ?_
   refine S_then ?_
   refine T_sz ?_
   refine T_srz 10 ?_
   refine T_n 1 [(32, vp (some ((ad b).add 1)))] ?_
   obtain ⟨a8, q17, h⟩ := h
   refine T_l1 33 21 q17 [32] ?_
   refine T_c (some 34) h ?_; clear h
   rintro bk H4 ⟨a7, rfl, h⟩
   refine ⟨[(34, .bool a7)], pk, ?_⟩
   exact T_nr 1 [2] [.bool a7] hQ h
  rw [if_neg c15] at h
  refine T_cFz 20 (beq_eq_false_iff_ne.mpr c15) ?_
  refine T_kt ?_
  refine T_sz ?_
  refine T_srz 5 ?_
  refine T_ed 2 [20] [(22, .bool (a == 4))] ?_
  by_cases c18 : a = 4
  ·rw [if_pos c18] at h
   refine T_cTz 22 (beq_iff_eq.mpr c18) ?_
   refine S_exit 2 (by kernel_rfl) ?_
   refine S_exitThen ?_
   refine S_exitThen ?_
   refine S_exitPast (by kernel_rfl) ?_
   refine S_exitThen ?_
   refine S_exitHere ?_
   refine S_then ?_
   refine T_sz ?_
   refine T_srz 11 ?_
   refine T_n 1 [(35, vp (some ((ad b).add 2)))] ?_
   obtain ⟨az, ai, ah, ag, q20, h⟩ := h
   refine T_lr 36 24 q20 [35] ?_
   refine T_c (some 37) h ?_; clear h
   rintro bj H5 ⟨bb, rfl, h⟩
   refine ⟨[(37, .bool bb)], pk, ?_⟩
   exact T_nr 1 [2] [.bool bb] hQ h
  rw [if_neg c18] at h
  refine T_cFz 22 (beq_eq_false_iff_ne.mpr c18) ?_
  refine T_kt ?_
  refine T_sz ?_
  refine T_srz 6 ?_
  refine T_ed 2 [22] [(24, .bool (a == 6))] ?_
  by_cases c21 : a = 6
  ·rw [if_pos c21] at h
   refine T_cTz 24 (beq_iff_eq.mpr c21) ?_
   refine S_exit 3 (by kernel_rfl) ?_
   refine S_exitThen ?_
   refine S_exitThen ?_
   refine S_exitPast (by kernel_rfl) ?_
   refine S_exitThen ?_
   refine S_exitPast (by kernel_rfl) ?_
   refine S_exitThen ?_
   refine S_exitHere ?_
   refine S_then ?_
   refine T_sz ?_
   refine T_srz 12 ?_
   refine T_n 1 [(38, vp (some ((ad b).add 4)))] ?_
   obtain ⟨ba, q23, h⟩ := h
   refine T_l1 39 9 q23 [38] ?_
   refine T_c (some 40) h ?_; clear h
   rintro bn H6 ⟨a9, rfl, h⟩
   refine ⟨[(40, .bool a9)], pk, ?_⟩
   exact T_nr 1 [2] [.bool a9] hQ h
  rw [if_neg c21] at h
  refine T_cFz 24 (beq_eq_false_iff_ne.mpr c21) ?_
  refine T_kt ?_
  refine T_sz ?_
  refine T_srz 7 ?_
  refine T_ed 2 [24] [(26, .bool (a == 5))] ?_
  by_cases c24 : a = 5
  ·rw [if_pos c24] at h
   refine T_cTz 26 (beq_iff_eq.mpr c24) ?_
   refine S_exit 4 (by kernel_rfl) ?_
   refine S_exitThen ?_
   refine S_exitThen ?_
   refine S_exitPast (by kernel_rfl) ?_
   refine S_exitThen ?_
   refine S_exitPast (by kernel_rfl) ?_
   refine S_exitThen ?_
   refine S_exitPast (by kernel_rfl) ?_
   refine S_exitThen ?_
   refine S_exitHere ?_
   refine S_then ?_
   refine T_sz ?_
   refine T_srz 13 ?_
   refine T_n 1 [(41, vp (some ((ad b).add 4)))] ?_
   obtain ⟨a2, q26, h⟩ := h
   refine T_l1 42 9 q26 [41] ?_
   refine T_c (some 43) h ?_; clear h
   rintro bh H7 ⟨a0, rfl, h⟩
   refine ⟨[(43, .bool a0)], pk, ?_⟩
   exact T_nr 1 [2] [.bool a0] hQ h
  rw [if_neg c24] at h
  refine T_cFz 26 (beq_eq_false_iff_ne.mpr c24) ?_
  refine T_kt ?_
  refine T_sz ?_
  refine T_srz 8 ?_
  refine T_ed 2 [26] [(28, .bool (a == 7))] ?_
  by_cases c27 : a = 7
  ·rw [if_pos c27] at h
   refine T_cTz 28 (beq_iff_eq.mpr c27) ?_
   refine S_exit 5 (by kernel_rfl) ?_
   refine S_exitThen ?_
   refine S_exitThen ?_
   refine S_exitPast (by kernel_rfl) ?_
   refine S_exitThen ?_
   refine S_exitPast (by kernel_rfl) ?_
   refine S_exitThen ?_
   refine S_exitPast (by kernel_rfl) ?_
   refine S_exitThen ?_
   refine S_exitPast (by kernel_rfl) ?_
   refine S_exitThen ?_
   refine S_exitHere ?_
   refine S_then ?_
   refine T_srz 14 ?_
   refine T_nd 1 [19, 28] [(44, vp (some ((ad b).add 5)))] ?_
   obtain ⟨xB, xN, bd, q29, h⟩ := h
   refine T_l1 45 25 q29 [44] ?_
   refine T_ed 2 [45] [(47, .bool ((xN : Int) != 2))] ?_
   by_cases c30 : (xN : Int) = 2
   ·rw [if_pos c30] at h
    refine T_cFz 47 (bne_eq_false_iff_eq.mpr c30) ?_
    refine T_k ?_
    refine S_blockEnd ?_
    refine S_then ?_
    refine T_sz ?_
    refine T_srz 16 ?_
    refine T_nd 1 [47] [(48, vp (some ((ad b).add 5)))] ?_
    obtain ⟨bf, aa, be, q32, h⟩ := h
    refine T_l1 49 25 q32 [48] ?_
    refine T_nd 3 [49] [(52, .bool (decide ((aa : Int) ≤ 62)))] ?_
    by_cases c33 : (aa : Int) ≤ 62
    ·rw [if_pos c33] at h
     refine N_bd 52 (decide_eq_true c33) ?_
     refine T_nd 1 [1] [(53, vp (some ((ad b).add 5)))] ?_
     obtain ⟨av, aw, a4, q35, h⟩ := h
     refine T_l1 54 25 q35 [53] ?_
     refine T_c (some 55) h ?_; clear h
     rintro bi H8 ⟨ay, rfl, h⟩
     refine T_pd [54] [(55, .bool ay)] ?_
     exact T_nr 3 [2] [.bool (!ay)] hQ h
    rw [if_neg c33] at h
    refine N_bd 52 (decide_eq_false c33) ?_
    exact T_nr 6 [2] [.bool false] hQ h
   rw [if_neg c30] at h
   refine T_cTz 47 (bne_iff_ne.mpr c30) ?_
   refine T_srz 15 ?_
   exact T_nr 1 [2] [.bool false] hQ h
  rw [if_neg c27] at h
  refine T_cFz 28 (beq_eq_false_iff_ne.mpr c27) ?_
  refine T_kt ?_
  refine T_srz 9 ?_
  refine T_ed 2 [19, 28] [(30, .bool (a == 8))] ?_
  by_cases c36 : a = 8
  ·rw [if_pos c36] at h
   refine T_cTz 30 (beq_iff_eq.mpr c36) ?_
   refine S_exit 6 (by kernel_rfl) ?_
   refine S_exitThen ?_
   refine S_exitPast (by kernel_rfl) ?_
   refine S_exitThen ?_
   refine S_exitPast (by kernel_rfl) ?_
   refine S_exitThen ?_
   refine S_exitPast (by kernel_rfl) ?_
   refine S_exitThen ?_
   refine S_exitPast (by kernel_rfl) ?_
   refine S_exitThen ?_
   refine S_exitPast (by kernel_rfl) ?_
   refine S_exitThen ?_
   refine S_exitHere ?_
   refine S_then ?_
   refine T_sz ?_
   refine T_srz 16 ?_
   refine T_nd 1 [30] [(48, vp (some ((ad b).add 5)))] ?_
   obtain ⟨bc, ab, bg, q38, h⟩ := h
   refine T_l1 49 25 q38 [48] ?_
   refine T_nd 3 [49] [(52, .bool (decide ((ab : Int) ≤ 62)))] ?_
   by_cases c39 : (ab : Int) ≤ 62
   ·rw [if_pos c39] at h
    refine N_bd 52 (decide_eq_true c39) ?_
    refine T_nd 1 [1] [(53, vp (some ((ad b).add 5)))] ?_
    obtain ⟨a3, a1, au, q41, h⟩ := h
    refine T_l1 54 25 q41 [53] ?_
    refine T_c (some 55) h ?_; clear h
    rintro bl H9 ⟨ax, rfl, h⟩
    refine T_pd [54] [(55, .bool ax)] ?_
    exact T_nr 3 [2] [.bool (!ax)] hQ h
   rw [if_neg c39] at h
   refine N_bd 52 (decide_eq_false c39) ?_
   exact T_nr 6 [2] [.bool false] hQ h
  rw [if_neg c36] at h
  refine T_cFz 30 (beq_eq_false_iff_ne.mpr c36) ?_
  refine T_kt ?_
  refine S_exit 0 (by kernel_rfl) ?_
  refine S_exitPast (by kernel_rfl) ?_
  refine S_exitThen ?_
  refine S_exitPast (by kernel_rfl) ?_
  refine S_exitThen ?_
  refine S_exitPast (by kernel_rfl) ?_
  refine S_exitThen ?_
  refine S_exitPast (by kernel_rfl) ?_
  refine S_exitThen ?_
  refine S_exitPast (by kernel_rfl) ?_
  refine S_exitThen ?_
  refine S_exitPast (by kernel_rfl) ?_
  refine S_exitThen ?_
  refine S_exitHere ?_
  refine S_then ?_
  refine T_srz 17 ?_
  exact T_nr 1 [2] [.bool true] hQ h
 rw [if_neg c12] at h
 refine T_cTz 17 (congrArg Bool.not (eq_false_of_ne_true c12)) ?_
 refine T_srz 2 ?_
 exact T_nr 1 [2] [.bool false] hQ h
end datum_plain

/-! moraine/datum.Depth -/
namespace datum_Depth
def K0 := Func.code Tryz.f50
def K2 := cb K0
def K4 := cb K2
def K6 := cb K4
def K11 := ca K6
def K14 := cb K11
def K15 := ca K14
def K16 := ca K15
end datum_Depth
def datum_Depth.pt (dKind : Int) (dC : Int) (dNNeg : Bool) (dNMagB : Option Addr) (dNMagN : Nat) (dNMagC : Nat) (dT : ByteArray) (dLB : Option Addr) (dLN : Nat) (dLC : Nat) (H : Array Obj) (R : Value → Array Obj → Prop) : Prop :=
 ∀ (b : Nat) (H1 : Array Obj), b = H.size → H1 = H.push (.cells (DR dKind dC dNNeg dNMagB dNMagN dNMagC dT dLB dLN dLC).toArray 27) →
 ∃ x : Int, hat H1 (ad b) = some (.int .i64 x) ∧
 ∃ J : Int → Array Obj → Prop, (
 if x = 8 then (
 J 1 H1)
 else
 J 0 H1) ∧ ∀ (nv : Int) (H2 : Array Obj), J nv H2 →
 ∃ (xB : Option Addr) (xN xC : Nat), hat H2 ((ad b).add 5) = some (.slice xB xN xC) ∧
 ∃ (an : Int → Int → Array Obj → Prop) (m17 : Int → Int → Array Obj → Nat), an nv 0 H2 ∧ ∀ (d : Int) (s13 : Int) (H3 : Array Obj), an d s13 H3 →
 if s13 < (xN : Int) then (
 ∃ f : Addr, xB = some f ∧
 ((0 : Int) ≤ s13 ∧ s13 < (xN : Int)) ∧
 ∃ s aa u o m j xT ah ag ai, RowAt H3 (f.add (Int.toNat s13 * 6)) 0 (DR s aa u o m j xT ah ag ai) ∧
 ∀ (g : Nat) (H4 : Array Obj), g = H3.size → H4 = H3.push (.cells (DR 0 0 false none 0 0 (ByteArray.mk #[]) none 0 0).toArray 27) →
 (CanPuts H4 (ad g) 0 6) ∧ ∀ H5, H5 = hputs H4 (ad g) (DR s aa u o m j xT ah ag ai) 0 →
 ∃ z am y p q r al af ac ae, RowAt H5 (ad g) 0 (DR z am y p q r al af ac ae) ∧
 datum_Depth.C z am y p q r al af ac ae H5 (fun v H6 => ∃ e : Int, v = .int .i64 e ∧ 
 ∃ aj : Int, hat H6 (ad b) = some (.int .i64 aj) ∧
 if aj = 7 then (
 ∃ (ap : Option Addr) (ab ao : Nat), hat H6 ((ad b).add 5) = some (.slice ap ab ao) ∧
 if (IntKind.wrap .i64 (s13 + 1)) < (ab : Int) then (
 (an (if d < (IntKind.wrap .i64 (e + 1)) then (IntKind.wrap .i64 (e + 1)) else d) (IntKind.wrap .i64 (s13 + 1)) H6 ∧ m17 (if d < (IntKind.wrap .i64 (e + 1)) then (IntKind.wrap .i64 (e + 1)) else d) (IntKind.wrap .i64 (s13 + 1)) H6 < m17 d s13 H3))
 else
 ∃ ak : Int, hat H6 (ad g) = some (.int .i64 ak) ∧
 if ak = 7 then (
 (an (if d < e then e else d) (IntKind.wrap .i64 (s13 + 1)) H6 ∧ m17 (if d < e then e else d) (IntKind.wrap .i64 (s13 + 1)) H6 < m17 d s13 H3))
 else
 (an (if d < (IntKind.wrap .i64 (e + 1)) then (IntKind.wrap .i64 (e + 1)) else d) (IntKind.wrap .i64 (s13 + 1)) H6 ∧ m17 (if d < (IntKind.wrap .i64 (e + 1)) then (IntKind.wrap .i64 (e + 1)) else d) (IntKind.wrap .i64 (s13 + 1)) H6 < m17 d s13 H3))
 else
 (an (if d < (IntKind.wrap .i64 (e + 1)) then (IntKind.wrap .i64 (e + 1)) else d) (IntKind.wrap .i64 (s13 + 1)) H6 ∧ m17 (if d < (IntKind.wrap .i64 (e + 1)) then (IntKind.wrap .i64 (e + 1)) else d) (IntKind.wrap .i64 (s13 + 1)) H6 < m17 d s13 H3)))
 else
 R (.int .i64 d) H3
namespace datum_Depth
theorem link {dKind : Int} {dC : Int} {dNNeg : Bool} {dNMagB : Option Addr} {dNMagN : Nat} {dNMagC : Nat} {dT : ByteArray} {dLB : Option Addr} {dLN : Nat} {dLC : Nat} {H : Array Obj} {R : Value → Array Obj → Prop} (h : pt dKind dC dNNeg dNMagB dNMagN dNMagC dT dLB dLN dLC H R) : C dKind dC dNNeg dNMagB dNMagN dNMagC dT dLB dLN dLC H R := by
 refine T_en K0 43 Tryz.func50 ?_
 intro w0 Q hQ
 unfold pt at h
 refine T_su [(0, .agg (DR dKind dC dNNeg dNMagB dNMagN dNMagC dT dLB dLN dLC).toArray)] ?_
 refine T_srz 0 ?_
 refine T_nw (some 1) (fun b => vp (pa b)) (.cells (DR dKind dC dNNeg dNMagB dNMagN dNMagC dT dLB dLN dLC).toArray 27) ?_
 intro b H1 e1 e2
 replace h := h b H1 e1 e2
 refine ⟨[(1, vp (pa b))], pk, ?_⟩
 refine T_ed 1 [] [] ?_
 refine T_srz 1 ?_
 refine T_ed 1 [] [(3, vi 0)] ?_
 refine T_sz ?_
 refine T_srz 2 ?_
 refine T_nd 1 [] [(7, vp (pa b))] ?_
 obtain ⟨x, q3, h⟩ := h
 refine T_l1 8 3 q3 [7] ?_
 refine T_ne 1 [(1, vp (pa b)), (3, vi 0), (9, .bool (x == 8))] ?_
 obtain ⟨J, h, j5⟩ := h
 refine S_join (σ := Int) (fun s_ => [(1, vp (pa b)), (3, vi s_)]) (fun s_ H => J s_ H) ?_ ?_
 ·rintro nv H2 j6
  replace h := j5 nv H2 j6
  refine T_su [(1, vp (pa b)), (3, vi nv)] ?_
  refine S_then ?_
  refine T_sz ?_
  refine T_srz 4 ?_
  refine T_nd 1 [] [(10, vp (some ((ad b).add 5)))] ?_
  obtain ⟨xB, xN, xC, q7, h⟩ := h
  refine T_l1 11 25 q7 [10] ?_
  refine T_ed 2 [] [(12, vi xN), (13, vi 0)] ?_
  refine T_bz 0 ?_
  obtain ⟨an, m17, i8, i9⟩ := h
  refine S_loop (x := K16) (σ := Int × Int) (fun s_ => [(1, vp (pa b)), (3, vi s_.1), (11, vs xB xN xC), (12, vi xN), (13, vi s_.2)]) (fun s_ H => an s_.1 s_.2 H) (fun s_ H => m17 s_.1 s_.2 H) ((nv, 0) : Int × Int) (by kernel_rfl) i8 sk ?_
  rintro ⟨d, s13⟩ H3 i10
  have h := i9 d s13 H3 i10
  refine T_su [(1, vp (pa b)), (3, vi d), (11, vs xB xN xC), (12, vi xN), (13, vi s13)] ?_
  refine T_srz 5 ?_
  refine T_ed 1 [] [(14, .bool (decide (s13 < (xN : Int))))] ?_
  refine T_sz ?_
  by_cases c11 : s13 < (xN : Int)
  ·rw [if_pos c11] at h
   refine T_cTz 14 (decide_eq_true c11) ?_
   refine T_kt ?_
   refine T_sz ?_
   refine T_bz 1 ?_
   refine T_srz 6 ?_
   refine T_nd 1 [14] [(15, vi s13)] ?_
   obtain ⟨f, rfl, h⟩ := h
   obtain ⟨q13, h⟩ := h
   refine T_xd (some 16) 25 27 6 f xN xC .i64 s13 Tryz.underlying25 q13.1 q13.2 [11] [(11, vs (some f) xN xC), (16, vp (some (f.add (Int.toNat s13 * 6))))] ?_
   obtain ⟨s, aa, u, o, m, j, xT, ah, ag, ai, q14, h⟩ := h
   refine T_lr 17 27 q14 [16] ?_
   refine T_nw (some 5) (fun b => vp (pa b)) (.cells (DR 0 0 false none 0 0 (ByteArray.mk #[]) none 0 0).toArray 27) ?_
   intro g H4 e15 e16
   replace h := h g H4 e15 e16
   refine T_pd [] [(5, vp (pa g))] ?_
   refine T_nd 1 [15] [(4, vi s13)] ?_
   obtain ⟨q18, h⟩ := h
   refine T_sta 27 (DR s aa u o m j xT ah ag ai) q18 ?_
   intro H5 e17
   replace h := h H5 e17
   refine T_pd [17] [] ?_
   refine T_e ?_
   refine T_srz 7 ?_
   obtain ⟨z, am, y, p, q, r, al, af, ac, ae, q19, h⟩ := h
   refine T_lr 18 27 q19 [] ?_
   refine T_c (some 19) h ?_; clear h
   rintro v H6 ⟨e, rfl, h⟩
   refine T_pd [18] [(19, vi e)] ?_
   refine T_ed 1 [19] [(6, vi e)] ?_
   refine T_sz ?_
   refine T_srz 8 ?_
   refine T_nd 1 [] [(20, vp (pa b))] ?_
   obtain ⟨aj, q20, h⟩ := h
   refine T_l1 21 3 q20 [20] ?_
   refine T_nd 2 [21] [(23, .bool (aj != 7))] ?_
   by_cases c21 : aj = 7
   ·rw [if_pos c21] at h
    refine N_bd 23 (bne_eq_false_iff_eq.mpr c21) ?_
    refine T_nd 3 [4] [(25, vi (IntKind.wrap .i64 (s13 + 1))), (26, vp (some ((ad b).add 5)))] ?_
    obtain ⟨ap, ab, ao, q23, h⟩ := h
    refine T_l1 27 25 q23 [26] ?_
    refine T_nd 4 [23, 25, 27] [(31, .bool (decide ((IntKind.wrap .i64 (s13 + 1)) < (ab : Int))))] ?_
    by_cases c24 : (IntKind.wrap .i64 (s13 + 1)) < (ab : Int)
    ·rw [if_pos c24] at h
     refine N_bd 31 (decide_eq_true c24) ?_
     refine T_ed 4 [5, 31] [(35, .bool true)] ?_
     refine T_tz 35 ?_
     refine T_rz 9 ?_
     refine T_ed 3 [6, 35] [(6, vi (IntKind.wrap .i64 (e + 1)))] ?_
     refine T_rz 10 ?_
     refine T_nd 4 [3, 6] [(3, vi (if d < (IntKind.wrap .i64 (e + 1)) then (IntKind.wrap .i64 (e + 1)) else d))] ?_
     refine N_end (by kernel_rfl) ?_
     refine S_blockEnd ?_
     refine S_then ?_
     refine T_rz 11 ?_
     refine T_ed 2 [13] [(13, vi (IntKind.wrap .i64 (s13 + 1)))] ?_
     exact S_round (((if d < (IntKind.wrap .i64 (e + 1)) then (IntKind.wrap .i64 (e + 1)) else d), (IntKind.wrap .i64 (s13 + 1))) : Int × Int) sk h
    rw [if_neg c24] at h
    refine N_bd 31 (decide_eq_false c24) ?_
    refine T_nd 1 [5] [(32, vp (pa g))] ?_
    obtain ⟨ak, q26, h⟩ := h
    refine T_l1 33 3 q26 [32] ?_
    refine T_ed 2 [31, 33] [(35, .bool (ak != 7))] ?_
    by_cases c27 : ak = 7
    ·rw [if_pos c27] at h
     refine T_cFz 35 (bne_eq_false_iff_eq.mpr c27) ?_
     refine T_kt ?_
     refine T_rz 10 ?_
     refine T_nd 4 [3, 6, 35] [(3, vi (if d < e then e else d))] ?_
     refine N_end (by kernel_rfl) ?_
     refine S_blockEnd ?_
     refine S_then ?_
     refine T_rz 11 ?_
     refine T_ed 2 [13] [(13, vi (IntKind.wrap .i64 (s13 + 1)))] ?_
     exact S_round (((if d < e then e else d), (IntKind.wrap .i64 (s13 + 1))) : Int × Int) sk h
    rw [if_neg c27] at h
    refine T_cTz 35 (bne_iff_ne.mpr c27) ?_
    refine T_rz 9 ?_
    refine T_ed 3 [6, 35] [(6, vi (IntKind.wrap .i64 (e + 1)))] ?_
    refine T_rz 10 ?_
    refine T_nd 4 [3, 6] [(3, vi (if d < (IntKind.wrap .i64 (e + 1)) then (IntKind.wrap .i64 (e + 1)) else d))] ?_
    refine N_end (by kernel_rfl) ?_
    refine S_blockEnd ?_
    refine S_then ?_
    refine T_rz 11 ?_
    refine T_ed 2 [13] [(13, vi (IntKind.wrap .i64 (s13 + 1)))] ?_
    exact S_round (((if d < (IntKind.wrap .i64 (e + 1)) then (IntKind.wrap .i64 (e + 1)) else d), (IntKind.wrap .i64 (s13 + 1))) : Int × Int) sk h
   rw [if_neg c21] at h
   refine N_bd 23 (bne_iff_ne.mpr c21) ?_
   refine T_ed 12 [4, 5, 23] [(35, .bool true)] ?_
   refine T_tz 35 ?_
   refine T_rz 9 ?_
   refine T_ed 3 [6, 35] [(6, vi (IntKind.wrap .i64 (e + 1)))] ?_
   refine T_rz 10 ?_
   refine T_nd 4 [3, 6] [(3, vi (if d < (IntKind.wrap .i64 (e + 1)) then (IntKind.wrap .i64 (e + 1)) else d))] ?_
   refine N_end (by kernel_rfl) ?_
   refine S_blockEnd ?_
   refine S_then ?_
   refine T_rz 11 ?_
   refine T_ed 2 [13] [(13, vi (IntKind.wrap .i64 (s13 + 1)))] ?_
   exact S_round (((if d < (IntKind.wrap .i64 (e + 1)) then (IntKind.wrap .i64 (e + 1)) else d), (IntKind.wrap .i64 (s13 + 1))) : Int × Int) sk h
  rw [if_neg c11] at h
  refine T_cFz 14 (decide_eq_false c11) ?_
  refine S_exit 0 (by kernel_rfl) ?_
  refine S_exitThen ?_
  refine S_exitThen ?_
  refine S_exitHere ?_
  refine S_then ?_
  refine T_srz 12 ?_
  exact T_nr 2 [2] [vi d] hQ h
 by_cases c29 : x = 8
 ·rw [if_pos c29] at h
  have b30 : (x == 8) = true := beq_iff_eq.mpr c29
  refine S_env [(1, vp (pa b)), (3, vi 0), (9, .bool true)] (by simp only [b30, Bool.not_true, Bool.not_false]) ?_
  clear b30
  refine T_tz 9 ?_
  refine T_rz 3 ?_
  refine T_ed 1 [3, 9] [(3, vi 1)] ?_
  exact S_meet (1 : Int) sk h
 rw [if_neg c29] at h
 have b30 : (x == 8) = false := beq_eq_false_iff_ne.mpr c29
 refine S_env [(1, vp (pa b)), (3, vi 0), (9, .bool false)] (by simp only [b30, Bool.not_true, Bool.not_false]) ?_
 clear b30
 refine T_fz 9 ?_
 refine T_kt ?_
 exact S_meet (0 : Int) sk h
end datum_Depth

/-! moraine/datum.flat -/
namespace datum_flat
def K0 := Func.code Tryz.f82
end datum_flat
def datum_flat.pt (aKind : Int) (aC : Int) (aNNeg : Bool) (aNMagB : Option Addr) (aNMagN : Nat) (aNMagC : Nat) (aT : ByteArray) (aLB : Option Addr) (aLN : Nat) (aLC : Nat) (bKind : Int) (bC : Int) (bNNeg : Bool) (bNMagB : Option Addr) (bNMagN : Nat) (bNMagC : Nat) (bT : ByteArray) (bLB : Option Addr) (bLN : Nat) (bLC : Nat) (H : Array Obj) (R : Value → Array Obj → Prop) : Prop :=
 ∀ (b : Nat) (H1 : Array Obj), b = H.size → H1 = H.push (.cells (DR aKind aC aNNeg aNMagB aNMagN aNMagC aT aLB aLN aLC).toArray 27) →
 ∀ (a : Nat) (H2 : Array Obj), a = H1.size → H2 = H1.push (.cells (DR bKind bC bNNeg bNMagB bNMagN bNMagC bT bLB bLN bLC).toArray 27) →
 ∃ x : Int, hat H2 (ad b) = some (.int .i64 x) ∧
 ∃ m : Int, hat H2 (ad a) = some (.int .i64 m) ∧
 if x = m then (
 ∃ f : Int, hat H2 ((ad b).add 1) = some (.int .i32 f) ∧
 ∃ k : Int, hat H2 ((ad a).add 1) = some (.int .i32 k) ∧
 if f = k then (
 ∃ g : Bool, hat H2 ((ad b).add 2) = some (.bool g) ∧
 ∃ j : Bool, hat H2 ((ad a).add 2) = some (.bool j) ∧
 if g = j then (
 ∃ (xB : Option Addr) (xN xC : Nat), hat H2 (((ad b).add 2).add 1) = some (.slice xB xN xC) ∧
 ∃ (r : Option Addr) (p q : Nat), hat H2 (((ad a).add 2).add 1) = some (.slice r p q) ∧
 slices_Equal_uint32_uint32.C xB xN xC r p q H2 (fun v H3 => ∃ s : Bool, v = .bool s ∧ 
 if s = true then (
 ∃ e : ByteArray, hat H3 ((ad b).add 4) = some (.string e) ∧
 ∃ o : ByteArray, hat H3 ((ad a).add 4) = some (.string o) ∧
 if e.toList = o.toList then (
 ∃ (t : Option Addr) (d z : Nat), hat H3 ((ad b).add 5) = some (.slice t d z) ∧
 ∃ (y : Option Addr) (i u : Nat), hat H3 ((ad a).add 5) = some (.slice y i u) ∧
 R (.bool ((d : Int) == (i : Int))) H3)
 else
 R (.bool false) H3)
 else
 R (.bool false) H3))
 else
 R (.bool false) H2)
 else
 R (.bool false) H2)
 else
 R (.bool false) H2
namespace datum_flat
theorem link {aKind : Int} {aC : Int} {aNNeg : Bool} {aNMagB : Option Addr} {aNMagN : Nat} {aNMagC : Nat} {aT : ByteArray} {aLB : Option Addr} {aLN : Nat} {aLC : Nat} {bKind : Int} {bC : Int} {bNNeg : Bool} {bNMagB : Option Addr} {bNMagN : Nat} {bNMagC : Nat} {bT : ByteArray} {bLB : Option Addr} {bLN : Nat} {bLC : Nat} {H : Array Obj} {R : Value → Array Obj → Prop} (h : pt aKind aC aNNeg aNMagB aNMagN aNMagC aT aLB aLN aLC bKind bC bNNeg bNMagB bNMagN bNMagC bT bLB bLN bLC H R) : C aKind aC aNNeg aNMagB aNMagN aNMagC aT aLB aLN aLC bKind bC bNNeg bNMagB bNMagN bNMagC bT bLB bLN bLC H R := by
 refine T_en K0 51 Tryz.func82 ?_
 intro w0 Q hQ
 unfold pt at h
 refine T_su [(0, .agg (DR aKind aC aNNeg aNMagB aNMagN aNMagC aT aLB aLN aLC).toArray), (1, .agg (DR bKind bC bNNeg bNMagB bNMagN bNMagC bT bLB bLN bLC).toArray)] ?_
 refine T_srz 0 ?_
 refine T_nw (some 2) (fun b => vp (pa b)) (.cells (DR aKind aC aNNeg aNMagB aNMagN aNMagC aT aLB aLN aLC).toArray 27) ?_
 intro b H1 e1 e2
 replace h := h b H1 e1 e2
 refine T_pd [0] [(2, vp (pa b))] ?_
 refine T_nw (some 3) (fun b => vp (pa b)) (.cells (DR bKind bC bNNeg bNMagB bNMagN bNMagC bT bLB bLN bLC).toArray 27) ?_
 intro a H2 e3 e4
 replace h := h a H2 e3 e4
 refine T_pd [1] [(3, vp (pa a))] ?_
 refine T_ed 1 [] [] ?_
 refine T_srz 1 ?_
 refine T_nd 1 [] [(5, vp (pa b))] ?_
 obtain ⟨x, q5, h⟩ := h
 refine T_l1 6 3 q5 [5] ?_
 refine T_nd 1 [] [(7, vp (pa a))] ?_
 obtain ⟨m, q6, h⟩ := h
 refine T_l1 8 3 q6 [7] ?_
 refine T_nd 2 [6, 8] [(10, .bool (x == m))] ?_
 by_cases c7 : x = m
 ·rw [if_pos c7] at h
  refine N_bd 10 (beq_iff_eq.mpr c7) ?_
  refine T_nd 1 [] [(11, vp (some ((ad b).add 1)))] ?_
  obtain ⟨f, q9, h⟩ := h
  refine T_l1 12 21 q9 [11] ?_
  refine T_nd 1 [] [(13, vp (some ((ad a).add 1)))] ?_
  obtain ⟨k, q10, h⟩ := h
  refine T_l1 14 21 q10 [13] ?_
  refine T_nd 3 [10, 12, 14] [(17, .bool (f == k))] ?_
  by_cases c11 : f = k
  ·rw [if_pos c11] at h
   refine N_bd 17 (beq_iff_eq.mpr c11) ?_
   refine T_nd 2 [] [(19, vp (some ((ad b).add 2)))] ?_
   obtain ⟨g, q13, h⟩ := h
   refine T_l1 20 4 q13 [19] ?_
   refine T_nd 2 [] [(22, vp (some ((ad a).add 2)))] ?_
   obtain ⟨j, q14, h⟩ := h
   refine T_l1 23 4 q14 [22] ?_
   refine T_nd 3 [17, 20, 23] [(26, .bool (g == j))] ?_
   by_cases c15 : g = j
   ·rw [if_pos c15] at h
    refine N_bd 26 (beq_iff_eq.mpr c15) ?_
    refine T_nd 2 [] [(28, vp (some (((ad b).add 2).add 1)))] ?_
    obtain ⟨xB, xN, xC, q17, h⟩ := h
    refine T_l1 29 22 q17 [28] ?_
    refine T_nd 2 [] [(31, vp (some (((ad a).add 2).add 1)))] ?_
    obtain ⟨r, p, q, q18, h⟩ := h
    refine T_l1 32 22 q18 [31] ?_
    refine T_c (some 33) h ?_; clear h
    rintro v H3 ⟨s, rfl, h⟩
    refine T_pd [29, 32] [(33, .bool s)] ?_
    refine T_nd 2 [26, 33] [(35, .bool s)] ?_
    by_cases c19 : s = true
    ·rw [if_pos c19] at h
     refine N_bd 35 c19 ?_
     refine T_nd 1 [] [(36, vp (some ((ad b).add 4)))] ?_
     obtain ⟨e, q21, h⟩ := h
     refine T_l1 37 9 q21 [36] ?_
     refine T_nd 1 [] [(38, vp (some ((ad a).add 4)))] ?_
     obtain ⟨o, q22, h⟩ := h
     refine T_l1 39 9 q22 [38] ?_
     refine T_nd 3 [35, 37, 39] [(42, .bool (e.toList == o.toList))] ?_
     by_cases c23 : e.toList = o.toList
     ·rw [if_pos c23] at h
      refine N_bd 42 (beq_iff_eq.mpr c23) ?_
      refine T_nd 1 [2] [(43, vp (some ((ad b).add 5)))] ?_
      obtain ⟨t, d, z, q25, h⟩ := h
      refine T_l1 44 25 q25 [43] ?_
      refine T_nd 2 [3, 44] [(45, vi d), (46, vp (some ((ad a).add 5)))] ?_
      obtain ⟨y, i, u, q26, h⟩ := h
      refine T_l1 47 25 q26 [46] ?_
      exact T_nr 4 [4] [.bool ((d : Int) == (i : Int))] hQ h
     rw [if_neg c23] at h
     refine N_bd 42 (beq_eq_false_iff_ne.mpr c23) ?_
     exact T_nr 9 [4] [.bool false] hQ h
    rw [if_neg c19] at h
    refine N_bd 35 (eq_false_of_ne_true c19) ?_
    exact T_nr 16 [4] [.bool false] hQ h
   rw [if_neg c15] at h
   refine N_bd 26 (beq_eq_false_iff_ne.mpr c15) ?_
   exact T_nr 25 [4] [.bool false] hQ h
  rw [if_neg c11] at h
  refine N_bd 17 (beq_eq_false_iff_ne.mpr c11) ?_
  exact T_nr 34 [4] [.bool false] hQ h
 rw [if_neg c7] at h
 refine N_bd 10 (beq_eq_false_iff_ne.mpr c7) ?_
 exact T_nr 41 [4] [.bool false] hQ h
end datum_flat

/-! moraine/datum.own -/
namespace datum_own
def K0 := Func.code Tryz.f83
end datum_own
def datum_own.pt (dKind : Int) (dC : Int) (dNNeg : Bool) (dNMagB : Option Addr) (dNMagN : Nat) (dNMagC : Nat) (dT : ByteArray) (dLB : Option Addr) (dLN : Nat) (dLC : Nat) (H : Array Obj) (R : Value → Array Obj → Prop) : Prop :=
 ∀ (b : Nat) (H1 : Array Obj), b = H.size → H1 = H.push (.cells (DR dKind dC dNNeg dNMagB dNMagN dNMagC dT dLB dLN dLC).toArray 27) →
 ∀ (a : Nat) (H2 : Array Obj), a = H1.size → H2 = H1.push (.cells (DR 0 0 false none 0 0 (ByteArray.mk #[]) none 0 0).toArray 27) →
 ∃ x : Int, hat H2 (ad b) = some (.int .i64 x) ∧
 ∀ (d : Nat) (H3 : Array Obj), d = H2.size → H3 = H2.push (.cells (DR 0 0 false none 0 0 (ByteArray.mk #[]) none 0 0).toArray 27) →
 (CanPuts H3 (ad d) 0 6) ∧ ∀ H4, H4 = hputs H3 (ad d) (DR x 0 false none 0 0 (ByteArray.mk #[]) none 0 0) 0 →
 ∃ e : Int, hat H4 (ad b) = some (.int .i64 e) ∧
 if e = 3 then (
 ∃ c2 : Int, hat H4 ((ad b).add 1) = some (.int .i32 c2) ∧
 (CanPuts H4 ((ad d).add 1) 0 1) ∧ ∀ H5, H5 = hputs H4 ((ad d).add 1) [.int .i32 c2] 0 →
 ∃ a7 xC bb aq ap au xT c4 c3 c5, RowAt H5 (ad d) 0 (DR a7 xC bb aq ap au xT c4 c3 c5) ∧
 (CanPuts H5 (ad a) 0 6) ∧ ∀ H6, H6 = hputs H5 (ad a) (DR a7 xC bb aq ap au xT c4 c3 c5) 0 →
 ∃ dh rC dn c1 c0 cx rT ee ef ec, RowAt H6 (ad a) 0 (DR dh rC dn c1 c0 cx rT ee ef ec) ∧
 R (.agg (DR dh rC dn c1 c0 cx rT ee ef ec).toArray) H6)
 else
 if e = 4 then (
 ∃ (bt : Bool) (ax : Option Addr) (aw av : Nat), RowAt H4 ((ad b).add 2) 0 [.bool bt, .slice ax aw av] ∧
 (CanPuts H4 ((ad d).add 2) 0 2) ∧ ∀ H7, H7 = hputs H4 ((ad d).add 2) [.bool bt, .slice ax aw av] 0 →
 ∃ an ce ae p z k b7 bg bf ba, RowAt H7 (ad d) 0 (DR an ce ae p z k b7 bg bf ba) ∧
 (CanPuts H7 (ad a) 0 6) ∧ ∀ H8, H8 = hputs H7 (ad a) (DR an ce ae p z k b7 bg bf ba) 0 →
 ∃ cq d2 co bl b2 bk dw dj dc de, RowAt H8 (ad a) 0 (DR cq d2 co bl b2 bk dw dj dc de) ∧
 R (.agg (DR cq d2 co bl b2 bk dw dj dc de).toArray) H8)
 else
 if e = 5 then (
 ∃ cy : ByteArray, hat H4 ((ad b).add 4) = some (.string cy) ∧
 (CanPuts H4 ((ad d).add 4) 0 1) ∧ ∀ H9, H9 = hputs H4 ((ad d).add 4) [.string cy] 0 →
 ∃ ak cc aj o j i cg a5 a4 a6, RowAt H9 (ad d) 0 (DR ak cc aj o j i cg a5 a4 a6) ∧
 (CanPuts H9 (ad a) 0 6) ∧ ∀ d7, d7 = hputs H9 (ad a) (DR ak cc aj o j i cg a5 a4 a6) 0 →
 ∃ cu dy cr b4 bn bo dz c8 dd da, RowAt d7 (ad a) 0 (DR cu dy cr b4 bn bo dz c8 dd da) ∧
 R (.agg (DR cu dy cr b4 bn bo dz c8 dd da).toArray) d7)
 else
 if e = 6 then (
 ∃ cz : ByteArray, hat H4 ((ad b).add 4) = some (.string cz) ∧
 (CanPuts H4 ((ad d).add 4) 0 1) ∧ ∀ dt, dt = hputs H4 ((ad d).add 4) [.string cz] 0 →
 ∃ af cd ai s aa q b8 a9 be a0, RowAt dt (ad d) 0 (DR af cd ai s aa q b8 a9 be a0) ∧
 (CanPuts dt (ad a) 0 6) ∧ ∀ d8, d8 = hputs dt (ad a) (DR af cd ai s aa q b8 a9 be a0) 0 →
 ∃ cv d4 cl b3 bm bi d1 c7 dg dm, RowAt d8 (ad a) 0 (DR cv d4 cl b3 bm bi d1 c7 dg dm) ∧
 R (.agg (DR cv d4 cl b3 bm bi d1 c7 dg dm).toArray) d8)
 else
 if e = 7 then (
 ∃ (xB : Option Addr) (xN bq : Nat), hat H4 ((ad b).add 5) = some (.slice xB xN bq) ∧
 (CanPuts H4 ((ad d).add 5) 0 1) ∧ ∀ du, du = hputs H4 ((ad d).add 5) [.slice xB xN bq] 0 →
 ∃ ac ck al u g m cj bd a1 a2, RowAt du (ad d) 0 (DR ac ck al u g m cj bd a1 a2) ∧
 (CanPuts du (ad a) 0 6) ∧ ∀ ea, ea = hputs du (ad a) (DR ac ck al u g m cj bd a1 a2) 0 →
 ∃ cw d0 cp bs bz bp d5 c9 dp dl, RowAt ea (ad a) 0 (DR cw d0 cp bs bz bp d5 c9 dp dl) ∧
 R (.agg (DR cw d0 cp bs bz bp d5 c9 dp dl).toArray) ea)
 else
 if e = 8 then (
 ∃ (bu : Option Addr) (bj b6 : Nat), hat H4 ((ad b).add 5) = some (.slice bu bj b6) ∧
 (CanPuts H4 ((ad d).add 5) 0 1) ∧ ∀ dr, dr = hputs H4 ((ad d).add 5) [.slice bu bj b6] 0 →
 ∃ am b9 ag r t v cf bh bc az, RowAt dr (ad d) 0 (DR am b9 ag r t v cf bh bc az) ∧
 (CanPuts dr (ad a) 0 6) ∧ ∀ eb, eb = hputs dr (ad a) (DR am b9 ag r t v cf bh bc az) 0 →
 ∃ cn d3 ct bx br b0 dx df dq dk, RowAt eb (ad a) 0 (DR cn d3 ct bx br b0 dx df dq dk) ∧
 R (.agg (DR cn d3 ct bx br b0 dx df dq dk).toArray) eb)
 else
 ∃ ah ci ao ab f y ch a3 ay a8, RowAt H4 (ad d) 0 (DR ah ci ao ab f y ch a3 ay a8) ∧
 (CanPuts H4 (ad a) 0 6) ∧ ∀ d9, d9 = hputs H4 (ad a) (DR ah ci ao ab f y ch a3 ay a8) 0 →
 ∃ cs dv cm bw b1 b5 d6 di db c6, RowAt d9 (ad a) 0 (DR cs dv cm bw b1 b5 d6 di db c6) ∧
 R (.agg (DR cs dv cm bw b1 b5 d6 di db c6).toArray) d9
namespace datum_own
theorem link {dKind : Int} {dC : Int} {dNNeg : Bool} {dNMagB : Option Addr} {dNMagN : Nat} {dNMagC : Nat} {dT : ByteArray} {dLB : Option Addr} {dLN : Nat} {dLC : Nat} {H : Array Obj} {R : Value → Array Obj → Prop} (h : pt dKind dC dNNeg dNMagB dNMagN dNMagC dT dLB dLN dLC H R) : C dKind dC dNNeg dNMagB dNMagN dNMagC dT dLB dLN dLC H R := by
 refine T_en K0 32 Tryz.func83 ?_
 intro w0 Q hQ
 unfold pt at h
 refine T_su [(0, .agg (DR dKind dC dNNeg dNMagB dNMagN dNMagC dT dLB dLN dLC).toArray)] ?_
 refine T_srz 0 ?_
 refine T_nw (some 1) (fun b => vp (pa b)) (.cells (DR dKind dC dNNeg dNMagB dNMagN dNMagC dT dLB dLN dLC).toArray 27) ?_
 intro b H1 e1 e2
 replace h := h b H1 e1 e2
 refine ⟨[(1, vp (pa b))], pk, ?_⟩
 refine T_nw (some 2) (fun b => vp (pa b)) (.cells (DR 0 0 false none 0 0 (ByteArray.mk #[]) none 0 0).toArray 27) ?_
 intro a H2 e3 e4
 replace h := h a H2 e3 e4
 refine T_pd [] [(2, vp (pa a))] ?_
 refine T_e ?_
 refine T_srz 1 ?_
 refine T_nd 1 [] [(4, vp (pa b))] ?_
 obtain ⟨x, q5, h⟩ := h
 refine T_l1 5 3 q5 [4] ?_
 refine T_nd 1 [5] [(6, .agg (DR x 0 false none 0 0 (ByteArray.mk #[]) none 0 0).toArray)] ?_
 refine T_nw (some 3) (fun b => vp (pa b)) (.cells (DR 0 0 false none 0 0 (ByteArray.mk #[]) none 0 0).toArray 27) ?_
 intro d H3 e6 e7
 replace h := h d H3 e6 e7
 refine T_pd [] [(3, vp (pa d))] ?_
 obtain ⟨q9, h⟩ := h
 refine T_sta 27 (DR x 0 false none 0 0 (ByteArray.mk #[]) none 0 0) q9 ?_
 intro H4 e8
 replace h := h H4 e8
 refine T_pd [6] [] ?_
 refine T_e ?_
 refine T_sz ?_
 refine T_srz 2 ?_
 refine T_nd 1 [] [(7, vp (pa b))] ?_
 obtain ⟨e, q10, h⟩ := h
 refine T_l1 8 3 q10 [7] ?_
 refine T_e ?_
 refine T_bz 0 ?_
 refine T_srz 3 ?_
 refine T_ed 2 [] [(9, .bool (e == 3))] ?_
 by_cases c11 : e = 3
 ·rw [if_pos c11] at h
  refine T_cTz 9 (beq_iff_eq.mpr c11) ?_
  refine T_rz 4 ?_
  refine T_nd 1 [1, 8, 9] [(11, vp (some ((ad b).add 1)))] ?_
  obtain ⟨c2, q13, h⟩ := h
  refine T_l1 12 21 q13 [11] ?_
  refine T_nd 1 [] [(13, vp (some ((ad d).add 1)))] ?_
  obtain ⟨q15, h⟩ := h
  refine T_st1 21 (.int .i32 c2) q15 ?_
  intro H5 e14
  replace h := h H5 e14
  refine T_pd [12, 13] [] ?_
  refine N_end (by kernel_rfl) ?_
  refine S_blockEnd ?_
  refine S_then ?_
  refine T_srz 13 ?_
  obtain ⟨a7, xC, bb, aq, ap, au, xT, c4, c3, c5, q16, h⟩ := h
  refine T_lr 31 27 q16 [3] ?_
  obtain ⟨q18, h⟩ := h
  refine T_sta 27 (DR a7 xC bb aq ap au xT c4 c3 c5) q18 ?_
  intro H6 e17
  replace h := h H6 e17
  refine T_pd [31] [] ?_
  refine T_e ?_
  refine S_ret (by kernel_rfl) ?_
  show At _ _ _ _ _ (Q .ret)
  obtain ⟨dh, rC, dn, c1, c0, cx, rT, ee, ef, ec, q19, h⟩ := h
  exact S_done (fn := Tryz.f83) [.agg (DR dh rC dn c1 c0 cx rT ee ef ec).toArray] hQ (show ResOK _ _ _ [.cell 2 27] _ from .cell (by kernel_rfl) (loadOK_row (fun _=>by kernel_rfl) (fun _=>by kernel_rfl) q19) (.nil)) h
 rw [if_neg c11] at h
 refine T_cFz 9 (beq_eq_false_iff_ne.mpr c11) ?_
 refine T_srz 5 ?_
 refine T_ed 2 [9] [(14, .bool (e == 4))] ?_
 by_cases c20 : e = 4
 ·rw [if_pos c20] at h
  refine T_cTz 14 (beq_iff_eq.mpr c20) ?_
  refine T_rz 6 ?_
  refine T_nd 1 [1, 8, 14] [(16, vp (some ((ad b).add 2)))] ?_
  obtain ⟨bt, ax, aw, av, q22, h⟩ := h
  refine T_lr 17 24 q22 [16] ?_
  refine T_nd 1 [] [(18, vp (some ((ad d).add 2)))] ?_
  obtain ⟨q24, h⟩ := h
  refine T_sta 24 [.bool bt, vs ax aw av] q24 ?_
  intro H7 e23
  replace h := h H7 e23
  refine T_pd [17, 18] [] ?_
  refine N_end (by kernel_rfl) ?_
  refine S_blockEnd ?_
  refine S_then ?_
  refine T_srz 13 ?_
  obtain ⟨an, ce, ae, p, z, k, b7, bg, bf, ba, q25, h⟩ := h
  refine T_lr 31 27 q25 [3] ?_
  obtain ⟨q27, h⟩ := h
  refine T_sta 27 (DR an ce ae p z k b7 bg bf ba) q27 ?_
  intro H8 e26
  replace h := h H8 e26
  refine T_pd [31] [] ?_
  refine T_e ?_
  refine S_ret (by kernel_rfl) ?_
  show At _ _ _ _ _ (Q .ret)
  obtain ⟨cq, d2, co, bl, b2, bk, dw, dj, dc, de, q28, h⟩ := h
  exact S_done (fn := Tryz.f83) [.agg (DR cq d2 co bl b2 bk dw dj dc de).toArray] hQ (show ResOK _ _ _ [.cell 2 27] _ from .cell (by kernel_rfl) (loadOK_row (fun _=>by kernel_rfl) (fun _=>by kernel_rfl) q28) (.nil)) h
 rw [if_neg c20] at h
 refine T_cFz 14 (beq_eq_false_iff_ne.mpr c20) ?_
 refine T_sz ?_
 refine T_srz 7 ?_
 refine T_ed 2 [14] [(19, .bool (e == 5))] ?_
 by_cases c29 : e = 5
 ·rw [if_pos c29] at h
  refine S_bd 19 (beq_iff_eq.mpr c29) ?_
  refine T_tz 19 ?_
  refine T_kt ?_
  refine T_tz 19 ?_
  refine T_rz 9 ?_
  refine T_nd 1 [1, 8, 19] [(22, vp (some ((ad b).add 4)))] ?_
  obtain ⟨cy, q31, h⟩ := h
  refine T_l1 23 9 q31 [22] ?_
  refine T_nd 1 [] [(24, vp (some ((ad d).add 4)))] ?_
  obtain ⟨q33, h⟩ := h
  refine T_st1 9 (.string cy) q33 ?_
  intro H9 e32
  replace h := h H9 e32
  refine T_pd [23, 24] [] ?_
  refine N_end (by kernel_rfl) ?_
  refine S_blockEnd ?_
  refine S_then ?_
  refine T_srz 13 ?_
  obtain ⟨ak, cc, aj, o, j, i, cg, a5, a4, a6, q34, h⟩ := h
  refine T_lr 31 27 q34 [3] ?_
  obtain ⟨q36, h⟩ := h
  refine T_sta 27 (DR ak cc aj o j i cg a5 a4 a6) q36 ?_
  intro d7 e35
  replace h := h d7 e35
  refine T_pd [31] [] ?_
  refine T_e ?_
  refine S_ret (by kernel_rfl) ?_
  show At _ _ _ _ _ (Q .ret)
  obtain ⟨cu, dy, cr, b4, bn, bo, dz, c8, dd, da, q37, h⟩ := h
  exact S_done (fn := Tryz.f83) [.agg (DR cu dy cr b4 bn bo dz c8 dd da).toArray] hQ (show ResOK _ _ _ [.cell 2 27] _ from .cell (by kernel_rfl) (loadOK_row (fun _=>by kernel_rfl) (fun _=>by kernel_rfl) q37) (.nil)) h
 rw [if_neg c29] at h
 refine S_bd 19 (beq_eq_false_iff_ne.mpr c29) ?_
 refine T_fz 19 ?_
 refine T_rz 8 ?_
 refine T_ed 2 [19] [(19, .bool (e == 6))] ?_
 by_cases c38 : e = 6
 ·rw [if_pos c38] at h
  refine T_cTz 19 (beq_iff_eq.mpr c38) ?_
  refine T_rz 9 ?_
  refine T_nd 1 [1, 8, 19] [(22, vp (some ((ad b).add 4)))] ?_
  obtain ⟨cz, q40, h⟩ := h
  refine T_l1 23 9 q40 [22] ?_
  refine T_nd 1 [] [(24, vp (some ((ad d).add 4)))] ?_
  obtain ⟨q42, h⟩ := h
  refine T_st1 9 (.string cz) q42 ?_
  intro dt e41
  replace h := h dt e41
  refine T_pd [23, 24] [] ?_
  refine N_end (by kernel_rfl) ?_
  refine S_blockEnd ?_
  refine S_then ?_
  refine T_srz 13 ?_
  obtain ⟨af, cd, ai, s, aa, q, b8, a9, be, a0, q43, h⟩ := h
  refine T_lr 31 27 q43 [3] ?_
  obtain ⟨q45, h⟩ := h
  refine T_sta 27 (DR af cd ai s aa q b8 a9 be a0) q45 ?_
  intro d8 e44
  replace h := h d8 e44
  refine T_pd [31] [] ?_
  refine T_e ?_
  refine S_ret (by kernel_rfl) ?_
  show At _ _ _ _ _ (Q .ret)
  obtain ⟨cv, d4, cl, b3, bm, bi, d1, c7, dg, dm, q46, h⟩ := h
  exact S_done (fn := Tryz.f83) [.agg (DR cv d4 cl b3 bm bi d1 c7 dg dm).toArray] hQ (show ResOK _ _ _ [.cell 2 27] _ from .cell (by kernel_rfl) (loadOK_row (fun _=>by kernel_rfl) (fun _=>by kernel_rfl) q46) (.nil)) h
 rw [if_neg c38] at h
 refine T_cFz 19 (beq_eq_false_iff_ne.mpr c38) ?_
 refine T_sz ?_
 refine T_srz 10 ?_
 refine T_ed 2 [19] [(25, .bool (e == 7))] ?_
 by_cases c47 : e = 7
 ·rw [if_pos c47] at h
  refine S_bd 25 (beq_iff_eq.mpr c47) ?_
  refine T_tz 25 ?_
  refine T_kt ?_
  refine T_tz 25 ?_
  refine T_rz 12 ?_
  refine T_nd 1 [1, 8, 25] [(28, vp (some ((ad b).add 5)))] ?_
  obtain ⟨xB, xN, bq, q49, h⟩ := h
  refine T_l1 29 25 q49 [28] ?_
  refine T_nd 1 [] [(30, vp (some ((ad d).add 5)))] ?_
  obtain ⟨q51, h⟩ := h
  refine T_st1 25 (vs xB xN bq) q51 ?_
  intro du e50
  replace h := h du e50
  refine T_pd [29, 30] [] ?_
  refine N_end (by kernel_rfl) ?_
  refine S_blockEnd ?_
  refine S_then ?_
  refine T_srz 13 ?_
  obtain ⟨ac, ck, al, u, g, m, cj, bd, a1, a2, q52, h⟩ := h
  refine T_lr 31 27 q52 [3] ?_
  obtain ⟨q54, h⟩ := h
  refine T_sta 27 (DR ac ck al u g m cj bd a1 a2) q54 ?_
  intro ea e53
  replace h := h ea e53
  refine T_pd [31] [] ?_
  refine T_e ?_
  refine S_ret (by kernel_rfl) ?_
  show At _ _ _ _ _ (Q .ret)
  obtain ⟨cw, d0, cp, bs, bz, bp, d5, c9, dp, dl, q55, h⟩ := h
  exact S_done (fn := Tryz.f83) [.agg (DR cw d0 cp bs bz bp d5 c9 dp dl).toArray] hQ (show ResOK _ _ _ [.cell 2 27] _ from .cell (by kernel_rfl) (loadOK_row (fun _=>by kernel_rfl) (fun _=>by kernel_rfl) q55) (.nil)) h
 rw [if_neg c47] at h
 refine S_bd 25 (beq_eq_false_iff_ne.mpr c47) ?_
 refine T_fz 25 ?_
 refine T_rz 11 ?_
 refine T_ed 2 [8, 25] [(25, .bool (e == 8))] ?_
 by_cases c56 : e = 8
 ·rw [if_pos c56] at h
  refine T_cTz 25 (beq_iff_eq.mpr c56) ?_
  refine T_rz 12 ?_
  refine T_nd 1 [1, 25] [(28, vp (some ((ad b).add 5)))] ?_
  obtain ⟨bu, bj, b6, q58, h⟩ := h
  refine T_l1 29 25 q58 [28] ?_
  refine T_nd 1 [] [(30, vp (some ((ad d).add 5)))] ?_
  obtain ⟨q60, h⟩ := h
  refine T_st1 25 (vs bu bj b6) q60 ?_
  intro dr e59
  replace h := h dr e59
  refine T_pd [29, 30] [] ?_
  refine N_end (by kernel_rfl) ?_
  refine S_blockEnd ?_
  refine S_then ?_
  refine T_srz 13 ?_
  obtain ⟨am, b9, ag, r, t, v, cf, bh, bc, az, q61, h⟩ := h
  refine T_lr 31 27 q61 [3] ?_
  obtain ⟨q63, h⟩ := h
  refine T_sta 27 (DR am b9 ag r t v cf bh bc az) q63 ?_
  intro eb e62
  replace h := h eb e62
  refine T_pd [31] [] ?_
  refine T_e ?_
  refine S_ret (by kernel_rfl) ?_
  show At _ _ _ _ _ (Q .ret)
  obtain ⟨cn, d3, ct, bx, br, b0, dx, df, dq, dk, q64, h⟩ := h
  exact S_done (fn := Tryz.f83) [.agg (DR cn d3 ct bx br b0 dx df dq dk).toArray] hQ (show ResOK _ _ _ [.cell 2 27] _ from .cell (by kernel_rfl) (loadOK_row (fun _=>by kernel_rfl) (fun _=>by kernel_rfl) q64) (.nil)) h
 rw [if_neg c56] at h
 refine T_cFz 25 (beq_eq_false_iff_ne.mpr c56) ?_
 refine T_k ?_
 refine S_blockEnd ?_
 refine S_then ?_
 refine T_srz 13 ?_
 refine T_ud [1, 25] [] ?_
 obtain ⟨ah, ci, ao, ab, f, y, ch, a3, ay, a8, q65, h⟩ := h
 refine T_lr 31 27 q65 [3] ?_
 obtain ⟨q67, h⟩ := h
 refine T_sta 27 (DR ah ci ao ab f y ch a3 ay a8) q67 ?_
 intro d9 e66
 replace h := h d9 e66
 refine T_pd [31] [] ?_
 refine T_e ?_
 refine S_ret (by kernel_rfl) ?_
 show At _ _ _ _ _ (Q .ret)
 obtain ⟨cs, dv, cm, bw, b1, b5, d6, di, db, c6, q68, h⟩ := h
 exact S_done (fn := Tryz.f83) [.agg (DR cs dv cm bw b1 b5 d6 di db c6).toArray] hQ (show ResOK _ _ _ [.cell 2 27] _ from .cell (by kernel_rfl) (loadOK_row (fun _=>by kernel_rfl) (fun _=>by kernel_rfl) q68) (.nil)) h
end datum_own

/-! moraine/datum.text -/
namespace datum_text
def K0 := Func.code Tryz.f86
end datum_text
def datum_text.pt (s : ByteArray) (least : Int) (H : Array Obj) (R : Value → Array Obj → Prop) : Prop :=
 unicode_utf8_RuneCountInString.C s H (fun v H1 => ∃ x : Int, v = .int .i64 x ∧ 
 unicode_utf8_ValidString.C s H1 (fun b H2 => ∃ a : Bool, b = .bool a ∧ 
 R (.bool ((a && (decide (x ≥ least))) && (decide (x ≤ 62)))) H2))
namespace datum_text
theorem link {s : ByteArray} {least : Int} {H : Array Obj} {R : Value → Array Obj → Prop} (h : pt s least H R) : C s least H R := by
 refine T_en K0 19 Tryz.func86 ?_
 intro w0 Q hQ
 unfold pt at h
 refine T_su [(0, .string s), (1, vi least)] ?_
 refine T_srz 0 ?_
 refine T_ed 1 [] [] ?_
 refine T_srz 1 ?_
 refine T_nd 1 [] [(6, .string s)] ?_
 refine T_c (some 7) h ?_; clear h
 rintro v H1 ⟨x, rfl, h⟩
 refine T_pd [6] [(7, vi x)] ?_
 refine T_ed 1 [7] [(5, vi x)] ?_
 refine T_srz 2 ?_
 refine T_nd 1 [0] [(8, .string s)] ?_
 refine T_c (some 9) h ?_; clear h
 rintro b H2 ⟨a, rfl, h⟩
 refine T_pd [8] [(9, .bool a)] ?_
 refine T_nd 1 [9] [(10, .bool a)] ?_
 refine N_cut [(4, .bool ((a && (decide (x ≥ least))) && (decide (x ≤ 62))))] ?_ ?_
 ·refine S_then ?_
  exact T_ret [4] [.bool ((a && (decide (x ≥ least))) && (decide (x ≤ 62)))] hQ h
 intro hk
 refine T_nu [(1, vi least), (5, vi x), (10, .bool a)] ?_
 by_cases c1 : a = true
 ·have b2 : a = true := c1
  refine N_env [(1, vi least), (5, vi x), (10, .bool true)] (by simp only [b2, Bool.not_true, Bool.not_false]) ?_
  refine T_nd 5 [1, 10] [(15, .bool (decide (x ≥ least)))] ?_
  by_cases c3 : x ≥ least
  ·have b4 : (decide (x ≥ least)) = true := decide_eq_true c3
   refine N_bd 15 b4 ?_
   refine T_n 4 [(4, .bool (decide (x ≤ 62)))] ?_
   refine N_end (by kernel_rfl) ?_
   refine S_env [(4, .bool ((a && (decide (x ≥ least))) && (decide (x ≤ 62))))] (by simp only [b2, b4, BL]) ?_
   exact hk
  have b4 : (decide (x ≥ least)) = false := decide_eq_false c3
  refine N_bd 15 b4 ?_
  refine T_n 4 [(4, .bool false)] ?_
  refine N_end (by kernel_rfl) ?_
  refine S_env [(4, .bool ((a && (decide (x ≥ least))) && (decide (x ≤ 62))))] (by simp only [b2, b4, BL]) ?_
  exact hk
 have b2 : a = false := eq_false_of_ne_true c1
 refine N_env [(1, vi least), (5, vi x), (10, .bool false)] (by simp only [b2, Bool.not_true, Bool.not_false]) ?_
 refine T_n 9 [(4, .bool false)] ?_
 refine N_end (by kernel_rfl) ?_
 refine S_env [(4, .bool ((a && (decide (x ≥ least))) && (decide (x ≤ 62))))] (by simp only [b2, BL]) ?_
 exact hk
end datum_text

/-! moraine/datum.plain.1 -/
namespace datum_plain_1
def K0 := Func.code Tryz.f88
end datum_plain_1
def datum_plain_1.pt (xKind : Int) (xC : Int) (xNNeg : Bool) (xNMagB : Option Addr) (xNMagN : Nat) (xNMagC : Nat) (xT : ByteArray) (xLB : Option Addr) (xLN : Nat) (xLC : Nat) (H : Array Obj) (R : Value → Array Obj → Prop) : Prop :=
 ∀ (b : Nat) (H1 : Array Obj), b = H.size → H1 = H.push (.cells (DR xKind xC xNNeg xNMagB xNMagN xNMagC xT xLB xLN xLC).toArray 27) →
 ∃ f o g d a e m j k i, RowAt H1 (ad b) 0 (DR f o g d a e m j k i) ∧
 datum_plain.C f o g d a e m j k i H1 (fun v H2 => ∃ x : Bool, v = .bool x ∧ 
 R (.bool (!x)) H2)
namespace datum_plain_1
theorem link {xKind : Int} {xC : Int} {xNNeg : Bool} {xNMagB : Option Addr} {xNMagN : Nat} {xNMagC : Nat} {xT : ByteArray} {xLB : Option Addr} {xLN : Nat} {xLC : Nat} {H : Array Obj} {R : Value → Array Obj → Prop} (h : pt xKind xC xNNeg xNMagB xNMagN xNMagC xT xLB xLN xLC H R) : C xKind xC xNNeg xNMagB xNMagN xNMagC xT xLB xLN xLC H R := by
 refine T_en K0 6 Tryz.func88 ?_
 intro w0 Q hQ
 unfold pt at h
 refine T_su [(0, .agg (DR xKind xC xNNeg xNMagB xNMagN xNMagC xT xLB xLN xLC).toArray)] ?_
 refine T_srz 0 ?_
 refine T_nw (some 1) (fun b => vp (pa b)) (.cells (DR xKind xC xNNeg xNMagB xNMagN xNMagC xT xLB xLN xLC).toArray 27) ?_
 intro b H1 e1 e2
 replace h := h b H1 e1 e2
 refine ⟨[(1, vp (pa b))], pk, ?_⟩
 refine T_ed 1 [] [] ?_
 refine T_srz 1 ?_
 obtain ⟨f, o, g, d, a, e, m, j, k, i, q3, h⟩ := h
 refine T_lr 3 27 q3 [1] ?_
 refine T_c (some 4) h ?_; clear h
 rintro v H2 ⟨x, rfl, h⟩
 refine ⟨[(4, .bool x)], pk, ?_⟩
 exact T_nr 2 [2] [.bool (!x)] hQ h
end datum_plain_1

end Go.Proofs.YtdgejifkcfgliaaGreatDoor
