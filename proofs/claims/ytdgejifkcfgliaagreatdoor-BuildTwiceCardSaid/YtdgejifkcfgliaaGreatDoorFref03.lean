/- Printed: what each function asks, and that it is sound. -/
import Derived.Test.YtdgejifkcfgliaaGreatDoorFnsC
set_option linter.unusedSimpArgs false
set_option linter.unusedVariables false
set_option maxRecDepth 100000
set_option maxHeartbeats 1000000
noncomputable section
namespace Go.Proofs.YtdgejifkcfgliaaGreatDoor
open Go
/-! moraine/moraineref03.May -/
namespace moraineref03_May
def K0 := Func.code Tryz.f7
end moraineref03_May
def moraineref03_May.pt (dKind : Int) (dC : Int) (dNNeg : Bool) (dNMagB : Option Addr) (dNMagN : Nat) (dNMagC : Nat) (dT : ByteArray) (dLB : Option Addr) (dLN : Nat) (dLC : Nat) (H : Array Obj) (R : Value → Array Obj → Prop) : Prop :=
 ∀ (b : Nat) (H1 : Array Obj), b = H.size → H1 = H.push (.cells (DR dKind dC dNNeg dNMagB dNMagN dNMagC dT dLB dLN dLC).toArray 27) →
 ∃ m xC r k j i xT y u aa, RowAt H1 (ad b) 0 (DR m xC r k j i xT y u aa) ∧
 moraineref03_plain.C m xC r k j i xT y u aa H1 (fun v H2 => ∃ x : Bool, v = .bool x ∧ 
 if x = true then (
 ∃ g t f a d e s q o p, RowAt H2 (ad b) 0 (DR g t f a d e s q o p) ∧
 moraineref03_Depth.C g t f a d e s q o p H2 (fun ab H3 => ∃ z : Int, ab = .int .i64 z ∧ 
 R (.bool (decide (z ≤ 64))) H3))
 else
 R (.bool false) H2)
namespace moraineref03_May
theorem link {dKind : Int} {dC : Int} {dNNeg : Bool} {dNMagB : Option Addr} {dNMagN : Nat} {dNMagC : Nat} {dT : ByteArray} {dLB : Option Addr} {dLN : Nat} {dLC : Nat} {H : Array Obj} {R : Value → Array Obj → Prop} (h : pt dKind dC dNNeg dNMagB dNMagN dNMagC dT dLB dLN dLC H R) : C dKind dC dNNeg dNMagB dNMagN dNMagC dT dLB dLN dLC H R := by
 refine T_en K0 10 Tryz.func7 ?_
 intro w0 Q hQ
 unfold pt at h
 refine T_su [(0, .agg (DR dKind dC dNNeg dNMagB dNMagN dNMagC dT dLB dLN dLC).toArray)] ?_
 refine T_srz 0 ?_
 refine T_nw (some 1) (fun b => vp (pa b)) (.cells (DR dKind dC dNNeg dNMagB dNMagN dNMagC dT dLB dLN dLC).toArray 27) ?_
 intro b H1 e1 e2
 replace h := h b H1 e1 e2
 refine ⟨[(1, vp (pa b))], pk, ?_⟩
 refine T_ed 1 [] [] ?_
 refine T_srz 1 ?_
 obtain ⟨m, xC, r, k, j, i, xT, y, u, aa, q3, h⟩ := h
 refine T_lr 3 27 q3 [] ?_
 refine T_c (some 4) h ?_; clear h
 rintro v H2 ⟨x, rfl, h⟩
 refine T_pd [3] [(4, .bool x)] ?_
 refine T_nd 1 [4] [(5, .bool x)] ?_
 by_cases c4 : x = true
 ·rw [if_pos c4] at h
  refine N_bd 5 c4 ?_
  obtain ⟨g, t, f, a, d, e, s, q, o, p, q6, h⟩ := h
  refine T_lr 6 27 q6 [1] ?_
  refine T_c (some 7) h ?_; clear h
  rintro ab H3 ⟨z, rfl, h⟩
  refine T_pd [6] [(7, vi z)] ?_
  exact T_nr 3 [2] [.bool (decide (z ≤ 64))] hQ h
 rw [if_neg c4] at h
 refine N_bd 5 (eq_false_of_ne_true c4) ?_
 exact T_nr 5 [2] [.bool false] hQ h
end moraineref03_May

/-! moraine/moraineref03.Same -/
namespace moraineref03_Same
def K0 := Func.code Tryz.f13
def K2 := cb K0
def K4 := cb K2
def K9 := ca K4
def K12 := cb K9
def K13 := ca K12
def K14 := ca K13
def K16 := cb K14
def K21 := ca K16
def K23 := ca K21
def K24 := ca K23
end moraineref03_Same
def moraineref03_Same.pt (aKind : Int) (aC : Int) (aNNeg : Bool) (aNMagB : Option Addr) (aNMagN : Nat) (aNMagC : Nat) (aT : ByteArray) (aLB : Option Addr) (aLN : Nat) (aLC : Nat) (bKind : Int) (bC : Int) (bNNeg : Bool) (bNMagB : Option Addr) (bNMagN : Nat) (bNMagC : Nat) (bT : ByteArray) (bLB : Option Addr) (bLN : Nat) (bLC : Nat) (H : Array Obj) (R : Value → Array Obj → Prop) : Prop :=
 ∀ (b : Nat) (H1 : Array Obj), b = H.size → H1 = H.push (.cells (DR aKind aC aNNeg aNMagB aNMagN aNMagC aT aLB aLN aLC).toArray 27) →
 ∀ (d : Nat) (H2 : Array Obj), d = H1.size → H2 = H1.push (.cells (DR bKind bC bNNeg bNMagB bNMagN bNMagC bT bLB bLN bLC).toArray 27) →
 ∃ x : Int, hat H2 (ad b) = some (.int .i64 x) ∧
 ∃ a6 : Int, hat H2 (ad d) = some (.int .i64 a6) ∧
 if x = a6 then (
 ∃ ax : Int, hat H2 ((ad b).add 1) = some (.int .i32 ax) ∧
 ∃ a5 : Int, hat H2 ((ad d).add 1) = some (.int .i32 a5) ∧
 if ax = a5 then (
 ∃ (az : Bool) (af : Option Addr) (ag ae : Nat), RowAt H2 ((ad b).add 2) 0 [.bool az, .slice af ag ae] ∧
 ∃ (ah : Bool) (aa : Option Addr) (ac ab : Nat), RowAt H2 ((ad d).add 2) 0 [.bool ah, .slice aa ac ab] ∧
 moraineref02_Same.C az af ag ae ah aa ac ab H2 (fun v H3 => ∃ a1 : Bool, v = .bool a1 ∧ 
 if a1 = true then (
 ∃ ay : ByteArray, hat H3 ((ad b).add 4) = some (.string ay) ∧
 ∃ a4 : ByteArray, hat H3 ((ad d).add 4) = some (.string a4) ∧
 if ay.toList = a4.toList then (
 ∃ (xB : Option Addr) (xN xC : Nat), hat H3 ((ad b).add 5) = some (.slice xB xN xC) ∧
 ∃ (a9 : Option Addr) (ak a8 : Nat), hat H3 ((ad d).add 5) = some (.slice a9 ak a8) ∧
 if (xN : Int) = (ak : Int) then (
 ∃ (bb : Int → Array Obj → Prop) (m15 : Int → Array Obj → Nat), bb 0 H3 ∧ ∀ (i : Int) (H4 : Array Obj), bb i H4 →
 ∃ (a7 : Option Addr) (an ba : Nat), hat H4 ((ad b).add 5) = some (.slice a7 an ba) ∧
 if i < (an : Int) then (
 ∃ (bc : Option Addr) (aj aw : Nat), hat H4 ((ad b).add 5) = some (.slice bc aj aw) ∧
 ∃ r : Addr, bc = some r ∧
 ((0 : Int) ≤ i ∧ i < (aj : Int)) ∧
 ∃ j z m g f e xT au aq av, RowAt H4 (r.add (Int.toNat i * 6)) 0 (DR j z m g f e xT au aq av) ∧
 ∃ (bd : Option Addr) (al a0 : Nat), hat H4 ((ad d).add 5) = some (.slice bd al a0) ∧
 ∃ y : Addr, bd = some y ∧
 ((0 : Int) ≤ i ∧ i < (al : Int)) ∧
 ∃ u a3 s p q o a2 ao am ap, RowAt H4 (y.add (Int.toNat i * 6)) 0 (DR u a3 s p q o a2 ao am ap) ∧
 moraineref03_Same.C j z m g f e xT au aq av u a3 s p q o a2 ao am ap H4 (fun be H5 => ∃ ai : Bool, be = .bool ai ∧ 
 if ai = true then (
 (bb (IntKind.wrap .i64 (i + 1)) H5 ∧ m15 (IntKind.wrap .i64 (i + 1)) H5 < m15 i H4))
 else
 R (.bool false) H5))
 else
 R (.bool true) H4)
 else
 R (.bool false) H3)
 else
 R (.bool false) H3)
 else
 R (.bool false) H3))
 else
 R (.bool false) H2)
 else
 R (.bool false) H2
namespace moraineref03_Same
theorem link {aKind : Int} {aC : Int} {aNNeg : Bool} {aNMagB : Option Addr} {aNMagN : Nat} {aNMagC : Nat} {aT : ByteArray} {aLB : Option Addr} {aLN : Nat} {aLC : Nat} {bKind : Int} {bC : Int} {bNNeg : Bool} {bNMagB : Option Addr} {bNMagN : Nat} {bNMagC : Nat} {bT : ByteArray} {bLB : Option Addr} {bLN : Nat} {bLC : Nat} {H : Array Obj} {R : Value → Array Obj → Prop} (h : pt aKind aC aNNeg aNMagB aNMagN aNMagC aT aLB aLN aLC bKind bC bNNeg bNMagB bNMagN bNMagC bT bLB bLN bLC H R) : C aKind aC aNNeg aNMagB aNMagN aNMagC aT aLB aLN aLC bKind bC bNNeg bNMagB bNMagN bNMagC bT bLB bLN bLC H R := by
 refine T_en K0 61 Tryz.func13 ?_
 intro w0 Q hQ
 unfold pt at h
 refine T_su [(0, .agg (DR aKind aC aNNeg aNMagB aNMagN aNMagC aT aLB aLN aLC).toArray), (1, .agg (DR bKind bC bNNeg bNMagB bNMagN bNMagC bT bLB bLN bLC).toArray)] ?_
 refine T_srz 0 ?_
 refine T_nw (some 2) (fun b => vp (pa b)) (.cells (DR aKind aC aNNeg aNMagB aNMagN aNMagC aT aLB aLN aLC).toArray 27) ?_
 intro b H1 e1 e2
 replace h := h b H1 e1 e2
 refine T_pd [0] [(2, vp (pa b))] ?_
 refine T_nw (some 3) (fun b => vp (pa b)) (.cells (DR bKind bC bNNeg bNMagB bNMagN bNMagC bT bLB bLN bLC).toArray 27) ?_
 intro d H2 e3 e4
 replace h := h d H2 e3 e4
 refine T_pd [1] [(3, vp (pa d))] ?_
 refine T_ed 1 [] [] ?_
 refine T_sz ?_
 refine T_srz 1 ?_
 refine T_nd 1 [] [(6, vp (pa b))] ?_
 obtain ⟨x, q5, h⟩ := h
 refine T_l1 7 3 q5 [6] ?_
 refine T_nd 1 [] [(8, vp (pa d))] ?_
 obtain ⟨a6, q6, h⟩ := h
 refine T_l1 9 3 q6 [8] ?_
 refine T_nd 2 [7, 9] [(11, .bool (x != a6))] ?_
 by_cases c7 : x = a6
 ·rw [if_pos c7] at h
  refine N_bd 11 (bne_eq_false_iff_eq.mpr c7) ?_
  refine T_nd 1 [] [(12, vp (some ((ad b).add 1)))] ?_
  obtain ⟨ax, q9, h⟩ := h
  refine T_l1 13 21 q9 [12] ?_
  refine T_nd 1 [] [(14, vp (some ((ad d).add 1)))] ?_
  obtain ⟨a5, q10, h⟩ := h
  refine T_l1 15 21 q10 [14] ?_
  refine T_nd 3 [11, 13, 15] [(18, .bool (ax != a5))] ?_
  by_cases c11 : ax = a5
  ·rw [if_pos c11] at h
   refine N_bd 18 (bne_eq_false_iff_eq.mpr c11) ?_
   refine T_nd 1 [] [(19, vp (some ((ad b).add 2)))] ?_
   obtain ⟨az, af, ag, ae, q13, h⟩ := h
   refine T_lr 20 24 q13 [19] ?_
   refine T_nd 1 [] [(21, vp (some ((ad d).add 2)))] ?_
   obtain ⟨ah, aa, ac, ab, q14, h⟩ := h
   refine T_lr 22 24 q14 [21] ?_
   refine T_c (some 23) h ?_; clear h
   rintro v H3 ⟨a1, rfl, h⟩
   refine T_pd [20, 22] [(23, .bool a1)] ?_
   refine T_nd 3 [18, 23] [(26, .bool (!a1))] ?_
   by_cases c15 : a1 = true
   ·rw [if_pos c15] at h
    have b16 : (!a1) = false := congrArg Bool.not (c15)
    have b162 : a1 = true := c15
    refine N_bd 26 (b := (!a1)) (v := false) (by simp only [b16, b162, Bool.not_true, Bool.not_false]) ?_
    clear b16 b162
    refine T_nd 1 [] [(27, vp (some ((ad b).add 4)))] ?_
    obtain ⟨ay, q17, h⟩ := h
    refine T_l1 28 9 q17 [27] ?_
    refine T_nd 1 [] [(29, vp (some ((ad d).add 4)))] ?_
    obtain ⟨a4, q18, h⟩ := h
    refine T_l1 30 9 q18 [29] ?_
    refine T_nd 3 [26, 28, 30] [(33, .bool (!(ay.toList == a4.toList)))] ?_
    by_cases c19 : ay.toList = a4.toList
    ·rw [if_pos c19] at h
     refine N_bd 33 (congrArg Bool.not (beq_iff_eq.mpr c19)) ?_
     refine T_nd 1 [] [(34, vp (some ((ad b).add 5)))] ?_
     obtain ⟨xB, xN, xC, q21, h⟩ := h
     refine T_l1 35 25 q21 [34] ?_
     refine T_nd 2 [35] [(36, vi xN), (37, vp (some ((ad d).add 5)))] ?_
     obtain ⟨a9, ak, a8, q22, h⟩ := h
     refine T_l1 38 25 q22 [37] ?_
     refine T_ed 3 [33, 36, 38] [(41, .bool ((xN : Int) != (ak : Int)))] ?_
     by_cases c23 : (xN : Int) = (ak : Int)
     ·rw [if_pos c23] at h
      refine T_cFz 41 (bne_eq_false_iff_eq.mpr c23) ?_
      refine T_kt ?_
      refine T_sz ?_
      refine T_srz 3 ?_
      refine T_ed 1 [41] [(5, vi 0)] ?_
      refine T_bz 0 ?_
      obtain ⟨bb, m15, i25, i26⟩ := h
      refine S_loop (x := K14) (σ := Int) (fun s_ => [(2, vp (pa b)), (3, vp (pa d)), (5, vi s_)]) (fun s_ H => bb s_ H) (fun s_ H => m15 s_ H) (0 : Int) (by kernel_rfl) i25 sk ?_
      rintro i H4 i27
      have h := i26 i H4 i27
      refine T_su [(2, vp (pa b)), (3, vp (pa d)), (5, vi i)] ?_
      refine T_sz ?_
      refine T_srz 4 ?_
      refine T_nd 2 [] [(42, vi i), (43, vp (some ((ad b).add 5)))] ?_
      obtain ⟨a7, an, ba, q28, h⟩ := h
      refine T_l1 44 25 q28 [43] ?_
      refine T_ed 2 [42, 44] [(46, .bool (decide (i < (an : Int))))] ?_
      by_cases c29 : i < (an : Int)
      ·rw [if_pos c29] at h
       refine T_cTz 46 (decide_eq_true c29) ?_
       refine T_kt ?_
       refine T_sz ?_
       refine T_bz 1 ?_
       refine T_sz ?_
       obtain ⟨bc, aj, aw, q31, h⟩ := h
       obtain ⟨r, rfl, h⟩ := h
       obtain ⟨q32, h⟩ := h
       obtain ⟨j, z, m, g, f, e, xT, au, aq, av, q33, h⟩ := h
       obtain ⟨bd, al, a0, q34, h⟩ := h
       obtain ⟨y, rfl, h⟩ := h
       obtain ⟨q35, h⟩ := h
       obtain ⟨u, a3, s, p, q, o, a2, ao, am, ap, q36, h⟩ := h
       refine S_regionG 6 (Code.ops K24) [(10, ((ad b).add 5), [vs (some r) aj aw]), (10, (r.add (Int.toNat i * 6)), (DR j z m g f e xT au aq av)), (10, ((ad d).add 5), [vs (some y) al a0]), (10, (y.add (Int.toNat i * 6)), (DR u a3 s p q o a2 ao am ap))] 12 (bv 12 0) (by kernel_rfl) (by kernel_rfl) (by kernel_rfl) (by kernel_rfl) (by kernel_rfl) (show FactsAt _ _ _ from ⟨⟨q31, trivial⟩, q33, ⟨q34, trivial⟩, q36, trivial⟩) ?_
       refine T_gp 0 (some 49) (vp (some ((ad b).add 5))) (bv 12 1) [(2, vp (pa b)), (3, vp (pa d)), (5, vi i), (49, vp (some ((ad b).add 5)))] ?_
       refine T_g1 1 50 (vs (some r) aj aw) (bv 12 3) [49] (loadN 25 (vp (some ((ad b).add 5)))) (held_one 10 (fun _=>by kernel_rfl) (List.Mem.head _) (.inl (by kernel_rfl))) ?_
       refine T_gp1 2 51 (vi i) (bv 12 7) [] ?_
       refine T_g1 3 52 (vp (some (r.add (Int.toNat i * 6)))) (bv 12 15) [50, 51] (indexAtN 25 (vs (some r) aj aw) (vi i)) (fun _ w _ _ _ => indexAt_run (P := Tryz.prog) (t := 25) (elem := 27) (sz := 6) (a := r) (len := aj) (cap := aw) (k := .i64) (i := i) Tryz.underlying25 (fun _=>by kernel_rfl) q32.1 q32.2 w) ?_
       refine T_g1 4 53 (.agg (DR j z m g f e xT au aq av).toArray) (bv 12 31) [52] (loadN 27 (vp (some (r.add (Int.toNat i * 6))))) (held_row 10 (fun _=>by kernel_rfl) (fun _=>by kernel_rfl) (List.Mem.tail _ (List.Mem.head _)) (.inl (by kernel_rfl))) ?_
       refine T_gp1 5 54 (vp (some ((ad d).add 5))) (bv 12 63) [] ?_
       refine T_g1 6 55 (vs (some y) al a0) (bv 12 127) [54] (loadN 25 (vp (some ((ad d).add 5)))) (held_one 10 (fun _=>by kernel_rfl) (List.Mem.tail _ (List.Mem.tail _ (List.Mem.head _))) (.inl (by kernel_rfl))) ?_
       refine T_gp1 7 56 (vi i) (bv 12 255) [] ?_
       refine T_g1 8 57 (vp (some (y.add (Int.toNat i * 6)))) (bv 12 511) [55, 56] (indexAtN 25 (vs (some y) al a0) (vi i)) (fun _ w _ _ _ => indexAt_run (P := Tryz.prog) (t := 25) (elem := 27) (sz := 6) (a := y) (len := al) (cap := a0) (k := .i64) (i := i) Tryz.underlying25 (fun _=>by kernel_rfl) q35.1 q35.2 w) ?_
       refine T_g1 9 58 (.agg (DR u a3 s p q o a2 ao am ap).toArray) (bv 12 1023) [57] (loadN 27 (vp (some (y.add (Int.toNat i * 6))))) (held_row 10 (fun _=>by kernel_rfl) (fun _=>by kernel_rfl) (List.Mem.tail _ (List.Mem.tail _ (List.Mem.tail _ (List.Mem.head _)))) (.inl (by kernel_rfl))) ?_
       refine G_call 10 (some 59) (bv 12 2047) 13 #[.agg (DR j z m g f e xT au aq av).toArray, .agg (DR u a3 s p q o a2 ao am ap).toArray] (by kernel_rfl) (fun _=>by kernel_rfl) h (by kernel_rfl) ?_; clear h
       rintro be H5 ⟨ai, rfl, h⟩
       refine ⟨[(2, vp (pa b)), (3, vp (pa d)), (5, vi i), (59, .bool ai)], pk, (show FactsAt _ _ _ from ⟨trivial, trivial, trivial, trivial, trivial⟩), ?_⟩
       refine T_g 11 (some 60) (.bool (!ai)) (bv 12 4095) [(2, vp (pa b)), (3, vp (pa d)), (5, vi i), (60, .bool (!ai))] (pure (.value (.bool (!ai))) : Sem Next) (fun _ _ _ _ _ => rfl) ?_
       refine G_sub [(2, vp (pa b)), (3, vp (pa d)), (5, vi i), (60, .bool (!ai))] sk ?_
       refine G_end (by kernel_rfl) ?_
       refine S_then ?_
       by_cases c37 : ai = true
       ·rw [if_pos c37] at h
        refine T_cFz 60 (congrArg Bool.not (c37)) ?_
        refine T_k ?_
        refine S_blockEnd ?_
        refine S_then ?_
        refine T_rz 5 ?_
        refine T_ne 3 [(2, vp (pa b)), (3, vp (pa d)), (5, vi (IntKind.wrap .i64 (i + 1)))] ?_
        exact S_round ((IntKind.wrap .i64 (i + 1)) : Int) sk h
       rw [if_neg c37] at h
       refine T_cTz 60 (congrArg Bool.not (eq_false_of_ne_true c37)) ?_
       refine T_srz 7 ?_
       exact T_nr 1 [4] [.bool false] hQ h
      rw [if_neg c29] at h
      refine T_cFz 46 (decide_eq_false c29) ?_
      refine S_exit 0 (by kernel_rfl) ?_
      refine S_exitThen ?_
      refine S_exitThen ?_
      refine S_exitHere ?_
      refine S_then ?_
      refine T_srz 8 ?_
      exact T_nr 1 [4] [.bool true] hQ h
     rw [if_neg c23] at h
     refine T_cTz 41 (bne_iff_ne.mpr c23) ?_
     refine T_srz 2 ?_
     exact T_nr 1 [4] [.bool false] hQ h
    rw [if_neg c19] at h
    refine N_bd 33 (congrArg Bool.not (beq_eq_false_iff_ne.mpr c19)) ?_
    refine T_ed 8 [33] [(41, .bool true)] ?_
    refine T_tz 41 ?_
    refine T_srz 2 ?_
    exact T_nr 1 [4] [.bool false] hQ h
   rw [if_neg c15] at h
   have b16 : (!a1) = true := congrArg Bool.not (eq_false_of_ne_true c15)
   have b162 : a1 = false := eq_false_of_ne_true c15
   refine N_bd 26 (b := (!a1)) (v := true) (by simp only [b16, b162, Bool.not_true, Bool.not_false]) ?_
   clear b16 b162
   refine T_ed 15 [26] [(41, .bool true)] ?_
   refine T_tz 41 ?_
   refine T_srz 2 ?_
   exact T_nr 1 [4] [.bool false] hQ h
  rw [if_neg c11] at h
  refine N_bd 18 (bne_iff_ne.mpr c11) ?_
  refine T_ed 23 [18] [(41, .bool true)] ?_
  refine T_tz 41 ?_
  refine T_srz 2 ?_
  exact T_nr 1 [4] [.bool false] hQ h
 rw [if_neg c7] at h
 refine N_bd 11 (bne_iff_ne.mpr c7) ?_
 refine T_ed 30 [11] [(41, .bool true)] ?_
 refine T_tz 41 ?_
 refine T_srz 2 ?_
 exact T_nr 1 [4] [.bool false] hQ h
end moraineref03_Same

/-! moraine/moraineref03.plain -/
namespace moraineref03_plain
def K0 := Func.code Tryz.f20
def K2 := cb K0
def K3 := ca K2
def K6 := cb K3
def K7 := ca K6
def K9 := cb K7
def K15 := cb K9
def K19 := cb K15
def K21 := cb K19
def K25 := cb K21
def K27 := cb K25
def K31 := cb K27
def K37 := cb K31
def K43 := cb K37
def K48 := ca K43
def K51 := cb K48
def K58 := ca K51
def K61 := cb K58
def K62 := ca K61
def K63 := ca K62
end moraineref03_plain
def moraineref03_plain.pt (dKind : Int) (dC : Int) (dNNeg : Bool) (dNMagB : Option Addr) (dNMagN : Nat) (dNMagC : Nat) (dT : ByteArray) (dLB : Option Addr) (dLN : Nat) (dLC : Nat) (H : Array Obj) (R : Value → Array Obj → Prop) : Prop :=
 ∀ (b : Nat) (H1 : Array Obj), b = H.size → H1 = H.push (.cells (DR dKind dC dNNeg dNMagB dNMagN dNMagC dT dLB dLN dLC).toArray 27) →
 ∃ x : Int, hat H1 (ad b) = some (.int .i64 x) ∧
 ∃ J : Bool → Array Obj → Prop, (
 if x = 0 then (
 J true H1)
 else
 if x = 1 then (
 J true H1)
 else
 if x = 2 then (
 J true H1)
 else
 if x = 9 then (
 J true H1)
 else
 J (x == 10) H1) ∧ ∀ (s8 : Bool) (H2 : Array Obj), J s8 H2 →
 if s8 = true then (
 ∃ bc xC bf aw av ax xT cl ck co, RowAt H2 (ad b) 0 (DR bc xC bf aw av ax xT cl ck co) ∧
 moraineref03_bare.C bc xC bf aw av ax xT cl ck co 0 H2 (fun v H3 => ∃ ci : Bool, v = .bool ci ∧ 
 R (.bool ci) H3))
 else
 if x = 3 then (
 ∃ ap bw ah s ae p bq bk bj be, RowAt H2 (ad b) 0 (DR ap bw ah s ae p bq bk bj be) ∧
 moraineref03_bare.C ap bw ah s ae p bq bk bj be 1 H2 (fun c4 H4 => ∃ cc : Bool, c4 = .bool cc ∧ 
 if cc = true then (
 ∃ cg : Int, hat H4 ((ad b).add 1) = some (.int .i32 cg) ∧
 moraineref03_Char.C cg H4 (fun c2 H5 => ∃ ch : Bool, c2 = .bool ch ∧ 
 R (.bool ch) H5))
 else
 R (.bool false) H4))
 else
 if x = 4 then (
 ∃ am bt al r o m b1 ba a9 bb, RowAt H2 (ad b) 0 (DR am bt al r o m b1 ba a9 bb) ∧
 moraineref03_bare.C am bt al r o m b1 ba a9 bb 2 H2 (fun c1 H6 => ∃ b5 : Bool, c1 = .bool b5 ∧ 
 if b5 = true then (
 ∃ (bz : Bool) (a6 : Option Addr) (a3 a2 : Nat), RowAt H6 ((ad b).add 2) 0 [.bool bz, .slice a6 a3 a2] ∧
 moraineref02_May.C bz a6 a3 a2 H6 (fun c5 H7 => ∃ cn : Bool, c5 = .bool cn ∧ 
 R (.bool cn) H7))
 else
 R (.bool false) H6))
 else
 ∃ cu : Bool → Array Obj → Prop, (
 if x = 5 then (
 cu true H2)
 else
 cu (x == 6) H2) ∧ ∀ (b7 : Bool) (H8 : Array Obj), cu b7 H8 →
 if b7 = true then (
 ∃ cm : ByteArray, hat H8 ((ad b).add 4) = some (.string cm) ∧
 moraineref03_Runes.C cm H8 (fun cz H9 => ∃ (f : Option Addr) (d e : Nat) (rb : Bool), cz = .tuple #[.slice f d e, .bool rb] ∧ 
 ∃ ai bu ak z af u br bd bi a5, RowAt H9 (ad b) 0 (DR ai bu ak z af u br bd bi a5) ∧
 moraineref03_bare.C ai bu ak z af u br bd bi a5 4 H9 (fun c0 cj => ∃ b6 : Bool, c0 = .bool b6 ∧ 
 if b6 = true then (
 if rb = true then (
 if (d : Int) ≤ 62 then (
 ∃ g : Int, hat cj (ad b) = some (.int .i64 g) ∧
 R (.bool ((g == 5) || (decide ((d : Int) > 0)))) cj)
 else
 R (.bool false) cj)
 else
 R (.bool false) cj)
 else
 R (.bool false) cj)))
 else
 ∃ cv : Bool → Array Obj → Prop, (
 if x = 7 then (
 cv true H8)
 else
 cv (x == 8) H8) ∧ ∀ (b9 : Bool) (H11 : Array Obj), cv b9 H11 →
 if b9 = true then (
 ∃ cf : Bool → Array Obj → Prop, (
 ∃ ao bs aj y aa ac bx bl bg a4, RowAt H11 (ad b) 0 (DR ao bs aj y aa ac bx bl bg a4) ∧
 moraineref03_bare.C ao bs aj y aa ac bx bl bg a4 8 H11 (fun cy bp => ∃ aq : Bool, cy = .bool aq ∧ 
 if aq = true then (
 ∃ az : Int, hat bp (ad b) = some (.int .i64 az) ∧
 if az = 7 then (
 ∃ (cp : Option Addr) (ay cs : Nat), hat bp ((ad b).add 5) = some (.slice cp ay cs) ∧
 if (ay : Int) = 2 then (
 ∃ (cq : Option Addr) (bm ce : Nat), hat bp ((ad b).add 5) = some (.slice cq bm ce) ∧
 cf (decide ((bm : Int) > 62)) bp)
 else
 cf true bp)
 else
 ∃ (ct : Option Addr) (bn cd : Nat), hat bp ((ad b).add 5) = some (.slice ct bn cd) ∧
 cf (decide ((bn : Int) > 62)) bp)
 else
 cf true bp)) ∧ ∀ (b4 : Bool) (H12 : Array Obj), cf b4 H12 →
 if b4 = true then (
 R (.bool false) H12)
 else
 ∃ (cw : Int → Array Obj → Prop) (m64 : Int → Array Obj → Nat), cw 0 H12 ∧ ∀ (i : Int) (H13 : Array Obj), cw i H13 →
 ∃ (xB : Option Addr) (xN cr : Nat), hat H13 ((ad b).add 5) = some (.slice xB xN cr) ∧
 if i < (xN : Int) then (
 ∃ (b0 : Option Addr) (a1 bo : Nat), hat H13 ((ad b).add 5) = some (.slice b0 a1 bo) ∧
 ∃ a0 : Addr, b0 = some a0 ∧
 ((0 : Int) ≤ i ∧ i < (a1 : Int)) ∧
 ∃ ag b3 an ab j q b2 bh a7 a8, RowAt H13 (a0.add (Int.toNat i * 6)) 0 (DR ag b3 an ab j q b2 bh a7 a8) ∧
 moraineref03_plain.C ag b3 an ab j q b2 bh a7 a8 H13 (fun c3 cx => ∃ au : Bool, c3 = .bool au ∧ 
 if au = true then (
 (cw (IntKind.wrap .i64 (i + 1)) cx ∧ m64 (IntKind.wrap .i64 (i + 1)) cx < m64 i H13))
 else
 R (.bool false) cx))
 else
 R (.bool true) H13)
 else
 R (.bool false) H11
namespace moraineref03_plain
theorem link {dKind : Int} {dC : Int} {dNNeg : Bool} {dNMagB : Option Addr} {dNMagN : Nat} {dNMagC : Nat} {dT : ByteArray} {dLB : Option Addr} {dLN : Nat} {dLC : Nat} {H : Array Obj} {R : Value → Array Obj → Prop} (h : pt dKind dC dNNeg dNMagB dNMagN dNMagC dT dLB dLN dLC H R) : C dKind dC dNNeg dNMagB dNMagN dNMagC dT dLB dLN dLC H R := by
 refine T_en K0 100 Tryz.func20 ?_
 intro w0 Q hQ
 unfold pt at h
 refine T_su [(0, .agg (DR dKind dC dNNeg dNMagB dNMagN dNMagC dT dLB dLN dLC).toArray)] ?_
 refine T_srz 0 ?_
 refine T_nw (some 1) (fun b => vp (pa b)) (.cells (DR dKind dC dNNeg dNMagB dNMagN dNMagC dT dLB dLN dLC).toArray 27) ?_
 intro b H1 e1 e2
 replace h := h b H1 e1 e2
 refine ⟨[(1, vp (pa b))], pk, ?_⟩
 refine T_ed 1 [] [] ?_
 refine T_sz ?_
 refine T_srz 1 ?_
 refine T_nd 1 [] [(6, vp (pa b))] ?_
 obtain ⟨x, q3, h⟩ := h
 refine T_l1 7 3 q3 [6] ?_
 refine T_e ?_
 refine T_bz 0 ?_
 refine T_sz ?_
 refine T_srz 2 ?_
 refine T_ne 2 [(1, vp (pa b)), (7, vi x), (8, .bool (x == 0))] ?_
 obtain ⟨J, h, j5⟩ := h
 refine S_join (σ := Bool) (fun s_ => [(1, vp (pa b)), (7, vi x), (8, .bool s_)]) (fun s_ H => J s_ H) ?_ ?_
 ·rintro s8 H2 j6
  replace h := j5 s8 H2 j6
  refine T_su [(1, vp (pa b)), (7, vi x), (8, .bool s8)] ?_
  refine S_then ?_
  by_cases c7 : s8 = true
  ·rw [if_pos c7] at h
   have b8 : s8 = true := c7
   refine S_env [(1, vp (pa b)), (7, vi x), (8, .bool true)] (by rw [b8]) ?_
   clear b8
   refine T_tz 8 ?_
   refine T_srz 7 ?_
   refine T_ud [7, 8] [] ?_
   obtain ⟨bc, xC, bf, aw, av, ax, xT, cl, ck, co, q9, h⟩ := h
   refine T_lr 14 27 q9 [1] ?_
   refine T_c (some 15) h ?_; clear h
   rintro v H3 ⟨ci, rfl, h⟩
   refine ⟨[(15, .bool ci)], pk, ?_⟩
   exact T_nr 1 [2] [.bool ci] hQ h
  rw [if_neg c7] at h
  have b8 : s8 = false := eq_false_of_ne_true c7
  refine S_env [(1, vp (pa b)), (7, vi x), (8, .bool false)] (by rw [b8]) ?_
  clear b8
  refine T_fz 8 ?_
  refine T_srz 8 ?_
  refine T_ed 2 [8] [(16, .bool (x == 3))] ?_
  by_cases c10 : x = 3
  ·rw [if_pos c10] at h
   refine T_cTz 16 (beq_iff_eq.mpr c10) ?_
   refine T_srz 9 ?_
   refine T_ud [7, 16] [] ?_
   obtain ⟨ap, bw, ah, s, ae, p, bq, bk, bj, be, q12, h⟩ := h
   refine T_lr 18 27 q12 [] ?_
   refine T_c (some 19) h ?_; clear h
   rintro c4 H4 ⟨cc, rfl, h⟩
   refine T_pd [18] [(19, .bool cc)] ?_
   refine T_nd 1 [19] [(20, .bool cc)] ?_
   by_cases c13 : cc = true
   ·rw [if_pos c13] at h
    refine N_bd 20 c13 ?_
    refine T_nd 1 [1] [(21, vp (some ((ad b).add 1)))] ?_
    obtain ⟨cg, q15, h⟩ := h
    refine T_l1 22 21 q15 [21] ?_
    refine T_c (some 23) h ?_; clear h
    rintro c2 H5 ⟨ch, rfl, h⟩
    refine T_pd [22] [(23, .bool ch)] ?_
    exact T_nr 2 [2] [.bool ch] hQ h
   rw [if_neg c13] at h
   refine N_bd 20 (eq_false_of_ne_true c13) ?_
   exact T_nr 5 [2] [.bool false] hQ h
  rw [if_neg c10] at h
  refine T_cFz 16 (beq_eq_false_iff_ne.mpr c10) ?_
  refine T_srz 10 ?_
  refine T_ed 2 [16] [(25, .bool (x == 4))] ?_
  by_cases c16 : x = 4
  ·rw [if_pos c16] at h
   refine T_cTz 25 (beq_iff_eq.mpr c16) ?_
   refine T_srz 11 ?_
   refine T_ud [7, 25] [] ?_
   obtain ⟨am, bt, al, r, o, m, b1, ba, a9, bb, q18, h⟩ := h
   refine T_lr 27 27 q18 [] ?_
   refine T_c (some 28) h ?_; clear h
   rintro c1 H6 ⟨b5, rfl, h⟩
   refine T_pd [27] [(28, .bool b5)] ?_
   refine T_nd 1 [28] [(29, .bool b5)] ?_
   by_cases c19 : b5 = true
   ·rw [if_pos c19] at h
    refine N_bd 29 c19 ?_
    refine T_nd 1 [1] [(30, vp (some ((ad b).add 2)))] ?_
    obtain ⟨bz, a6, a3, a2, q21, h⟩ := h
    refine T_lr 31 24 q21 [30] ?_
    refine T_c (some 32) h ?_; clear h
    rintro c5 H7 ⟨cn, rfl, h⟩
    refine T_pd [31] [(32, .bool cn)] ?_
    exact T_nr 2 [2] [.bool cn] hQ h
   rw [if_neg c19] at h
   refine N_bd 29 (eq_false_of_ne_true c19) ?_
   exact T_nr 5 [2] [.bool false] hQ h
  rw [if_neg c16] at h
  refine T_cFz 25 (beq_eq_false_iff_ne.mpr c16) ?_
  refine T_sz ?_
  refine T_srz 12 ?_
  refine T_ne 2 [(1, vp (pa b)), (7, vi x), (34, .bool (x == 5))] ?_
  obtain ⟨cu, h, j23⟩ := h
  refine S_join (σ := Bool) (fun s_ => [(1, vp (pa b)), (7, vi x), (34, .bool s_)]) (fun s_ H => cu s_ H) ?_ ?_
  ·rintro b7 H8 j24
   replace h := j23 b7 H8 j24
   refine T_su [(1, vp (pa b)), (7, vi x), (34, .bool b7)] ?_
   refine S_then ?_
   by_cases c25 : b7 = true
   ·rw [if_pos c25] at h
    have b26 : b7 = true := c25
    refine S_env [(1, vp (pa b)), (7, vi x), (34, .bool true)] (by rw [b26]) ?_
    clear b26
    refine T_tz 34 ?_
    refine T_srz 14 ?_
    refine T_nd 1 [7, 34] [(38, vp (some ((ad b).add 4)))] ?_
    obtain ⟨cm, q27, h⟩ := h
    refine T_l1 39 9 q27 [38] ?_
    refine T_c (some 40) h ?_; clear h
    rintro cz H9 ⟨f, d, e, rb, rfl, h⟩
    refine T_pd [39] [(40, .tuple #[vs f d e, .bool rb])] ?_
    refine T_ed 5 [40] [(3, vs f d e), (4, .bool rb)] ?_
    refine T_srz 15 ?_
    obtain ⟨ai, bu, ak, z, af, u, br, bd, bi, a5, q28, h⟩ := h
    refine T_lr 43 27 q28 [] ?_
    refine T_c (some 44) h ?_; clear h
    rintro c0 cj ⟨b6, rfl, h⟩
    refine T_pd [43] [(44, .bool b6)] ?_
    refine T_nd 1 [44] [(45, .bool b6)] ?_
    by_cases c29 : b6 = true
    ·rw [if_pos c29] at h
     refine N_bd 45 c29 ?_
     refine T_nd 3 [4, 45] [(48, .bool rb)] ?_
     by_cases c31 : rb = true
     ·rw [if_pos c31] at h
      refine N_bd 48 c31 ?_
      refine T_nd 5 [48] [(53, .bool (decide ((d : Int) ≤ 62)))] ?_
      by_cases c33 : (d : Int) ≤ 62
      ·rw [if_pos c33] at h
       refine N_bd 53 (decide_eq_true c33) ?_
       refine T_nd 1 [1] [(54, vp (pa b))] ?_
       obtain ⟨g, q35, h⟩ := h
       refine T_l1 55 3 q35 [54] ?_
       refine T_nd 2 [55] [(57, .bool (g == 5))] ?_
       refine N_cut [(2, .bool ((g == 5) || (decide ((d : Int) > 0))))] ?_ ?_
       ·refine S_then ?_
        exact T_ret [2] [.bool ((g == 5) || (decide ((d : Int) > 0)))] hQ h
       intro hk
       refine T_nu [(3, vs f d e), (53, .bool true), (57, .bool (g == 5))] ?_
       by_cases c36 : g = 5
       ·have b37 : (g == 5) = true := beq_iff_eq.mpr c36
        refine N_env [(3, vs f d e), (53, .bool true), (57, .bool true)] (by rw [b37]) ?_
        refine T_n 6 [(2, .bool true)] ?_
        refine N_end (by kernel_rfl) ?_
        refine S_env [(2, .bool ((g == 5) || (decide ((d : Int) > 0))))] (by simp only [b37, BL]) ?_
        exact hk
       have b37 : (g == 5) = false := beq_eq_false_iff_ne.mpr c36
       refine N_env [(3, vs f d e), (53, .bool true), (57, .bool false)] (by rw [b37]) ?_
       refine T_n 6 [(2, .bool (decide ((d : Int) > 0)))] ?_
       refine N_end (by kernel_rfl) ?_
       refine S_env [(2, .bool ((g == 5) || (decide ((d : Int) > 0))))] (by simp only [b37, BL]) ?_
       exact hk
      rw [if_neg c33] at h
      refine N_bd 53 (decide_eq_false c33) ?_
      exact T_nr 10 [2] [.bool false] hQ h
     rw [if_neg c31] at h
     refine N_bd 48 (eq_false_of_ne_true c31) ?_
     exact T_nr 15 [2] [.bool false] hQ h
    rw [if_neg c29] at h
    refine N_bd 45 (eq_false_of_ne_true c29) ?_
    exact T_nr 18 [2] [.bool false] hQ h
   rw [if_neg c25] at h
   have b26 : b7 = false := eq_false_of_ne_true c25
   refine S_env [(1, vp (pa b)), (7, vi x), (34, .bool false)] (by rw [b26]) ?_
   clear b26
   refine T_fz 34 ?_
   refine T_sz ?_
   refine T_srz 16 ?_
   refine T_ne 2 [(1, vp (pa b)), (7, vi x), (63, .bool (x == 7))] ?_
   obtain ⟨cv, h, j39⟩ := h
   refine S_join (σ := Bool) (fun s_ => [(1, vp (pa b)), (63, .bool s_)]) (fun s_ H => cv s_ H) ?_ ?_
   ·rintro b9 H11 j40
    replace h := j39 b9 H11 j40
    refine T_su [(1, vp (pa b)), (63, .bool b9)] ?_
    refine S_then ?_
    by_cases c41 : b9 = true
    ·rw [if_pos c41] at h
     have b42 : b9 = true := c41
     refine S_env [(1, vp (pa b)), (63, .bool true)] (by rw [b42]) ?_
     clear b42
     refine T_tz 63 ?_
     refine T_sz ?_
     refine T_sz ?_
     obtain ⟨cf, h, j44⟩ := h
     refine S_join (σ := Bool) (fun s_ => [(1, vp (pa b)), (85, .bool s_)]) (fun s_ H => cf s_ H) ?_ ?_
     ·rintro b4 H12 j45
      replace h := j44 b4 H12 j45
      refine T_su [(1, vp (pa b)), (85, .bool b4)] ?_
      refine S_then ?_
      by_cases c46 : b4 = true
      ·rw [if_pos c46] at h
       have b47 : b4 = true := c46
       refine S_env [(1, vp (pa b)), (85, .bool true)] (by rw [b47]) ?_
       clear b47
       refine T_tz 85 ?_
       refine T_srz 19 ?_
       exact T_nr 1 [2] [.bool false] hQ h
      rw [if_neg c46] at h
      have b47 : b4 = false := eq_false_of_ne_true c46
      refine S_env [(1, vp (pa b)), (85, .bool false)] (by rw [b47]) ?_
      clear b47
      refine T_fz 85 ?_
      refine T_kt ?_
      refine T_sz ?_
      refine T_srz 20 ?_
      refine T_ed 1 [85] [(5, vi 0)] ?_
      refine T_bz 1 ?_
      obtain ⟨cw, m64, i48, i49⟩ := h
      refine S_loop (x := K63) (σ := Int) (fun s_ => [(1, vp (pa b)), (5, vi s_)]) (fun s_ H => cw s_ H) (fun s_ H => m64 s_ H) (0 : Int) (by kernel_rfl) i48 sk ?_
      rintro i H13 i50
      have h := i49 i H13 i50
      refine T_su [(1, vp (pa b)), (5, vi i)] ?_
      refine T_sz ?_
      refine T_srz 21 ?_
      refine T_nd 2 [] [(86, vi i), (87, vp (some ((ad b).add 5)))] ?_
      obtain ⟨xB, xN, cr, q51, h⟩ := h
      refine T_l1 88 25 q51 [87] ?_
      refine T_ed 2 [86, 88] [(90, .bool (decide (i < (xN : Int))))] ?_
      by_cases c52 : i < (xN : Int)
      ·rw [if_pos c52] at h
       refine T_cTz 90 (decide_eq_true c52) ?_
       refine T_kt ?_
       refine T_sz ?_
       refine T_bz 2 ?_
       refine T_srz 23 ?_
       refine T_nd 1 [90] [(93, vp (some ((ad b).add 5)))] ?_
       obtain ⟨b0, a1, bo, q54, h⟩ := h
       refine T_l1 94 25 q54 [93] ?_
       refine T_nd 1 [] [(95, vi i)] ?_
       obtain ⟨a0, rfl, h⟩ := h
       obtain ⟨q55, h⟩ := h
       refine T_xd (some 96) 25 27 6 a0 a1 bo .i64 i Tryz.underlying25 q55.1 q55.2 [94, 95] [(96, vp (some (a0.add (Int.toNat i * 6))))] ?_
       obtain ⟨ag, b3, an, ab, j, q, b2, bh, a7, a8, q56, h⟩ := h
       refine T_lr 97 27 q56 [96] ?_
       refine T_c (some 98) h ?_; clear h
       rintro c3 cx ⟨au, rfl, h⟩
       refine T_pd [97] [(98, .bool au)] ?_
       refine T_ed 1 [98] [(99, .bool (!au))] ?_
       by_cases c57 : au = true
       ·rw [if_pos c57] at h
        refine T_cFz 99 (congrArg Bool.not (c57)) ?_
        refine T_k ?_
        refine S_blockEnd ?_
        refine S_then ?_
        refine T_rz 22 ?_
        refine T_ed 3 [5, 99] [(5, vi (IntKind.wrap .i64 (i + 1)))] ?_
        exact S_round ((IntKind.wrap .i64 (i + 1)) : Int) sk h
       rw [if_neg c57] at h
       refine T_cTz 99 (congrArg Bool.not (eq_false_of_ne_true c57)) ?_
       refine T_srz 24 ?_
       exact T_nr 1 [2] [.bool false] hQ h
      rw [if_neg c52] at h
      refine T_cFz 90 (decide_eq_false c52) ?_
      refine S_exit 1 (by kernel_rfl) ?_
      refine S_exitThen ?_
      refine S_exitThen ?_
      refine S_exitHere ?_
      refine S_then ?_
      refine T_srz 25 ?_
      exact T_nr 1 [2] [.bool true] hQ h
     refine T_rz 18 ?_
     refine T_nu [(1, vp (pa b))] ?_
     obtain ⟨ao, bs, aj, y, aa, ac, bx, bl, bg, a4, q59, h⟩ := h
     refine T_lr 66 27 q59 [] ?_
     refine T_c (some 67) h ?_; clear h
     rintro cy bp ⟨aq, rfl, h⟩
     refine T_pd [66] [(67, .bool aq)] ?_
     refine T_nd 2 [67] [(69, .bool (!aq))] ?_
     by_cases c60 : aq = true
     ·rw [if_pos c60] at h
      have b61 : (!aq) = false := congrArg Bool.not (c60)
      have b612 : aq = true := c60
      refine N_bd 69 (b := (!aq)) (v := false) (by simp only [b61, b612, Bool.not_true, Bool.not_false]) ?_
      clear b61 b612
      refine T_nd 1 [] [(70, vp (pa b))] ?_
      obtain ⟨az, q62, h⟩ := h
      refine T_l1 71 3 q62 [70] ?_
      refine T_nd 2 [71] [(73, .bool (az == 7))] ?_
      by_cases c63 : az = 7
      ·rw [if_pos c63] at h
       refine N_bd 73 (beq_iff_eq.mpr c63) ?_
       refine T_nd 1 [] [(74, vp (some ((ad b).add 5)))] ?_
       obtain ⟨cp, ay, cs, q65, h⟩ := h
       refine T_l1 75 25 q65 [74] ?_
       refine T_nd 5 [69, 73, 75] [(80, .bool ((ay : Int) != 2))] ?_
       by_cases c66 : (ay : Int) = 2
       ·rw [if_pos c66] at h
        refine N_bd 80 (bne_eq_false_iff_eq.mpr c66) ?_
        refine T_nd 1 [] [(81, vp (some ((ad b).add 5)))] ?_
        obtain ⟨cq, bm, ce, q68, h⟩ := h
        refine T_l1 82 25 q68 [81] ?_
        refine T_ed 3 [80, 82] [(85, .bool (decide ((bm : Int) > 62)))] ?_
        exact S_meet ((decide ((bm : Int) > 62)) : Bool) sk h
       rw [if_neg c66] at h
       refine N_bd 80 (bne_iff_ne.mpr c66) ?_
       refine T_ed 5 [80] [(85, .bool true)] ?_
       exact S_meet (true : Bool) sk h
      rw [if_neg c63] at h
      refine N_bd 73 (beq_eq_false_iff_ne.mpr c63) ?_
      refine T_nd 8 [69, 73] [(80, .bool false), (81, vp (some ((ad b).add 5)))] ?_
      obtain ⟨ct, bn, cd, q69, h⟩ := h
      refine T_l1 82 25 q69 [81] ?_
      refine T_ed 3 [80, 82] [(85, .bool (decide ((bn : Int) > 62)))] ?_
      exact S_meet ((decide ((bn : Int) > 62)) : Bool) sk h
     rw [if_neg c60] at h
     have b61 : (!aq) = true := congrArg Bool.not (eq_false_of_ne_true c60)
     have b612 : aq = false := eq_false_of_ne_true c60
     refine N_bd 69 (b := (!aq)) (v := true) (by simp only [b61, b612, Bool.not_true, Bool.not_false]) ?_
     clear b61 b612
     refine T_ed 16 [69] [(85, .bool true)] ?_
     exact S_meet (true : Bool) sk h
    rw [if_neg c41] at h
    have b42 : b9 = false := eq_false_of_ne_true c41
    refine S_env [(1, vp (pa b)), (63, .bool false)] (by rw [b42]) ?_
    clear b42
    refine T_fz 63 ?_
    refine T_k ?_
    refine S_blockEnd ?_
    refine S_then ?_
    refine T_srz 26 ?_
    exact T_nr 1 [2] [.bool false] hQ h
   by_cases c70 : x = 7
   ·rw [if_pos c70] at h
    have b71 : (x == 7) = true := beq_iff_eq.mpr c70
    refine S_env [(1, vp (pa b)), (7, vi x), (63, .bool true)] (by simp only [b71, Bool.not_true, Bool.not_false]) ?_
    clear b71
    refine T_tz 63 ?_
    refine T_kt ?_
    exact S_meet (true : Bool) sk h
   rw [if_neg c70] at h
   have b71 : (x == 7) = false := beq_eq_false_iff_ne.mpr c70
   refine S_env [(1, vp (pa b)), (7, vi x), (63, .bool false)] (by simp only [b71, Bool.not_true, Bool.not_false]) ?_
   clear b71
   refine T_fz 63 ?_
   refine T_rz 17 ?_
   refine T_ed 2 [7, 63] [(63, .bool (x == 8))] ?_
   exact S_meet ((x == 8) : Bool) sk h
  by_cases c72 : x = 5
  ·rw [if_pos c72] at h
   have b73 : (x == 5) = true := beq_iff_eq.mpr c72
   refine S_env [(1, vp (pa b)), (7, vi x), (34, .bool true)] (by simp only [b73, Bool.not_true, Bool.not_false]) ?_
   clear b73
   refine T_tz 34 ?_
   refine T_kt ?_
   exact S_meet (true : Bool) sk h
  rw [if_neg c72] at h
  have b73 : (x == 5) = false := beq_eq_false_iff_ne.mpr c72
  refine S_env [(1, vp (pa b)), (7, vi x), (34, .bool false)] (by simp only [b73, Bool.not_true, Bool.not_false]) ?_
  clear b73
  refine T_fz 34 ?_
  refine T_rz 13 ?_
  refine T_ed 2 [34] [(34, .bool (x == 6))] ?_
  exact S_meet ((x == 6) : Bool) sk h
 by_cases c74 : x = 0
 ·rw [if_pos c74] at h
  have b75 : (x == 0) = true := beq_iff_eq.mpr c74
  refine S_env [(1, vp (pa b)), (7, vi x), (8, .bool true)] (by simp only [b75, Bool.not_true, Bool.not_false]) ?_
  clear b75
  refine T_tz 8 ?_
  refine T_kt ?_
  exact S_meet (true : Bool) sk h
 rw [if_neg c74] at h
 have b75 : (x == 0) = false := beq_eq_false_iff_ne.mpr c74
 refine S_env [(1, vp (pa b)), (7, vi x), (8, .bool false)] (by simp only [b75, Bool.not_true, Bool.not_false]) ?_
 clear b75
 refine T_fz 8 ?_
 refine T_srz 3 ?_
 refine T_ed 2 [8] [(8, .bool (x == 1))] ?_
 by_cases c76 : x = 1
 ·rw [if_pos c76] at h
  refine S_bd 8 (beq_iff_eq.mpr c76) ?_
  refine T_tz 8 ?_
  refine T_kt ?_
  exact S_meet (true : Bool) sk h
 rw [if_neg c76] at h
 refine S_bd 8 (beq_eq_false_iff_ne.mpr c76) ?_
 refine T_fz 8 ?_
 refine T_srz 4 ?_
 refine T_ed 2 [8] [(8, .bool (x == 2))] ?_
 by_cases c78 : x = 2
 ·rw [if_pos c78] at h
  refine S_bd 8 (beq_iff_eq.mpr c78) ?_
  refine T_tz 8 ?_
  refine T_kt ?_
  exact S_meet (true : Bool) sk h
 rw [if_neg c78] at h
 refine S_bd 8 (beq_eq_false_iff_ne.mpr c78) ?_
 refine T_fz 8 ?_
 refine T_srz 5 ?_
 refine T_ed 2 [8] [(8, .bool (x == 9))] ?_
 by_cases c80 : x = 9
 ·rw [if_pos c80] at h
  refine S_bd 8 (beq_iff_eq.mpr c80) ?_
  refine T_tz 8 ?_
  refine T_kt ?_
  exact S_meet (true : Bool) sk h
 rw [if_neg c80] at h
 refine S_bd 8 (beq_eq_false_iff_ne.mpr c80) ?_
 refine T_fz 8 ?_
 refine T_rz 6 ?_
 refine T_ed 2 [8] [(8, .bool (x == 10))] ?_
 exact S_meet ((x == 10) : Bool) sk h
end moraineref03_plain

/-! moraine/moraineref03.Depth -/
namespace moraineref03_Depth
def K0 := Func.code Tryz.f21
def K2 := cb K0
def K4 := cb K2
def K5 := ca K4
def K8 := cb K5
def K9 := ca K8
def K10 := ca K9
end moraineref03_Depth
def moraineref03_Depth.pt (dKind : Int) (dC : Int) (dNNeg : Bool) (dNMagB : Option Addr) (dNMagN : Nat) (dNMagC : Nat) (dT : ByteArray) (dLB : Option Addr) (dLN : Nat) (dLC : Nat) (H : Array Obj) (R : Value → Array Obj → Prop) : Prop :=
 ∀ (b : Nat) (H1 : Array Obj), b = H.size → H1 = H.push (.cells (DR dKind dC dNNeg dNMagB dNMagN dNMagC dT dLB dLN dLC).toArray 27) →
 ∃ (af : Int → Int → Array Obj → Prop) (m11 : Int → Int → Array Obj → Nat), af 0 0 H1 ∧ ∀ (nv : Int) (i : Int) (H2 : Array Obj), af nv i H2 →
 ∃ (xB : Option Addr) (xN xC : Nat), hat H2 ((ad b).add 5) = some (.slice xB xN xC) ∧
 if i < (xN : Int) then (
 ∃ (ac : Option Addr) (o u : Nat), hat H2 ((ad b).add 5) = some (.slice ac o u) ∧
 ∃ m : Addr, ac = some m ∧
 ((0 : Int) ≤ i ∧ i < (o : Int)) ∧
 ∃ q ae r f e d xT ah ag ai, RowAt H2 (m.add (Int.toNat i * 6)) 0 (DR q ae r f e d xT ah ag ai) ∧
 moraineref03_Depth.C q ae r f e d xT ah ag ai H2 (fun v H3 => ∃ x : Int, v = .int .i64 x ∧ 
 ∃ aa : Int, hat H3 (ad b) = some (.int .i64 aa) ∧
 if aa = 7 then (
 ∃ (aj : Option Addr) (j ak : Nat), hat H3 ((ad b).add 5) = some (.slice aj j ak) ∧
 if i = (IntKind.wrap .i64 ((j : Int) - 1)) then (
 ∃ (ab : Option Addr) (p s : Nat), hat H3 ((ad b).add 5) = some (.slice ab p s) ∧
 ∃ g : Addr, ab = some g ∧
 ((0 : Int) ≤ i ∧ i < (p : Int)) ∧
 ∃ y : Int, hat H3 (g.add (Int.toNat i * 6)) = some (.int .i64 y) ∧
 if y = 7 then (
 (af (if nv < x then x else nv) (IntKind.wrap .i64 (i + 1)) H3 ∧ m11 (if nv < x then x else nv) (IntKind.wrap .i64 (i + 1)) H3 < m11 nv i H2))
 else
 (af (if nv < (IntKind.wrap .i64 (x + 1)) then (IntKind.wrap .i64 (x + 1)) else nv) (IntKind.wrap .i64 (i + 1)) H3 ∧ m11 (if nv < (IntKind.wrap .i64 (x + 1)) then (IntKind.wrap .i64 (x + 1)) else nv) (IntKind.wrap .i64 (i + 1)) H3 < m11 nv i H2))
 else
 (af (if nv < (IntKind.wrap .i64 (x + 1)) then (IntKind.wrap .i64 (x + 1)) else nv) (IntKind.wrap .i64 (i + 1)) H3 ∧ m11 (if nv < (IntKind.wrap .i64 (x + 1)) then (IntKind.wrap .i64 (x + 1)) else nv) (IntKind.wrap .i64 (i + 1)) H3 < m11 nv i H2))
 else
 (af (if nv < (IntKind.wrap .i64 (x + 1)) then (IntKind.wrap .i64 (x + 1)) else nv) (IntKind.wrap .i64 (i + 1)) H3 ∧ m11 (if nv < (IntKind.wrap .i64 (x + 1)) then (IntKind.wrap .i64 (x + 1)) else nv) (IntKind.wrap .i64 (i + 1)) H3 < m11 nv i H2)))
 else
 ∃ z : Int, hat H2 (ad b) = some (.int .i64 z) ∧
 if z = 8 then (
 R (.int .i64 (if nv < 1 then 1 else nv)) H2)
 else
 R (.int .i64 nv) H2
namespace moraineref03_Depth
theorem link {dKind : Int} {dC : Int} {dNNeg : Bool} {dNMagB : Option Addr} {dNMagN : Nat} {dNMagC : Nat} {dT : ByteArray} {dLB : Option Addr} {dLN : Nat} {dLC : Nat} {H : Array Obj} {R : Value → Array Obj → Prop} (h : pt dKind dC dNNeg dNMagB dNMagN dNMagC dT dLB dLN dLC H R) : C dKind dC dNNeg dNMagB dNMagN dNMagC dT dLB dLN dLC H R := by
 refine T_en K0 52 Tryz.func21 ?_
 intro w0 Q hQ
 unfold pt at h
 refine T_su [(0, .agg (DR dKind dC dNNeg dNMagB dNMagN dNMagC dT dLB dLN dLC).toArray)] ?_
 refine T_srz 0 ?_
 refine T_nw (some 1) (fun b => vp (pa b)) (.cells (DR dKind dC dNNeg dNMagB dNMagN dNMagC dT dLB dLN dLC).toArray 27) ?_
 intro b H1 e1 e2
 replace h := h b H1 e1 e2
 refine ⟨[(1, vp (pa b))], pk, ?_⟩
 refine T_ed 1 [] [] ?_
 refine T_srz 1 ?_
 refine T_ed 1 [] [(3, vi 0)] ?_
 refine T_sz ?_
 refine T_srz 2 ?_
 refine T_ed 1 [] [(4, vi 0)] ?_
 refine T_bz 0 ?_
 obtain ⟨af, m11, i3, i4⟩ := h
 refine S_loop (x := K10) (σ := Int × Int) (fun s_ => [(1, vp (pa b)), (3, vi s_.1), (4, vi s_.2)]) (fun s_ H => af s_.1 s_.2 H) (fun s_ H => m11 s_.1 s_.2 H) ((0, 0) : Int × Int) (by kernel_rfl) i3 sk ?_
 rintro ⟨nv, i⟩ H2 i5
 have h := i4 nv i H2 i5
 refine T_su [(1, vp (pa b)), (3, vi nv), (4, vi i)] ?_
 refine T_sz ?_
 refine T_srz 3 ?_
 refine T_nd 2 [] [(6, vi i), (7, vp (some ((ad b).add 5)))] ?_
 obtain ⟨xB, xN, xC, q6, h⟩ := h
 refine T_l1 8 25 q6 [7] ?_
 refine T_ed 2 [6, 8] [(10, .bool (decide (i < (xN : Int))))] ?_
 by_cases c7 : i < (xN : Int)
 ·rw [if_pos c7] at h
  refine T_cTz 10 (decide_eq_true c7) ?_
  refine T_kt ?_
  refine T_sz ?_
  refine T_bz 1 ?_
  refine T_srz 5 ?_
  refine T_nd 1 [10] [(13, vp (some ((ad b).add 5)))] ?_
  obtain ⟨ac, o, u, q9, h⟩ := h
  refine T_l1 14 25 q9 [13] ?_
  refine T_nd 1 [] [(15, vi i)] ?_
  obtain ⟨m, rfl, h⟩ := h
  obtain ⟨q10, h⟩ := h
  refine T_xd (some 16) 25 27 6 m o u .i64 i Tryz.underlying25 q10.1 q10.2 [14, 15] [(16, vp (some (m.add (Int.toNat i * 6))))] ?_
  obtain ⟨q, ae, r, f, e, d, xT, ah, ag, ai, q11, h⟩ := h
  refine T_lr 17 27 q11 [16] ?_
  refine T_c (some 18) h ?_; clear h
  rintro v H3 ⟨x, rfl, h⟩
  refine T_pd [17] [(18, vi x)] ?_
  refine T_ed 1 [18] [(5, vi x)] ?_
  refine T_srz 6 ?_
  refine T_nd 1 [] [(19, vp (pa b))] ?_
  obtain ⟨aa, q12, h⟩ := h
  refine T_l1 20 3 q12 [19] ?_
  refine T_nd 2 [20] [(22, .bool (aa == 7))] ?_
  by_cases c13 : aa = 7
  ·rw [if_pos c13] at h
   refine N_bd 22 (beq_iff_eq.mpr c13) ?_
   refine T_nd 2 [] [(23, vi i), (24, vp (some ((ad b).add 5)))] ?_
   obtain ⟨aj, j, ak, q15, h⟩ := h
   refine T_l1 25 25 q15 [24] ?_
   refine T_nd 5 [22, 23, 25] [(30, .bool (i == (IntKind.wrap .i64 ((j : Int) - 1))))] ?_
   by_cases c16 : i = (IntKind.wrap .i64 ((j : Int) - 1))
   ·rw [if_pos c16] at h
    refine N_bd 30 (beq_iff_eq.mpr c16) ?_
    refine T_nd 1 [] [(31, vp (some ((ad b).add 5)))] ?_
    obtain ⟨ab, p, s, q18, h⟩ := h
    refine T_l1 32 25 q18 [31] ?_
    refine T_nd 1 [] [(33, vi i)] ?_
    obtain ⟨g, rfl, h⟩ := h
    obtain ⟨q19, h⟩ := h
    refine T_xd (some 34) 25 27 6 g p s .i64 i Tryz.underlying25 q19.1 q19.2 [32, 33] [(34, vp (some (g.add (Int.toNat i * 6))))] ?_
    refine T_nd 1 [34] [(35, vp (some (g.add (Int.toNat i * 6))))] ?_
    obtain ⟨y, q20, h⟩ := h
    refine T_l1 36 3 q20 [35] ?_
    refine T_ed 2 [30, 36] [(38, .bool (y == 7))] ?_
    by_cases c21 : y = 7
    ·rw [if_pos c21] at h
     refine T_cTz 38 (beq_iff_eq.mpr c21) ?_
     refine T_rz 7 ?_
     refine T_nd 4 [3, 5, 38] [(3, vi (if nv < x then x else nv))] ?_
     refine N_end (by kernel_rfl) ?_
     refine S_blockEnd ?_
     refine S_then ?_
     refine T_rz 4 ?_
     refine T_ed 3 [4] [(4, vi (IntKind.wrap .i64 (i + 1)))] ?_
     exact S_round (((if nv < x then x else nv), (IntKind.wrap .i64 (i + 1))) : Int × Int) sk h
    rw [if_neg c21] at h
    refine T_cFz 38 (beq_eq_false_iff_ne.mpr c21) ?_
    refine T_rz 8 ?_
    refine T_nd 5 [3, 5, 38] [(3, vi (if nv < (IntKind.wrap .i64 (x + 1)) then (IntKind.wrap .i64 (x + 1)) else nv))] ?_
    refine N_end (by kernel_rfl) ?_
    refine S_blockEnd ?_
    refine S_then ?_
    refine T_rz 4 ?_
    refine T_ed 3 [4] [(4, vi (IntKind.wrap .i64 (i + 1)))] ?_
    exact S_round (((if nv < (IntKind.wrap .i64 (x + 1)) then (IntKind.wrap .i64 (x + 1)) else nv), (IntKind.wrap .i64 (i + 1))) : Int × Int) sk h
   rw [if_neg c16] at h
   refine N_bd 30 (beq_eq_false_iff_ne.mpr c16) ?_
   refine T_ed 8 [30] [(38, .bool false)] ?_
   refine T_fz 38 ?_
   refine T_rz 8 ?_
   refine T_nd 5 [3, 5, 38] [(3, vi (if nv < (IntKind.wrap .i64 (x + 1)) then (IntKind.wrap .i64 (x + 1)) else nv))] ?_
   refine N_end (by kernel_rfl) ?_
   refine S_blockEnd ?_
   refine S_then ?_
   refine T_rz 4 ?_
   refine T_ed 3 [4] [(4, vi (IntKind.wrap .i64 (i + 1)))] ?_
   exact S_round (((if nv < (IntKind.wrap .i64 (x + 1)) then (IntKind.wrap .i64 (x + 1)) else nv), (IntKind.wrap .i64 (i + 1))) : Int × Int) sk h
  rw [if_neg c13] at h
  refine N_bd 22 (beq_eq_false_iff_ne.mpr c13) ?_
  refine T_ed 16 [22] [(38, .bool false)] ?_
  refine T_fz 38 ?_
  refine T_rz 8 ?_
  refine T_nd 5 [3, 5, 38] [(3, vi (if nv < (IntKind.wrap .i64 (x + 1)) then (IntKind.wrap .i64 (x + 1)) else nv))] ?_
  refine N_end (by kernel_rfl) ?_
  refine S_blockEnd ?_
  refine S_then ?_
  refine T_rz 4 ?_
  refine T_ed 3 [4] [(4, vi (IntKind.wrap .i64 (i + 1)))] ?_
  exact S_round (((if nv < (IntKind.wrap .i64 (x + 1)) then (IntKind.wrap .i64 (x + 1)) else nv), (IntKind.wrap .i64 (i + 1))) : Int × Int) sk h
 rw [if_neg c7] at h
 refine T_cFz 10 (decide_eq_false c7) ?_
 refine S_exit 0 (by kernel_rfl) ?_
 refine S_exitThen ?_
 refine S_exitThen ?_
 refine S_exitHere ?_
 refine S_then ?_
 refine T_sz ?_
 refine T_srz 9 ?_
 refine T_n 1 [(3, vi nv), (46, vp (pa b))] ?_
 obtain ⟨z, q23, h⟩ := h
 refine T_l1 47 3 q23 [46] ?_
 refine T_ed 1 [47] [(48, .bool (z == 8))] ?_
 by_cases c24 : z = 8
 ·rw [if_pos c24] at h
  refine T_cTz 48 (beq_iff_eq.mpr c24) ?_
  refine T_rz 10 ?_
  refine T_ne 3 [(3, vi (if nv < 1 then 1 else nv))] ?_
  refine T_srz 11 ?_
  exact T_nr 2 [2] [vi (if nv < 1 then 1 else nv)] hQ h
 rw [if_neg c24] at h
 refine T_cFz 48 (beq_eq_false_iff_ne.mpr c24) ?_
 refine T_kt ?_
 refine T_srz 11 ?_
 exact T_nr 2 [2] [vi nv] hQ h
end moraineref03_Depth

/-! moraine/moraineref03.List -/
namespace moraineref03_List
def K0 := Func.code Tryz.f22
def K2 := cb K0
def K4 := cb K2
def K5 := ca K4
def K8 := cb K5
def K9 := ca K8
def K10 := ca K9
def K12 := cb K10
def K17 := ca K12
def K19 := ca K17
end moraineref03_List
def moraineref03_List.pt (lB : Option Addr) (lN : Nat) (lC : Nat) (H : Array Obj) (R : Value → Array Obj → Prop) : Prop :=
 ∀ (b : Nat) (H1 : Array Obj), b = H.size → H1 = H.push (.cells (DR 0 0 false none 0 0 (ByteArray.mk #[]) none 0 0).toArray 27) →
 ∀ (d : Nat) (H2 : Array Obj), d = H1.size → H2 = H1.push (.cells (DR 0 0 false none 0 0 (ByteArray.mk #[]) none 0 0).toArray 27) →
 (CanPuts H2 (ad d) 0 6) ∧ ∀ H3, H3 = hputs H2 (ad d) (DR 0 0 false none 0 0 (ByteArray.mk #[]) none 0 0) 0 →
 ∃ (az : Int → Array Obj → Prop) (m11 : Int → Array Obj → Nat), az (IntKind.wrap .i64 ((lN : Int) - 1)) H3 ∧ ∀ (i : Int) (H4 : Array Obj), az i H4 →
 if i ≥ 0 then (
 ∃ e : Addr, lB = some e ∧
 ((0 : Int) ≤ i ∧ i < (lN : Int)) ∧
 ∃ ab xC ae z y v xT av au aw, RowAt H4 (e.add (Int.toNat i * 6)) 0 (DR ab xC ae z y v xT av au aw) ∧
 ∃ u an s m o p am ai ag ah, RowAt H4 (ad d) 0 (DR u an s m o p am ai ag ah) ∧
 ∀ (al : Nat) (H5 : Array Obj), al = H4.size → H5 = H4.push (.cells #[.int .i64 ab, .int .i32 xC, .bool ae, .slice z y v, .string xT, .slice av au aw, .int .i64 u, .int .i32 an, .bool s, .slice m o p, .string am, .slice ai ag ah] 27) → 
 (CanPuts H5 (ad d) 0 6) ∧ ∀ H6, H6 = hputs H5 (ad d) (DR 7 0 false none 0 0 (ByteArray.mk #[]) (some (ad al)) 2 2) 0 → 
 (az (IntKind.wrap .i64 (i - 1)) H6 ∧ m11 (IntKind.wrap .i64 (i - 1)) H6 < m11 i H4))
 else
 ∃ r ak q f j g aj af ac aa, RowAt H4 (ad d) 0 (DR r ak q f j g aj af ac aa) ∧
 (CanPuts H4 (ad b) 0 6) ∧ ∀ H7, H7 = hputs H4 (ad b) (DR r ak q f j g aj af ac aa) 0 →
 ∃ ay rC ax aq ap ao rT a0 a2 a1, RowAt H7 (ad b) 0 (DR ay rC ax aq ap ao rT a0 a2 a1) ∧
 R (.agg (DR ay rC ax aq ap ao rT a0 a2 a1).toArray) H7
namespace moraineref03_List
theorem link {lB : Option Addr} {lN : Nat} {lC : Nat} {H : Array Obj} {R : Value → Array Obj → Prop} (h : pt lB lN lC H R) : C lB lN lC H R := by
 refine T_en K0 21 Tryz.func22 ?_
 intro w0 Q hQ
 unfold pt at h
 refine T_su [(0, vs lB lN lC)] ?_
 refine T_srz 0 ?_
 refine T_nw (some 2) (fun b => vp (pa b)) (.cells (DR 0 0 false none 0 0 (ByteArray.mk #[]) none 0 0).toArray 27) ?_
 intro b H1 e1 e2
 replace h := h b H1 e1 e2
 refine T_pd [] [(2, vp (pa b))] ?_
 refine T_e ?_
 refine T_srz 1 ?_
 refine T_nd 1 [] [(5, .agg (DR 0 0 false none 0 0 (ByteArray.mk #[]) none 0 0).toArray)] ?_
 refine T_nw (some 3) (fun b => vp (pa b)) (.cells (DR 0 0 false none 0 0 (ByteArray.mk #[]) none 0 0).toArray 27) ?_
 intro d H2 e3 e4
 replace h := h d H2 e3 e4
 refine T_pd [] [(3, vp (pa d))] ?_
 obtain ⟨q6, h⟩ := h
 refine T_sta 27 (DR 0 0 false none 0 0 (ByteArray.mk #[]) none 0 0) q6 ?_
 intro H3 e5
 replace h := h H3 e5
 refine T_pd [5] [] ?_
 refine T_e ?_
 refine T_sz ?_
 refine T_srz 2 ?_
 refine T_ed 4 [] [(4, vi (IntKind.wrap .i64 ((lN : Int) - 1)))] ?_
 refine T_bz 0 ?_
 obtain ⟨az, m11, i7, i8⟩ := h
 refine S_loop (x := K10) (σ := Int) (fun s_ => [(0, vs lB lN lC), (2, vp (pa b)), (3, vp (pa d)), (4, vi s_)]) (fun s_ H => az s_ H) (fun s_ H => m11 s_ H) ((IntKind.wrap .i64 ((lN : Int) - 1)) : Int) (by kernel_rfl) i7 sk ?_
 rintro i H4 i9
 have h := i8 i H4 i9
 refine T_su [(0, vs lB lN lC), (2, vp (pa b)), (3, vp (pa d)), (4, vi i)] ?_
 refine T_sz ?_
 refine T_srz 3 ?_
 refine T_ed 2 [] [(10, .bool (decide (i ≥ 0)))] ?_
 by_cases c10 : i ≥ 0
 ·rw [if_pos c10] at h
  refine T_cTz 10 (decide_eq_true c10) ?_
  refine T_kt ?_
  refine T_sz ?_
  refine T_bz 1 ?_
  obtain ⟨e, rfl, h⟩ := h
  obtain ⟨q12, h⟩ := h
  obtain ⟨ab, xC, ae, z, y, v, xT, av, au, aw, q13, h⟩ := h
  obtain ⟨u, an, s, m, o, p, am, ai, ag, ah, q14, h⟩ := h
  refine S_regionG 5 (Code.ops K19) [(5, (e.add (Int.toNat i * 6)), (DR ab xC ae z y v xT av au aw)), (5, (ad d), (DR u an s m o p am ai ag ah))] 8 (bv 8 0) (by kernel_rfl) (by kernel_rfl) (by kernel_rfl) (by kernel_rfl) (by kernel_rfl) (show FactsAt _ _ _ from ⟨q13, q14, trivial⟩) ?_
  refine T_gp 0 (some 13) (vs (some e) lN lC) (bv 8 1) [(0, vs (some e) lN lC), (2, vp (pa b)), (3, vp (pa d)), (4, vi i), (13, vs (some e) lN lC)] ?_
  refine T_gp1 1 14 (vi i) (bv 8 3) [] ?_
  refine T_g1 2 15 (vp (some (e.add (Int.toNat i * 6)))) (bv 8 7) [13, 14] (indexAtN 25 (vs (some e) lN lC) (vi i)) (fun _ w _ _ _ => indexAt_run (P := Tryz.prog) (t := 25) (elem := 27) (sz := 6) (a := e) (len := lN) (cap := lC) (k := .i64) (i := i) Tryz.underlying25 (fun _=>by kernel_rfl) q12.1 q12.2 w) ?_
  refine T_g1 3 16 (.agg (DR ab xC ae z y v xT av au aw).toArray) (bv 8 15) [15] (loadN 27 (vp (some (e.add (Int.toNat i * 6))))) (held_row 5 (fun _=>by kernel_rfl) (fun _=>by kernel_rfl) (List.Mem.head _) (.inl (by kernel_rfl))) ?_
  refine T_g1 4 17 (.agg (DR u an s m o p am ai ag ah).toArray) (bv 8 31) [] (loadN 27 (vp (pa d))) (held_row 5 (fun _=>by kernel_rfl) (fun _=>by kernel_rfl) (List.Mem.tail _ (List.Mem.head _)) (.inl (by kernel_rfl))) ?_
  refine G_new 5 (some 18) (bv 8 63) (fun b => vs (pa b) 2 2) (.cells #[vi ab, .int .i32 xC, .bool ae, vs z y v, .string xT, vs av au aw, vi u, .int .i32 an, .bool s, vs m o p, .string am, vs ai ag ah] 27) (by kernel_rfl) (fun _=>by kernel_rfl) (by kernel_rfl) ?_
  intro al H5 e15 e16
  replace h := h al H5 e15 e16
  refine ⟨[(0, vs (some e) lN lC), (2, vp (pa b)), (3, vp (pa d)), (4, vi i), (18, vs (pa al) 2 2)], pk, (show FactsAt _ _ _ from ⟨trivial, trivial, trivial⟩), ?_⟩
  refine T_g 6 (some 19) (.agg (DR 7 0 false none 0 0 (ByteArray.mk #[]) (pa al) 2 2).toArray) (bv 8 127) [(0, vs (some e) lN lC), (2, vp (pa b)), (3, vp (pa d)), (4, vi i), (19, .agg (DR 7 0 false none 0 0 (ByteArray.mk #[]) (pa al) 2 2).toArray)] (pure (.value (.agg (DR 7 0 false none 0 0 (ByteArray.mk #[]) (pa al) 2 2).toArray)) : Sem Next) (fun _ _ _ _ _ => rfl) ?_
  obtain ⟨q18, h⟩ := h
  refine G_onlyskip 7 none (bv 8 255) (storeN 27 (vp (pa d)) (.agg (DR 7 0 false none 0 0 (ByteArray.mk #[]) (pa al) 2 2).toArray)) (fun Hz => Hz = hputs H5 (ad d) (DR 7 0 false none 0 0 (ByteArray.mk #[]) (pa al) 2 2) 0) (by kernel_rfl) (fun _=>by kernel_rfl) (ss_store (DR 7 0 false none 0 0 (ByteArray.mk #[]) (pa al) 2 2) 6 (by kernel_rfl) (by kernel_rfl) (fun _=>by kernel_rfl) (by kernel_rfl) q18) (by kernel_rfl) ?_
  intro H6 e17
  replace h := h H6 e17
  refine ⟨[(0, vs (some e) lN lC), (2, vp (pa b)), (3, vp (pa d)), (4, vi i)], pk, (show FactsAt _ _ _ from ⟨trivial, trivial, trivial⟩), ?_⟩
  refine G_sub [(0, vs (some e) lN lC), (2, vp (pa b)), (3, vp (pa d)), (4, vi i)] sk ?_
  refine G_end (by kernel_rfl) ?_
  refine S_blockEnd ?_
  refine S_then ?_
  refine T_rz 4 ?_
  refine T_ne 3 [(0, vs (some e) lN lC), (2, vp (pa b)), (3, vp (pa d)), (4, vi (IntKind.wrap .i64 (i - 1)))] ?_
  exact S_round ((IntKind.wrap .i64 (i - 1)) : Int) sk h
 rw [if_neg c10] at h
 refine T_cFz 10 (decide_eq_false c10) ?_
 refine S_exit 0 (by kernel_rfl) ?_
 refine S_exitThen ?_
 refine S_exitThen ?_
 refine S_exitHere ?_
 refine S_then ?_
 refine T_srz 6 ?_
 refine T_ud [0, 4, 10] [] ?_
 obtain ⟨r, ak, q, f, j, g, aj, af, ac, aa, q19, h⟩ := h
 refine T_lr 20 27 q19 [3] ?_
 obtain ⟨q21, h⟩ := h
 refine T_sta 27 (DR r ak q f j g aj af ac aa) q21 ?_
 intro H7 e20
 replace h := h H7 e20
 refine T_pd [20] [] ?_
 refine T_e ?_
 refine S_ret (by kernel_rfl) ?_
 show At _ _ _ _ _ (Q .ret)
 obtain ⟨ay, rC, ax, aq, ap, ao, rT, a0, a2, a1, q22, h⟩ := h
 exact S_done (fn := Tryz.f22) [.agg (DR ay rC ax aq ap ao rT a0 a2 a1).toArray] hQ (show ResOK _ _ _ [.cell 2 27] _ from .cell (by kernel_rfl) (loadOK_row (fun _=>by kernel_rfl) (fun _=>by kernel_rfl) q22) (.nil)) h
end moraineref03_List

end Go.Proofs.YtdgejifkcfgliaaGreatDoor
