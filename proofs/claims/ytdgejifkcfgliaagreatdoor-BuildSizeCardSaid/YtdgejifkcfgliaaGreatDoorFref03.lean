/- Printed: what each function asks, and that it is sound. -/
import Derived.Test.YtdgejifkcfgliaaGreatDoorFnsC
set_option linter.unusedSimpArgs false
set_option linter.unusedVariables false
set_option maxRecDepth 100000
set_option maxHeartbeats 1000000
noncomputable section
namespace Go.Proofs.YtdgejifkcfgliaaGreatDoor
open Go
/-! moraine/moraineref03.May -/
namespace moraineref03_May
def K0 := Func.code Tryz.f7
end moraineref03_May
def moraineref03_May.pt (y dC : Int) (z : Bool) (o : Option Addr) (p m : Nat) (dT : ByteArray) (ai : Option Addr) (aj ah : Nat) (H : Array Obj) (R : Value → Array Obj → Prop) : Prop :=
 ∀ (b : Nat) (H1 : Array Obj), b = H.size → H1 = H.push (.cells (DR y dC z o p m dT ai aj ah).toArray 27) →
 ∃ t xC s j i k xT ag ae af, RowAt H1 (ad b) 0 (DR t xC s j i k xT ag ae af) ∧
 moraineref03_plain.C t xC s j i k xT ag ae af H1 (fun v H2 => ∃ x : Bool, v = .bool x ∧ 
 if x = true then (
 ∃ f ab g a d e aa r u q, RowAt H2 (ad b) 0 (DR f ab g a d e aa r u q) ∧
 moraineref03_Depth.C f ab g a d e aa r u q H2 (fun ak H3 => ∃ ac : Int, ak = .int .i64 ac ∧ 
 R (.bool (decide (ac ≤ 64))) H3))
 else
 R (.bool false) H2)
namespace moraineref03_May
theorem link {y dC : Int} {z : Bool} {o : Option Addr} {p m : Nat} {dT : ByteArray} {ai : Option Addr} {aj ah : Nat} {H : Array Obj} {R : Value → Array Obj → Prop} (h : pt y dC z o p m dT ai aj ah H R) : C y dC z o p m dT ai aj ah H R := by
 refine T_en K0 10 Tryz.func7 ?_
 intro w0 Q hQ
 unfold pt at h
 refine T_su [(0, .agg (DR y dC z o p m dT ai aj ah).toArray)] <| T_srz 0 <| T_nw (some 1) (fun b => vp (pa b)) (.cells (DR y dC z o p m dT ai aj ah).toArray 27) ?_
 intro b H1 e1 e2
 replace h := h b H1 e1 e2
 refine ⟨[(1, vp (pa b))], pk, ?_⟩
 refine T_ed 1 [] [] <| T_srz 1 ?_
 obtain ⟨t, xC, s, j, i, k, xT, ag, ae, af, q3, h⟩ := h
 refine T_lr 3 27 q3 [] ?_
 refine T_c (some 4) h ?_; clear h
 rintro v H2 ⟨x, rfl, h⟩
 refine T_pd [3] [(4, .bool x)] <| T_nd 1 [4] [(5, .bool x)] ?_
 by_cases c4 : x = true
 ·rw [if_pos c4] at h
  refine N_bd 5 c4 ?_
  obtain ⟨f, ab, g, a, d, e, aa, r, u, q, q6, h⟩ := h
  refine T_lr 6 27 q6 [1] ?_
  refine T_c (some 7) h ?_; clear h
  rintro ak H3 ⟨ac, rfl, h⟩
  exact T_pd [6] [(7, vi ac)] <| T_nr 3 [2] [.bool (decide (ac ≤ 64))] hQ h
 rw [if_neg c4] at h
 exact N_bd 5 (eq_false_of_ne_true c4) <| T_nr 5 [2] [.bool false] hQ h
end moraineref03_May

/-! moraine/moraineref03.Same -/
namespace moraineref03_Same
def K0 := Func.code Tryz.f13
def K2 := cb K0
def K4 := cb K2
def K9 := ca K4
def K12 := cb K9
def K13 := ca K12
def K14 := ca K13
def K16 := cb K14
def K21 := ca K16
def K23 := ca K21
def K24 := ca K23
end moraineref03_Same
def moraineref03_Same.pt (ba aC : Int) (a9 : Bool) (an : Option Addr) (am ao : Nat) (aT : ByteArray) (bk : Option Addr) (bm bl : Nat) (a0 bC : Int) (az : Bool) (af : Option Addr) (ag ae : Nat) (bT : ByteArray) (bi : Option Addr) (bj bh : Nat) (H : Array Obj) (R : Value → Array Obj → Prop) : Prop :=
 ∀ (b : Nat) (H1 : Array Obj), b = H.size → H1 = H.push (.cells (DR ba aC a9 an am ao aT bk bm bl).toArray 27) →
 ∀ (d : Nat) (H2 : Array Obj), d = H1.size → H2 = H1.push (.cells (DR a0 bC az af ag ae bT bi bj bh).toArray 27) →
 ∃ x : Int, hat H2 (ad b) = some (.int .i64 x) ∧
 ∃ bf : Int, hat H2 (ad d) = some (.int .i64 bf) ∧
 if x = bf then (
 ∃ a8 : Int, hat H2 ((ad b).add 1) = some (.int .i32 a8) ∧
 ∃ bg : Int, hat H2 ((ad d).add 1) = some (.int .i32 bg) ∧
 if a8 = bg then (
 ∃ (a4 : Bool) (ai : Option Addr) (aj ah : Nat), RowAt H2 ((ad b).add 2) 0 [.bool a4, .slice ai aj ah] ∧
 ∃ (al : Bool) (aa : Option Addr) (ac ab : Nat), RowAt H2 ((ad d).add 2) 0 [.bool al, .slice aa ac ab] ∧
 moraineref02_Same.C a4 ai aj ah al aa ac ab H2 (fun v H3 => ∃ bb : Bool, v = .bool bb ∧ 
 if bb = true then (
 ∃ a6 : ByteArray, hat H3 ((ad b).add 4) = some (.string a6) ∧
 ∃ be : ByteArray, hat H3 ((ad d).add 4) = some (.string be) ∧
 if a6.toList = be.toList then (
 ∃ (xB : Option Addr) (xN xC : Nat), hat H3 ((ad b).add 5) = some (.slice xB xN xC) ∧
 ∃ (bp : Option Addr) (ap bq : Nat), hat H3 ((ad d).add 5) = some (.slice bp ap bq) ∧
 if (xN : Int) = (ap : Int) then (
 ∃ (br : Int → Array Obj → Prop) (m15 : Int → Array Obj → Nat), br 0 H3 ∧ ∀ (i : Int) (H4 : Array Obj), br i H4 →
 ∃ (bn : Option Addr) (aw bo : Nat), hat H4 ((ad b).add 5) = some (.slice bn aw bo) ∧
 if i < (aw : Int) then (
 ∃ (bs : Option Addr) (aq a7 : Nat), hat H4 ((ad b).add 5) = some (.slice bs aq a7) ∧
 ∃ u : Addr, bs = some u ∧
 ((0 : Int) ≤ i ∧ i < (aq : Int)) ∧
 ∃ m z j f e g xT a2 a1 a3, RowAt H4 (u.add (Int.toNat i * 6)) 0 (DR m z j f e g xT a2 a1 a3) ∧
 ∃ (bt : Option Addr) (av a5 : Nat), hat H4 ((ad d).add 5) = some (.slice bt av a5) ∧
 ∃ y : Addr, bt = some y ∧
 ((0 : Int) ≤ i ∧ i < (av : Int)) ∧
 ∃ r bd s o p q bc ax ay au, RowAt H4 (y.add (Int.toNat i * 6)) 0 (DR r bd s o p q bc ax ay au) ∧
 moraineref03_Same.C m z j f e g xT a2 a1 a3 r bd s o p q bc ax ay au H4 (fun bu H5 => ∃ ak : Bool, bu = .bool ak ∧ 
 if ak = true then (
 (br (IntKind.wrap .i64 (i + 1)) H5 ∧ m15 (IntKind.wrap .i64 (i + 1)) H5 < m15 i H4))
 else
 R (.bool false) H5))
 else
 R (.bool true) H4)
 else
 R (.bool false) H3)
 else
 R (.bool false) H3)
 else
 R (.bool false) H3))
 else
 R (.bool false) H2)
 else
 R (.bool false) H2
namespace moraineref03_Same
theorem link {ba aC : Int} {a9 : Bool} {an : Option Addr} {am ao : Nat} {aT : ByteArray} {bk : Option Addr} {bm bl : Nat} {a0 bC : Int} {az : Bool} {af : Option Addr} {ag ae : Nat} {bT : ByteArray} {bi : Option Addr} {bj bh : Nat} {H : Array Obj} {R : Value → Array Obj → Prop} (h : pt ba aC a9 an am ao aT bk bm bl a0 bC az af ag ae bT bi bj bh H R) : C ba aC a9 an am ao aT bk bm bl a0 bC az af ag ae bT bi bj bh H R := by
 refine T_en K0 61 Tryz.func13 ?_
 intro w0 Q hQ
 unfold pt at h
 refine T_su [(0, .agg (DR ba aC a9 an am ao aT bk bm bl).toArray), (1, .agg (DR a0 bC az af ag ae bT bi bj bh).toArray)] <| T_srz 0 <| T_nw (some 2) (fun b => vp (pa b)) (.cells (DR ba aC a9 an am ao aT bk bm bl).toArray 27) ?_
 intro b H1 e1 e2
 replace h := h b H1 e1 e2
 refine T_pd [0] [(2, vp (pa b))] <| T_nw (some 3) (fun b => vp (pa b)) (.cells (DR a0 bC az af ag ae bT bi bj bh).toArray 27) ?_
 intro d H2 e3 e4
 replace h := h d H2 e3 e4
 refine T_pd [1] [(3, vp (pa d))] <| T_ed 1 [] [] <| T_sz <| T_srz 1 <| T_nd 1 [] [(6, vp (pa b))] ?_
 obtain ⟨x, q5, h⟩ := h
 refine T_l1 7 3 q5 [6] <| T_nd 1 [] [(8, vp (pa d))] ?_
 obtain ⟨bf, q6, h⟩ := h
 refine T_l1 9 3 q6 [8] <| T_nd 2 [7, 9] [(11, .bool (x != bf))] ?_
 by_cases c7 : x = bf
 ·rw [if_pos c7] at h
  refine N_bd 11 (bne_eq_false_iff_eq.mpr c7) <| T_nd 1 [] [(12, vp (some ((ad b).add 1)))] ?_
  obtain ⟨a8, q9, h⟩ := h
  refine T_l1 13 21 q9 [12] <| T_nd 1 [] [(14, vp (some ((ad d).add 1)))] ?_
  obtain ⟨bg, q10, h⟩ := h
  refine T_l1 15 21 q10 [14] <| T_nd 3 [11, 13, 15] [(18, .bool (a8 != bg))] ?_
  by_cases c11 : a8 = bg
  ·rw [if_pos c11] at h
   refine N_bd 18 (bne_eq_false_iff_eq.mpr c11) <| T_nd 1 [] [(19, vp (some ((ad b).add 2)))] ?_
   obtain ⟨a4, ai, aj, ah, q13, h⟩ := h
   refine T_lr 20 24 q13 [19] <| T_nd 1 [] [(21, vp (some ((ad d).add 2)))] ?_
   obtain ⟨al, aa, ac, ab, q14, h⟩ := h
   refine T_lr 22 24 q14 [21] ?_
   refine T_c (some 23) h ?_; clear h
   rintro v H3 ⟨bb, rfl, h⟩
   refine T_pd [20, 22] [(23, .bool bb)] <| T_nd 3 [18, 23] [(26, .bool (!bb))] ?_
   by_cases c15 : bb = true
   ·rw [if_pos c15] at h
    have b16 : (!bb) = false := congrArg Bool.not (c15)
    have b162 : bb = true := c15
    refine N_bd 26 (b := (!bb)) (v := false) (by simp only [b16, b162, Bool.not_true, Bool.not_false]) ?_
    clear b16 b162
    refine T_nd 1 [] [(27, vp (some ((ad b).add 4)))] ?_
    obtain ⟨a6, q17, h⟩ := h
    refine T_l1 28 9 q17 [27] <| T_nd 1 [] [(29, vp (some ((ad d).add 4)))] ?_
    obtain ⟨be, q18, h⟩ := h
    refine T_l1 30 9 q18 [29] <| T_nd 3 [26, 28, 30] [(33, .bool (!(a6.toList == be.toList)))] ?_
    by_cases c19 : a6.toList = be.toList
    ·rw [if_pos c19] at h
     refine N_bd 33 (congrArg Bool.not (beq_iff_eq.mpr c19)) <| T_nd 1 [] [(34, vp (some ((ad b).add 5)))] ?_
     obtain ⟨xB, xN, xC, q21, h⟩ := h
     refine T_l1 35 25 q21 [34] <| T_nd 2 [35] [(36, vi xN), (37, vp (some ((ad d).add 5)))] ?_
     obtain ⟨bp, ap, bq, q22, h⟩ := h
     refine T_l1 38 25 q22 [37] <| T_ed 3 [33, 36, 38] [(41, .bool ((xN : Int) != (ap : Int)))] ?_
     by_cases c23 : (xN : Int) = (ap : Int)
     ·rw [if_pos c23] at h
      refine T_cFz 41 (bne_eq_false_iff_eq.mpr c23) <| T_kt <| T_sz <| T_srz 3 <| T_ed 1 [41] [(5, vi 0)] <| T_bz 0 ?_
      obtain ⟨br, m15, i25, i26⟩ := h
      refine S_loop (x := K14) (σ := Int) (fun s_ => [(2, vp (pa b)), (3, vp (pa d)), (5, vi s_)]) (fun s_ H => br s_ H) (fun s_ H => m15 s_ H) (0 : Int) (by kernel_rfl) i25 sk ?_
      rintro i H4 i27
      have h := i26 i H4 i27
      refine T_su [(2, vp (pa b)), (3, vp (pa d)), (5, vi i)] <| T_sz <| T_srz 4 <| T_nd 2 [] [(42, vi i), (43, vp (some ((ad b).add 5)))] ?_
      obtain ⟨bn, aw, bo, q28, h⟩ := h
      refine T_l1 44 25 q28 [43] <| T_ed 2 [42, 44] [(46, .bool (decide (i < (aw : Int))))] ?_
      by_cases c29 : i < (aw : Int)
      ·rw [if_pos c29] at h
       refine T_cTz 46 (decide_eq_true c29) <| T_kt <| T_sz <| T_bz 1 <| T_sz ?_
       obtain ⟨bs, aq, a7, q31, h⟩ := h
       obtain ⟨u, rfl, h⟩ := h
       obtain ⟨q32, h⟩ := h
       obtain ⟨m, z, j, f, e, g, xT, a2, a1, a3, q33, h⟩ := h
       obtain ⟨bt, av, a5, q34, h⟩ := h
       obtain ⟨y, rfl, h⟩ := h
       obtain ⟨q35, h⟩ := h
       obtain ⟨r, bd, s, o, p, q, bc, ax, ay, au, q36, h⟩ := h
       refine S_regionG 6 (Code.ops K24) [(10, ((ad b).add 5), [vs (some u) aq a7]), (10, (u.add (Int.toNat i * 6)), (DR m z j f e g xT a2 a1 a3)), (10, ((ad d).add 5), [vs (some y) av a5]), (10, (y.add (Int.toNat i * 6)), (DR r bd s o p q bc ax ay au))] 12 (bv 12 0) (by kernel_rfl) (by kernel_rfl) (by kernel_rfl) (by kernel_rfl) (by kernel_rfl) (show FactsAt _ _ _ from ⟨⟨q31, trivial⟩, q33, ⟨q34, trivial⟩, q36, trivial⟩) ?_
       refine T_gp 0 (some 49) (vp (some ((ad b).add 5))) (bv 12 1) [(2, vp (pa b)), (3, vp (pa d)), (5, vi i), (49, vp (some ((ad b).add 5)))] <| T_g1 1 50 (vs (some u) aq a7) (bv 12 3) [49] (loadN 25 (vp (some ((ad b).add 5)))) (held_one 10 (fun _=>by kernel_rfl) (List.Mem.head _) (.inl (by kernel_rfl))) <| T_gp1 2 51 (vi i) (bv 12 7) [] <| T_g1 3 52 (vp (some (u.add (Int.toNat i * 6)))) (bv 12 15) [50, 51] (indexAtN 25 (vs (some u) aq a7) (vi i)) (fun _ w _ _ _ => indexAt_run (P := Tryz.prog) (t := 25) (elem := 27) (sz := 6) (a := u) (len := aq) (cap := a7) (k := .i64) (i := i) Tryz.underlying25 (fun _=>by kernel_rfl) q32.1 q32.2 w) <| T_g1 4 53 (.agg (DR m z j f e g xT a2 a1 a3).toArray) (bv 12 31) [52] (loadN 27 (vp (some (u.add (Int.toNat i * 6))))) (held_row 10 (fun _=>by kernel_rfl) (fun _=>by kernel_rfl) (List.Mem.tail _ (List.Mem.head _)) (.inl (by kernel_rfl))) <| T_gp1 5 54 (vp (some ((ad d).add 5))) (bv 12 63) [] <| T_g1 6 55 (vs (some y) av a5) (bv 12 127) [54] (loadN 25 (vp (some ((ad d).add 5)))) (held_one 10 (fun _=>by kernel_rfl) (List.Mem.tail _ (List.Mem.tail _ (List.Mem.head _))) (.inl (by kernel_rfl))) <| T_gp1 7 56 (vi i) (bv 12 255) [] <| T_g1 8 57 (vp (some (y.add (Int.toNat i * 6)))) (bv 12 511) [55, 56] (indexAtN 25 (vs (some y) av a5) (vi i)) (fun _ w _ _ _ => indexAt_run (P := Tryz.prog) (t := 25) (elem := 27) (sz := 6) (a := y) (len := av) (cap := a5) (k := .i64) (i := i) Tryz.underlying25 (fun _=>by kernel_rfl) q35.1 q35.2 w) ?_
       refine T_g1 9 58 (.agg (DR r bd s o p q bc ax ay au).toArray) (bv 12 1023) [57] (loadN 27 (vp (some (y.add (Int.toNat i * 6))))) (held_row 10 (fun _=>by kernel_rfl) (fun _=>by kernel_rfl) (List.Mem.tail _ (List.Mem.tail _ (List.Mem.tail _ (List.Mem.head _)))) (.inl (by kernel_rfl))) ?_
       refine G_call 10 (some 59) (bv 12 2047) 13 #[.agg (DR m z j f e g xT a2 a1 a3).toArray, .agg (DR r bd s o p q bc ax ay au).toArray] (by kernel_rfl) (fun _=>by kernel_rfl) h (by kernel_rfl) ?_; clear h
       rintro bu H5 ⟨ak, rfl, h⟩
       refine ⟨[(2, vp (pa b)), (3, vp (pa d)), (5, vi i), (59, .bool ak)], pk, (show FactsAt _ _ _ from ⟨trivial, trivial, trivial, trivial, trivial⟩), ?_⟩
       refine T_g 11 (some 60) (.bool (!ak)) (bv 12 4095) [(2, vp (pa b)), (3, vp (pa d)), (5, vi i), (60, .bool (!ak))] (pure (.value (.bool (!ak))) : Sem Next) (fun _ _ _ _ _ => rfl) ?_
       refine G_sub [(2, vp (pa b)), (3, vp (pa d)), (5, vi i), (60, .bool (!ak))] sk ?_
       refine G_end (by kernel_rfl) ?_
       refine S_then ?_
       by_cases c37 : ak = true
       ·rw [if_pos c37] at h
        refine T_cFz 60 (congrArg Bool.not (c37)) <| T_k ?_
        refine S_blockEnd ?_
        refine S_then ?_
        refine T_rz 5 <| T_ne 3 [(2, vp (pa b)), (3, vp (pa d)), (5, vi (IntKind.wrap .i64 (i + 1)))] ?_
        exact S_round ((IntKind.wrap .i64 (i + 1)) : Int) sk h
       rw [if_neg c37] at h
       exact T_cTz 60 (congrArg Bool.not (eq_false_of_ne_true c37)) <| T_srz 7 <| T_nr 1 [4] [.bool false] hQ h
      rw [if_neg c29] at h
      refine T_cFz 46 (decide_eq_false c29) ?_
      refine S_exit 0 (by kernel_rfl) ?_
      refine S_exitThen ?_
      refine S_exitThen ?_
      refine S_exitHere ?_
      refine S_then ?_
      exact T_srz 8 <| T_nr 1 [4] [.bool true] hQ h
     rw [if_neg c23] at h
     exact T_cTz 41 (bne_iff_ne.mpr c23) <| T_srz 2 <| T_nr 1 [4] [.bool false] hQ h
    rw [if_neg c19] at h
    exact N_bd 33 (congrArg Bool.not (beq_eq_false_iff_ne.mpr c19)) <| T_ed 8 [33] [(41, .bool true)] <| T_tz 41 <| T_srz 2 <| T_nr 1 [4] [.bool false] hQ h
   rw [if_neg c15] at h
   have b16 : (!bb) = true := congrArg Bool.not (eq_false_of_ne_true c15)
   have b162 : bb = false := eq_false_of_ne_true c15
   refine N_bd 26 (b := (!bb)) (v := true) (by simp only [b16, b162, Bool.not_true, Bool.not_false]) ?_
   clear b16 b162
   exact T_ed 15 [26] [(41, .bool true)] <| T_tz 41 <| T_srz 2 <| T_nr 1 [4] [.bool false] hQ h
  rw [if_neg c11] at h
  exact N_bd 18 (bne_iff_ne.mpr c11) <| T_ed 23 [18] [(41, .bool true)] <| T_tz 41 <| T_srz 2 <| T_nr 1 [4] [.bool false] hQ h
 rw [if_neg c7] at h
 exact N_bd 11 (bne_iff_ne.mpr c7) <| T_ed 30 [11] [(41, .bool true)] <| T_tz 41 <| T_srz 2 <| T_nr 1 [4] [.bool false] hQ h
end moraineref03_Same

/-! moraine/moraineref03.plain -/
namespace moraineref03_plain
def K0 := Func.code Tryz.f20
def K2 := cb K0
def K3 := ca K2
def K6 := cb K3
def K7 := ca K6
def K9 := cb K7
def K15 := cb K9
def K19 := cb K15
def K21 := cb K19
def K25 := cb K21
def K27 := cb K25
def K31 := cb K27
def K37 := cb K31
def K43 := cb K37
def K48 := ca K43
def K51 := cb K48
def K58 := ca K51
def K61 := cb K58
def K62 := ca K61
def K63 := ca K62
end moraineref03_plain
def moraineref03_plain.pt (bp dC : Int) (bq : Bool) (az : Option Addr) (a0 ay : Nat) (dT : ByteArray) (cv : Option Addr) (cw cu : Nat) (H : Array Obj) (R : Value → Array Obj → Prop) : Prop :=
 ∀ (b : Nat) (H1 : Array Obj), b = H.size → H1 = H.push (.cells (DR bp dC bq az a0 ay dT cv cw cu).toArray 27) →
 ∃ x : Int, hat H1 (ad b) = some (.int .i64 x) ∧
 ∃ J : Bool → Array Obj → Prop, (
 if x = 0 then (
 J true H1)
 else
 if x = 1 then (
 J true H1)
 else
 if x = 2 then (
 J true H1)
 else
 if x = 9 then (
 J true H1)
 else
 J (x == 10) H1) ∧ ∀ (s8 : Bool) (H2 : Array Obj), J s8 H2 →
 if s8 = true then (
 ∃ bo xC a6 ax av aw xT cr co cq, RowAt H2 (ad b) 0 (DR bo xC a6 ax av aw xT cr co cq) ∧
 moraineref03_bare.C bo xC a6 ax av aw xT cr co cq 0 H2 (fun v H3 => ∃ cn : Bool, v = .bool cn ∧ 
 R (.bool cn) H3))
 else
 if x = 3 then (
 ∃ ap b1 an ae o r bx bl bg bd, RowAt H2 (ad b) 0 (DR ap b1 an ae o r bx bl bg bd) ∧
 moraineref03_bare.C ap b1 an ae o r bx bl bg bd 1 H2 (fun dc H4 => ∃ cd : Bool, dc = .bool cd ∧ 
 if cd = true then (
 ∃ cp : Int, hat H4 ((ad b).add 1) = some (.int .i32 cp) ∧
 moraineref03_Char.C cp H4 (fun de H5 => ∃ cm : Bool, de = .bool cm ∧ 
 R (.bool cm) H5))
 else
 R (.bool false) H4))
 else
 if x = 4 then (
 ∃ ao b4 am j af y b0 bm bb a9, RowAt H2 (ad b) 0 (DR ao b4 am j af y b0 bm bb a9) ∧
 moraineref03_bare.C ao b4 am j af y b0 bm bb a9 2 H2 (fun c6 H6 => ∃ cg : Bool, c6 = .bool cg ∧ 
 if cg = true then (
 ∃ (b2 : Bool) (bi : Option Addr) (bf a5 : Nat), RowAt H6 ((ad b).add 2) 0 [.bool b2, .slice bi bf a5] ∧
 moraineref02_May.C b2 bi bf a5 H6 (fun dd H7 => ∃ cs : Bool, dd = .bool cs ∧ 
 R (.bool cs) H7))
 else
 R (.bool false) H6))
 else
 ∃ c4 : Bool → Array Obj → Prop, (
 if x = 5 then (
 c4 true H2)
 else
 c4 (x == 6) H2) ∧ ∀ (cf : Bool) (H8 : Array Obj), c4 cf H8 →
 if cf = true then (
 ∃ cl : ByteArray, hat H8 ((ad b).add 4) = some (.string cl) ∧
 moraineref03_Runes.C cl H8 (fun da H9 => ∃ (f : Option Addr) (d e : Nat) (rb : Bool), da = .tuple #[.slice f d e, .bool rb] ∧ 
 ∃ ai bz aj p s ab b7 bh bj bc, RowAt H9 (ad b) 0 (DR ai bz aj p s ab b7 bh bj bc) ∧
 moraineref03_bare.C ai bz aj p s ab b7 bh bj bc 4 H9 (fun c9 ct => ∃ cc : Bool, c9 = .bool cc ∧ 
 if cc = true then (
 if rb = true then (
 if (d : Int) ≤ 62 then (
 ∃ g : Int, hat ct (ad b) = some (.int .i64 g) ∧
 R (.bool ((g == 5) || (decide ((d : Int) > 0)))) ct)
 else
 R (.bool false) ct)
 else
 R (.bool false) ct)
 else
 R (.bool false) ct)))
 else
 ∃ c2 : Bool → Array Obj → Prop, (
 if x = 7 then (
 c2 true H8)
 else
 c2 (x == 8) H8) ∧ ∀ (ch : Bool) (H11 : Array Obj), c2 ch H11 →
 if ch = true then (
 ∃ ck : Bool → Array Obj → Prop, (
 ∃ al bw ah ac z aa b5 a7 a8 bn, RowAt H11 (ad b) 0 (DR al bw ah ac z aa b5 a7 a8 bn) ∧
 moraineref03_bare.C al bw ah ac z aa b5 a7 a8 bn 8 H11 (fun db bu => ∃ aq : Bool, db = .bool aq ∧ 
 if aq = true then (
 ∃ a1 : Int, hat bu (ad b) = some (.int .i64 a1) ∧
 if a1 = 7 then (
 ∃ (cx : Option Addr) (a2 c1 : Nat), hat bu ((ad b).add 5) = some (.slice cx a2 c1) ∧
 if (a2 : Int) = 2 then (
 ∃ (cz : Option Addr) (bs cj : Nat), hat bu ((ad b).add 5) = some (.slice cz bs cj) ∧
 ck (decide ((bs : Int) > 62)) bu)
 else
 ck true bu)
 else
 ∃ (cy : Option Addr) (bt ci : Nat), hat bu ((ad b).add 5) = some (.slice cy bt ci) ∧
 ck (decide ((bt : Int) > 62)) bu)
 else
 ck true bu)) ∧ ∀ (ce : Bool) (H12 : Array Obj), ck ce H12 →
 if ce = true then (
 R (.bool false) H12)
 else
 ∃ (c3 : Int → Array Obj → Prop) (m64 : Int → Array Obj → Nat), c3 0 H12 ∧ ∀ (i : Int) (H13 : Array Obj), c3 i H13 →
 ∃ (xB : Option Addr) (xN c0 : Nat), hat H13 ((ad b).add 5) = some (.slice xB xN c0) ∧
 if i < (xN : Int) then (
 ∃ (b9 : Option Addr) (a3 br : Nat), hat H13 ((ad b).add 5) = some (.slice b9 a3 br) ∧
 ∃ a4 : Addr, b9 = some a4 ∧
 ((0 : Int) ≤ i ∧ i < (a3 : Int)) ∧
 ∃ ak b6 ag u q m b3 be bk ba, RowAt H13 (a4.add (Int.toNat i * 6)) 0 (DR ak b6 ag u q m b3 be bk ba) ∧
 moraineref03_plain.C ak b6 ag u q m b3 be bk ba H13 (fun c8 c5 => ∃ au : Bool, c8 = .bool au ∧ 
 if au = true then (
 (c3 (IntKind.wrap .i64 (i + 1)) c5 ∧ m64 (IntKind.wrap .i64 (i + 1)) c5 < m64 i H13))
 else
 R (.bool false) c5))
 else
 R (.bool true) H13)
 else
 R (.bool false) H11
namespace moraineref03_plain
theorem link {bp dC : Int} {bq : Bool} {az : Option Addr} {a0 ay : Nat} {dT : ByteArray} {cv : Option Addr} {cw cu : Nat} {H : Array Obj} {R : Value → Array Obj → Prop} (h : pt bp dC bq az a0 ay dT cv cw cu H R) : C bp dC bq az a0 ay dT cv cw cu H R := by
 refine T_en K0 100 Tryz.func20 ?_
 intro w0 Q hQ
 unfold pt at h
 refine T_su [(0, .agg (DR bp dC bq az a0 ay dT cv cw cu).toArray)] <| T_srz 0 <| T_nw (some 1) (fun b => vp (pa b)) (.cells (DR bp dC bq az a0 ay dT cv cw cu).toArray 27) ?_
 intro b H1 e1 e2
 replace h := h b H1 e1 e2
 refine ⟨[(1, vp (pa b))], pk, ?_⟩
 refine T_ed 1 [] [] <| T_sz <| T_srz 1 <| T_nd 1 [] [(6, vp (pa b))] ?_
 obtain ⟨x, q3, h⟩ := h
 refine T_l1 7 3 q3 [6] <| T_e <| T_bz 0 <| T_sz <| T_srz 2 <| T_ne 2 [(1, vp (pa b)), (7, vi x), (8, .bool (x == 0))] ?_
 obtain ⟨J, h, j5⟩ := h
 refine S_join (σ := Bool) (fun s_ => [(1, vp (pa b)), (7, vi x), (8, .bool s_)]) (fun s_ H => J s_ H) ?_ ?_
 ·rintro s8 H2 j6
  replace h := j5 s8 H2 j6
  refine T_su [(1, vp (pa b)), (7, vi x), (8, .bool s8)] ?_
  refine S_then ?_
  by_cases c7 : s8 = true
  ·rw [if_pos c7] at h
   have b8 : s8 = true := c7
   refine S_env [(1, vp (pa b)), (7, vi x), (8, .bool true)] (by rw [b8]) ?_
   clear b8
   refine T_tz 8 <| T_srz 7 <| T_ud [7, 8] [] ?_
   obtain ⟨bo, xC, a6, ax, av, aw, xT, cr, co, cq, q9, h⟩ := h
   refine T_lr 14 27 q9 [1] ?_
   refine T_c (some 15) h ?_; clear h
   rintro v H3 ⟨cn, rfl, h⟩
   refine ⟨[(15, .bool cn)], pk, ?_⟩
   exact T_nr 1 [2] [.bool cn] hQ h
  rw [if_neg c7] at h
  have b8 : s8 = false := eq_false_of_ne_true c7
  refine S_env [(1, vp (pa b)), (7, vi x), (8, .bool false)] (by rw [b8]) ?_
  clear b8
  refine T_fz 8 <| T_srz 8 <| T_ed 2 [8] [(16, .bool (x == 3))] ?_
  by_cases c10 : x = 3
  ·rw [if_pos c10] at h
   refine T_cTz 16 (beq_iff_eq.mpr c10) <| T_srz 9 <| T_ud [7, 16] [] ?_
   obtain ⟨ap, b1, an, ae, o, r, bx, bl, bg, bd, q12, h⟩ := h
   refine T_lr 18 27 q12 [] ?_
   refine T_c (some 19) h ?_; clear h
   rintro dc H4 ⟨cd, rfl, h⟩
   refine T_pd [18] [(19, .bool cd)] <| T_nd 1 [19] [(20, .bool cd)] ?_
   by_cases c13 : cd = true
   ·rw [if_pos c13] at h
    refine N_bd 20 c13 <| T_nd 1 [1] [(21, vp (some ((ad b).add 1)))] ?_
    obtain ⟨cp, q15, h⟩ := h
    refine T_l1 22 21 q15 [21] ?_
    refine T_c (some 23) h ?_; clear h
    rintro de H5 ⟨cm, rfl, h⟩
    exact T_pd [22] [(23, .bool cm)] <| T_nr 2 [2] [.bool cm] hQ h
   rw [if_neg c13] at h
   exact N_bd 20 (eq_false_of_ne_true c13) <| T_nr 5 [2] [.bool false] hQ h
  rw [if_neg c10] at h
  refine T_cFz 16 (beq_eq_false_iff_ne.mpr c10) <| T_srz 10 <| T_ed 2 [16] [(25, .bool (x == 4))] ?_
  by_cases c16 : x = 4
  ·rw [if_pos c16] at h
   refine T_cTz 25 (beq_iff_eq.mpr c16) <| T_srz 11 <| T_ud [7, 25] [] ?_
   obtain ⟨ao, b4, am, j, af, y, b0, bm, bb, a9, q18, h⟩ := h
   refine T_lr 27 27 q18 [] ?_
   refine T_c (some 28) h ?_; clear h
   rintro c6 H6 ⟨cg, rfl, h⟩
   refine T_pd [27] [(28, .bool cg)] <| T_nd 1 [28] [(29, .bool cg)] ?_
   by_cases c19 : cg = true
   ·rw [if_pos c19] at h
    refine N_bd 29 c19 <| T_nd 1 [1] [(30, vp (some ((ad b).add 2)))] ?_
    obtain ⟨b2, bi, bf, a5, q21, h⟩ := h
    refine T_lr 31 24 q21 [30] ?_
    refine T_c (some 32) h ?_; clear h
    rintro dd H7 ⟨cs, rfl, h⟩
    exact T_pd [31] [(32, .bool cs)] <| T_nr 2 [2] [.bool cs] hQ h
   rw [if_neg c19] at h
   exact N_bd 29 (eq_false_of_ne_true c19) <| T_nr 5 [2] [.bool false] hQ h
  rw [if_neg c16] at h
  refine T_cFz 25 (beq_eq_false_iff_ne.mpr c16) <| T_sz <| T_srz 12 <| T_ne 2 [(1, vp (pa b)), (7, vi x), (34, .bool (x == 5))] ?_
  obtain ⟨c4, h, j23⟩ := h
  refine S_join (σ := Bool) (fun s_ => [(1, vp (pa b)), (7, vi x), (34, .bool s_)]) (fun s_ H => c4 s_ H) ?_ ?_
  ·rintro cf H8 j24
   replace h := j23 cf H8 j24
   refine T_su [(1, vp (pa b)), (7, vi x), (34, .bool cf)] ?_
   refine S_then ?_
   by_cases c25 : cf = true
   ·rw [if_pos c25] at h
    have b26 : cf = true := c25
    refine S_env [(1, vp (pa b)), (7, vi x), (34, .bool true)] (by rw [b26]) ?_
    clear b26
    refine T_tz 34 <| T_srz 14 <| T_nd 1 [7, 34] [(38, vp (some ((ad b).add 4)))] ?_
    obtain ⟨cl, q27, h⟩ := h
    refine T_l1 39 9 q27 [38] ?_
    refine T_c (some 40) h ?_; clear h
    rintro da H9 ⟨f, d, e, rb, rfl, h⟩
    refine T_pd [39] [(40, .tuple #[vs f d e, .bool rb])] <| T_ed 5 [40] [(3, vs f d e), (4, .bool rb)] <| T_srz 15 ?_
    obtain ⟨ai, bz, aj, p, s, ab, b7, bh, bj, bc, q28, h⟩ := h
    refine T_lr 43 27 q28 [] ?_
    refine T_c (some 44) h ?_; clear h
    rintro c9 ct ⟨cc, rfl, h⟩
    refine T_pd [43] [(44, .bool cc)] <| T_nd 1 [44] [(45, .bool cc)] ?_
    by_cases c29 : cc = true
    ·rw [if_pos c29] at h
     refine N_bd 45 c29 <| T_nd 3 [4, 45] [(48, .bool rb)] ?_
     by_cases c31 : rb = true
     ·rw [if_pos c31] at h
      refine N_bd 48 c31 <| T_nd 5 [48] [(53, .bool (decide ((d : Int) ≤ 62)))] ?_
      by_cases c33 : (d : Int) ≤ 62
      ·rw [if_pos c33] at h
       refine N_bd 53 (decide_eq_true c33) <| T_nd 1 [1] [(54, vp (pa b))] ?_
       obtain ⟨g, q35, h⟩ := h
       refine T_l1 55 3 q35 [54] <| T_nd 2 [55] [(57, .bool (g == 5))] ?_
       refine N_cut [(2, .bool ((g == 5) || (decide ((d : Int) > 0))))] ?_ ?_
       ·refine S_then ?_
        exact T_ret [2] [.bool ((g == 5) || (decide ((d : Int) > 0)))] hQ h
       intro hk
       refine T_nu [(3, vs f d e), (53, .bool true), (57, .bool (g == 5))] ?_
       by_cases c36 : g = 5
       ·have b37 : (g == 5) = true := beq_iff_eq.mpr c36
        refine N_env [(3, vs f d e), (53, .bool true), (57, .bool true)] (by rw [b37]) ?_
        refine T_n 6 [(2, .bool true)] ?_
        refine N_end (by kernel_rfl) ?_
        refine S_env [(2, .bool ((g == 5) || (decide ((d : Int) > 0))))] (by simp only [b37, BL]) ?_
        exact hk
       have b37 : (g == 5) = false := beq_eq_false_iff_ne.mpr c36
       refine N_env [(3, vs f d e), (53, .bool true), (57, .bool false)] (by rw [b37]) ?_
       refine T_n 6 [(2, .bool (decide ((d : Int) > 0)))] ?_
       refine N_end (by kernel_rfl) ?_
       refine S_env [(2, .bool ((g == 5) || (decide ((d : Int) > 0))))] (by simp only [b37, BL]) ?_
       exact hk
      rw [if_neg c33] at h
      exact N_bd 53 (decide_eq_false c33) <| T_nr 10 [2] [.bool false] hQ h
     rw [if_neg c31] at h
     exact N_bd 48 (eq_false_of_ne_true c31) <| T_nr 15 [2] [.bool false] hQ h
    rw [if_neg c29] at h
    exact N_bd 45 (eq_false_of_ne_true c29) <| T_nr 18 [2] [.bool false] hQ h
   rw [if_neg c25] at h
   have b26 : cf = false := eq_false_of_ne_true c25
   refine S_env [(1, vp (pa b)), (7, vi x), (34, .bool false)] (by rw [b26]) ?_
   clear b26
   refine T_fz 34 <| T_sz <| T_srz 16 <| T_ne 2 [(1, vp (pa b)), (7, vi x), (63, .bool (x == 7))] ?_
   obtain ⟨c2, h, j39⟩ := h
   refine S_join (σ := Bool) (fun s_ => [(1, vp (pa b)), (63, .bool s_)]) (fun s_ H => c2 s_ H) ?_ ?_
   ·rintro ch H11 j40
    replace h := j39 ch H11 j40
    refine T_su [(1, vp (pa b)), (63, .bool ch)] ?_
    refine S_then ?_
    by_cases c41 : ch = true
    ·rw [if_pos c41] at h
     have b42 : ch = true := c41
     refine S_env [(1, vp (pa b)), (63, .bool true)] (by rw [b42]) ?_
     clear b42
     refine T_tz 63 <| T_sz <| T_sz ?_
     obtain ⟨ck, h, j44⟩ := h
     refine S_join (σ := Bool) (fun s_ => [(1, vp (pa b)), (85, .bool s_)]) (fun s_ H => ck s_ H) ?_ ?_
     ·rintro ce H12 j45
      replace h := j44 ce H12 j45
      refine T_su [(1, vp (pa b)), (85, .bool ce)] ?_
      refine S_then ?_
      by_cases c46 : ce = true
      ·rw [if_pos c46] at h
       have b47 : ce = true := c46
       refine S_env [(1, vp (pa b)), (85, .bool true)] (by rw [b47]) ?_
       clear b47
       exact T_tz 85 <| T_srz 19 <| T_nr 1 [2] [.bool false] hQ h
      rw [if_neg c46] at h
      have b47 : ce = false := eq_false_of_ne_true c46
      refine S_env [(1, vp (pa b)), (85, .bool false)] (by rw [b47]) ?_
      clear b47
      refine T_fz 85 <| T_kt <| T_sz <| T_srz 20 <| T_ed 1 [85] [(5, vi 0)] <| T_bz 1 ?_
      obtain ⟨c3, m64, i48, i49⟩ := h
      refine S_loop (x := K63) (σ := Int) (fun s_ => [(1, vp (pa b)), (5, vi s_)]) (fun s_ H => c3 s_ H) (fun s_ H => m64 s_ H) (0 : Int) (by kernel_rfl) i48 sk ?_
      rintro i H13 i50
      have h := i49 i H13 i50
      refine T_su [(1, vp (pa b)), (5, vi i)] <| T_sz <| T_srz 21 <| T_nd 2 [] [(86, vi i), (87, vp (some ((ad b).add 5)))] ?_
      obtain ⟨xB, xN, c0, q51, h⟩ := h
      refine T_l1 88 25 q51 [87] <| T_ed 2 [86, 88] [(90, .bool (decide (i < (xN : Int))))] ?_
      by_cases c52 : i < (xN : Int)
      ·rw [if_pos c52] at h
       refine T_cTz 90 (decide_eq_true c52) <| T_kt <| T_sz <| T_bz 2 <| T_srz 23 <| T_nd 1 [90] [(93, vp (some ((ad b).add 5)))] ?_
       obtain ⟨b9, a3, br, q54, h⟩ := h
       refine T_l1 94 25 q54 [93] <| T_nd 1 [] [(95, vi i)] ?_
       obtain ⟨a4, rfl, h⟩ := h
       obtain ⟨q55, h⟩ := h
       refine T_xd (some 96) 25 27 6 a4 a3 br .i64 i Tryz.underlying25 q55.1 q55.2 [94, 95] [(96, vp (some (a4.add (Int.toNat i * 6))))] ?_
       obtain ⟨ak, b6, ag, u, q, m, b3, be, bk, ba, q56, h⟩ := h
       refine T_lr 97 27 q56 [96] ?_
       refine T_c (some 98) h ?_; clear h
       rintro c8 c5 ⟨au, rfl, h⟩
       refine T_pd [97] [(98, .bool au)] <| T_ed 1 [98] [(99, .bool (!au))] ?_
       by_cases c57 : au = true
       ·rw [if_pos c57] at h
        refine T_cFz 99 (congrArg Bool.not (c57)) <| T_k ?_
        refine S_blockEnd ?_
        refine S_then ?_
        refine T_rz 22 <| T_ed 3 [5, 99] [(5, vi (IntKind.wrap .i64 (i + 1)))] ?_
        exact S_round ((IntKind.wrap .i64 (i + 1)) : Int) sk h
       rw [if_neg c57] at h
       exact T_cTz 99 (congrArg Bool.not (eq_false_of_ne_true c57)) <| T_srz 24 <| T_nr 1 [2] [.bool false] hQ h
      rw [if_neg c52] at h
      refine T_cFz 90 (decide_eq_false c52) ?_
      refine S_exit 1 (by kernel_rfl) ?_
      refine S_exitThen ?_
      refine S_exitThen ?_
      refine S_exitHere ?_
      refine S_then ?_
      exact T_srz 25 <| T_nr 1 [2] [.bool true] hQ h
     refine T_rz 18 <| T_nu [(1, vp (pa b))] ?_
     obtain ⟨al, bw, ah, ac, z, aa, b5, a7, a8, bn, q59, h⟩ := h
     refine T_lr 66 27 q59 [] ?_
     refine T_c (some 67) h ?_; clear h
     rintro db bu ⟨aq, rfl, h⟩
     refine T_pd [66] [(67, .bool aq)] <| T_nd 2 [67] [(69, .bool (!aq))] ?_
     by_cases c60 : aq = true
     ·rw [if_pos c60] at h
      have b61 : (!aq) = false := congrArg Bool.not (c60)
      have b612 : aq = true := c60
      refine N_bd 69 (b := (!aq)) (v := false) (by simp only [b61, b612, Bool.not_true, Bool.not_false]) ?_
      clear b61 b612
      refine T_nd 1 [] [(70, vp (pa b))] ?_
      obtain ⟨a1, q62, h⟩ := h
      refine T_l1 71 3 q62 [70] <| T_nd 2 [71] [(73, .bool (a1 == 7))] ?_
      by_cases c63 : a1 = 7
      ·rw [if_pos c63] at h
       refine N_bd 73 (beq_iff_eq.mpr c63) <| T_nd 1 [] [(74, vp (some ((ad b).add 5)))] ?_
       obtain ⟨cx, a2, c1, q65, h⟩ := h
       refine T_l1 75 25 q65 [74] <| T_nd 5 [69, 73, 75] [(80, .bool ((a2 : Int) != 2))] ?_
       by_cases c66 : (a2 : Int) = 2
       ·rw [if_pos c66] at h
        refine N_bd 80 (bne_eq_false_iff_eq.mpr c66) <| T_nd 1 [] [(81, vp (some ((ad b).add 5)))] ?_
        obtain ⟨cz, bs, cj, q68, h⟩ := h
        refine T_l1 82 25 q68 [81] <| T_ed 3 [80, 82] [(85, .bool (decide ((bs : Int) > 62)))] ?_
        exact S_meet ((decide ((bs : Int) > 62)) : Bool) sk h
       rw [if_neg c66] at h
       refine N_bd 80 (bne_iff_ne.mpr c66) <| T_ed 5 [80] [(85, .bool true)] ?_
       exact S_meet (true : Bool) sk h
      rw [if_neg c63] at h
      refine N_bd 73 (beq_eq_false_iff_ne.mpr c63) <| T_nd 8 [69, 73] [(80, .bool false), (81, vp (some ((ad b).add 5)))] ?_
      obtain ⟨cy, bt, ci, q69, h⟩ := h
      refine T_l1 82 25 q69 [81] <| T_ed 3 [80, 82] [(85, .bool (decide ((bt : Int) > 62)))] ?_
      exact S_meet ((decide ((bt : Int) > 62)) : Bool) sk h
     rw [if_neg c60] at h
     have b61 : (!aq) = true := congrArg Bool.not (eq_false_of_ne_true c60)
     have b612 : aq = false := eq_false_of_ne_true c60
     refine N_bd 69 (b := (!aq)) (v := true) (by simp only [b61, b612, Bool.not_true, Bool.not_false]) ?_
     clear b61 b612
     refine T_ed 16 [69] [(85, .bool true)] ?_
     exact S_meet (true : Bool) sk h
    rw [if_neg c41] at h
    have b42 : ch = false := eq_false_of_ne_true c41
    refine S_env [(1, vp (pa b)), (63, .bool false)] (by rw [b42]) ?_
    clear b42
    refine T_fz 63 <| T_k ?_
    refine S_blockEnd ?_
    refine S_then ?_
    exact T_srz 26 <| T_nr 1 [2] [.bool false] hQ h
   by_cases c70 : x = 7
   ·rw [if_pos c70] at h
    have b71 : (x == 7) = true := beq_iff_eq.mpr c70
    refine S_env [(1, vp (pa b)), (7, vi x), (63, .bool true)] (by simp only [b71, Bool.not_true, Bool.not_false]) ?_
    clear b71
    refine T_tz 63 <| T_kt ?_
    exact S_meet (true : Bool) sk h
   rw [if_neg c70] at h
   have b71 : (x == 7) = false := beq_eq_false_iff_ne.mpr c70
   refine S_env [(1, vp (pa b)), (7, vi x), (63, .bool false)] (by simp only [b71, Bool.not_true, Bool.not_false]) ?_
   clear b71
   refine T_fz 63 <| T_rz 17 <| T_ed 2 [7, 63] [(63, .bool (x == 8))] ?_
   exact S_meet ((x == 8) : Bool) sk h
  by_cases c72 : x = 5
  ·rw [if_pos c72] at h
   have b73 : (x == 5) = true := beq_iff_eq.mpr c72
   refine S_env [(1, vp (pa b)), (7, vi x), (34, .bool true)] (by simp only [b73, Bool.not_true, Bool.not_false]) ?_
   clear b73
   refine T_tz 34 <| T_kt ?_
   exact S_meet (true : Bool) sk h
  rw [if_neg c72] at h
  have b73 : (x == 5) = false := beq_eq_false_iff_ne.mpr c72
  refine S_env [(1, vp (pa b)), (7, vi x), (34, .bool false)] (by simp only [b73, Bool.not_true, Bool.not_false]) ?_
  clear b73
  refine T_fz 34 <| T_rz 13 <| T_ed 2 [34] [(34, .bool (x == 6))] ?_
  exact S_meet ((x == 6) : Bool) sk h
 by_cases c74 : x = 0
 ·rw [if_pos c74] at h
  have b75 : (x == 0) = true := beq_iff_eq.mpr c74
  refine S_env [(1, vp (pa b)), (7, vi x), (8, .bool true)] (by simp only [b75, Bool.not_true, Bool.not_false]) ?_
  clear b75
  refine T_tz 8 <| T_kt ?_
  exact S_meet (true : Bool) sk h
 rw [if_neg c74] at h
 have b75 : (x == 0) = false := beq_eq_false_iff_ne.mpr c74
 refine S_env [(1, vp (pa b)), (7, vi x), (8, .bool false)] (by simp only [b75, Bool.not_true, Bool.not_false]) ?_
 clear b75
 refine T_fz 8 <| T_srz 3 <| T_ed 2 [8] [(8, .bool (x == 1))] ?_
 by_cases c76 : x = 1
 ·rw [if_pos c76] at h
  refine S_bd 8 (beq_iff_eq.mpr c76) <| T_tz 8 <| T_kt ?_
  exact S_meet (true : Bool) sk h
 rw [if_neg c76] at h
 refine S_bd 8 (beq_eq_false_iff_ne.mpr c76) <| T_fz 8 <| T_srz 4 <| T_ed 2 [8] [(8, .bool (x == 2))] ?_
 by_cases c78 : x = 2
 ·rw [if_pos c78] at h
  refine S_bd 8 (beq_iff_eq.mpr c78) <| T_tz 8 <| T_kt ?_
  exact S_meet (true : Bool) sk h
 rw [if_neg c78] at h
 refine S_bd 8 (beq_eq_false_iff_ne.mpr c78) <| T_fz 8 <| T_srz 5 <| T_ed 2 [8] [(8, .bool (x == 9))] ?_
 by_cases c80 : x = 9
 ·rw [if_pos c80] at h
  refine S_bd 8 (beq_iff_eq.mpr c80) <| T_tz 8 <| T_kt ?_
  exact S_meet (true : Bool) sk h
 rw [if_neg c80] at h
 refine S_bd 8 (beq_eq_false_iff_ne.mpr c80) <| T_fz 8 <| T_rz 6 <| T_ed 2 [8] [(8, .bool (x == 10))] ?_
 exact S_meet ((x == 10) : Bool) sk h
end moraineref03_plain

/-! moraine/moraineref03.Depth -/
namespace moraineref03_Depth
def K0 := Func.code Tryz.f21
def K2 := cb K0
def K4 := cb K2
def K5 := ca K4
def K8 := cb K5
def K9 := ca K8
def K10 := ca K9
end moraineref03_Depth
def moraineref03_Depth.pt (z dC : Int) (aa : Bool) (j : Option Addr) (m g : Nat) (dT : ByteArray) (ap : Option Addr) (aq ao : Nat) (H : Array Obj) (R : Value → Array Obj → Prop) : Prop :=
 ∀ (b : Nat) (H1 : Array Obj), b = H.size → H1 = H.push (.cells (DR z dC aa j m g dT ap aq ao).toArray 27) →
 ∃ (ak : Int → Int → Array Obj → Prop) (m11 : Int → Int → Array Obj → Nat), ak 0 0 H1 ∧ ∀ (nv : Int) (i : Int) (H2 : Array Obj), ak nv i H2 →
 ∃ (xB : Option Addr) (xN xC : Nat), hat H2 ((ad b).add 5) = some (.slice xB xN xC) ∧
 if i < (xN : Int) then (
 ∃ (aj : Option Addr) (q ac : Nat), hat H2 ((ad b).add 5) = some (.slice aj q ac) ∧
 ∃ s : Addr, aj = some s ∧
 ((0 : Int) ≤ i ∧ i < (q : Int)) ∧
 ∃ y ai u e d f xT an al am, RowAt H2 (s.add (Int.toNat i * 6)) 0 (DR y ai u e d f xT an al am) ∧
 moraineref03_Depth.C y ai u e d f xT an al am H2 (fun v H3 => ∃ x : Int, v = .int .i64 x ∧ 
 ∃ ae : Int, hat H3 (ad b) = some (.int .i64 ae) ∧
 if ae = 7 then (
 ∃ (au : Option Addr) (o av : Nat), hat H3 ((ad b).add 5) = some (.slice au o av) ∧
 if i = (IntKind.wrap .i64 ((o : Int) - 1)) then (
 ∃ (ah : Option Addr) (r ab : Nat), hat H3 ((ad b).add 5) = some (.slice ah r ab) ∧
 ∃ p : Addr, ah = some p ∧
 ((0 : Int) ≤ i ∧ i < (r : Int)) ∧
 ∃ af : Int, hat H3 (p.add (Int.toNat i * 6)) = some (.int .i64 af) ∧
 if af = 7 then (
 (ak (if nv < x then x else nv) (IntKind.wrap .i64 (i + 1)) H3 ∧ m11 (if nv < x then x else nv) (IntKind.wrap .i64 (i + 1)) H3 < m11 nv i H2))
 else
 (ak (if nv < (IntKind.wrap .i64 (x + 1)) then (IntKind.wrap .i64 (x + 1)) else nv) (IntKind.wrap .i64 (i + 1)) H3 ∧ m11 (if nv < (IntKind.wrap .i64 (x + 1)) then (IntKind.wrap .i64 (x + 1)) else nv) (IntKind.wrap .i64 (i + 1)) H3 < m11 nv i H2))
 else
 (ak (if nv < (IntKind.wrap .i64 (x + 1)) then (IntKind.wrap .i64 (x + 1)) else nv) (IntKind.wrap .i64 (i + 1)) H3 ∧ m11 (if nv < (IntKind.wrap .i64 (x + 1)) then (IntKind.wrap .i64 (x + 1)) else nv) (IntKind.wrap .i64 (i + 1)) H3 < m11 nv i H2))
 else
 (ak (if nv < (IntKind.wrap .i64 (x + 1)) then (IntKind.wrap .i64 (x + 1)) else nv) (IntKind.wrap .i64 (i + 1)) H3 ∧ m11 (if nv < (IntKind.wrap .i64 (x + 1)) then (IntKind.wrap .i64 (x + 1)) else nv) (IntKind.wrap .i64 (i + 1)) H3 < m11 nv i H2)))
 else
 ∃ ag : Int, hat H2 (ad b) = some (.int .i64 ag) ∧
 if ag = 8 then (
 R (.int .i64 (if nv < 1 then 1 else nv)) H2)
 else
 R (.int .i64 nv) H2
namespace moraineref03_Depth
theorem link {z dC : Int} {aa : Bool} {j : Option Addr} {m g : Nat} {dT : ByteArray} {ap : Option Addr} {aq ao : Nat} {H : Array Obj} {R : Value → Array Obj → Prop} (h : pt z dC aa j m g dT ap aq ao H R) : C z dC aa j m g dT ap aq ao H R := by
 refine T_en K0 52 Tryz.func21 ?_
 intro w0 Q hQ
 unfold pt at h
 refine T_su [(0, .agg (DR z dC aa j m g dT ap aq ao).toArray)] <| T_srz 0 <| T_nw (some 1) (fun b => vp (pa b)) (.cells (DR z dC aa j m g dT ap aq ao).toArray 27) ?_
 intro b H1 e1 e2
 replace h := h b H1 e1 e2
 refine ⟨[(1, vp (pa b))], pk, ?_⟩
 refine T_ed 1 [] [] <| T_srz 1 <| T_ed 1 [] [(3, vi 0)] <| T_sz <| T_srz 2 <| T_ed 1 [] [(4, vi 0)] <| T_bz 0 ?_
 obtain ⟨ak, m11, i3, i4⟩ := h
 refine S_loop (x := K10) (σ := Int × Int) (fun s_ => [(1, vp (pa b)), (3, vi s_.1), (4, vi s_.2)]) (fun s_ H => ak s_.1 s_.2 H) (fun s_ H => m11 s_.1 s_.2 H) ((0, 0) : Int × Int) (by kernel_rfl) i3 sk ?_
 rintro ⟨nv, i⟩ H2 i5
 have h := i4 nv i H2 i5
 refine T_su [(1, vp (pa b)), (3, vi nv), (4, vi i)] <| T_sz <| T_srz 3 <| T_nd 2 [] [(6, vi i), (7, vp (some ((ad b).add 5)))] ?_
 obtain ⟨xB, xN, xC, q6, h⟩ := h
 refine T_l1 8 25 q6 [7] <| T_ed 2 [6, 8] [(10, .bool (decide (i < (xN : Int))))] ?_
 by_cases c7 : i < (xN : Int)
 ·rw [if_pos c7] at h
  refine T_cTz 10 (decide_eq_true c7) <| T_kt <| T_sz <| T_bz 1 <| T_srz 5 <| T_nd 1 [10] [(13, vp (some ((ad b).add 5)))] ?_
  obtain ⟨aj, q, ac, q9, h⟩ := h
  refine T_l1 14 25 q9 [13] <| T_nd 1 [] [(15, vi i)] ?_
  obtain ⟨s, rfl, h⟩ := h
  obtain ⟨q10, h⟩ := h
  refine T_xd (some 16) 25 27 6 s q ac .i64 i Tryz.underlying25 q10.1 q10.2 [14, 15] [(16, vp (some (s.add (Int.toNat i * 6))))] ?_
  obtain ⟨y, ai, u, e, d, f, xT, an, al, am, q11, h⟩ := h
  refine T_lr 17 27 q11 [16] ?_
  refine T_c (some 18) h ?_; clear h
  rintro v H3 ⟨x, rfl, h⟩
  refine T_pd [17] [(18, vi x)] <| T_ed 1 [18] [(5, vi x)] <| T_srz 6 <| T_nd 1 [] [(19, vp (pa b))] ?_
  obtain ⟨ae, q12, h⟩ := h
  refine T_l1 20 3 q12 [19] <| T_nd 2 [20] [(22, .bool (ae == 7))] ?_
  by_cases c13 : ae = 7
  ·rw [if_pos c13] at h
   refine N_bd 22 (beq_iff_eq.mpr c13) <| T_nd 2 [] [(23, vi i), (24, vp (some ((ad b).add 5)))] ?_
   obtain ⟨au, o, av, q15, h⟩ := h
   refine T_l1 25 25 q15 [24] <| T_nd 5 [22, 23, 25] [(30, .bool (i == (IntKind.wrap .i64 ((o : Int) - 1))))] ?_
   by_cases c16 : i = (IntKind.wrap .i64 ((o : Int) - 1))
   ·rw [if_pos c16] at h
    refine N_bd 30 (beq_iff_eq.mpr c16) <| T_nd 1 [] [(31, vp (some ((ad b).add 5)))] ?_
    obtain ⟨ah, r, ab, q18, h⟩ := h
    refine T_l1 32 25 q18 [31] <| T_nd 1 [] [(33, vi i)] ?_
    obtain ⟨p, rfl, h⟩ := h
    obtain ⟨q19, h⟩ := h
    refine T_xd (some 34) 25 27 6 p r ab .i64 i Tryz.underlying25 q19.1 q19.2 [32, 33] [(34, vp (some (p.add (Int.toNat i * 6))))] <| T_nd 1 [34] [(35, vp (some (p.add (Int.toNat i * 6))))] ?_
    obtain ⟨af, q20, h⟩ := h
    refine T_l1 36 3 q20 [35] <| T_ed 2 [30, 36] [(38, .bool (af == 7))] ?_
    by_cases c21 : af = 7
    ·rw [if_pos c21] at h
     refine T_cTz 38 (beq_iff_eq.mpr c21) <| T_rz 7 <| T_nd 4 [3, 5, 38] [(3, vi (if nv < x then x else nv))] ?_
     refine N_end (by kernel_rfl) ?_
     refine S_blockEnd ?_
     refine S_then ?_
     refine T_rz 4 <| T_ed 3 [4] [(4, vi (IntKind.wrap .i64 (i + 1)))] ?_
     exact S_round (((if nv < x then x else nv), (IntKind.wrap .i64 (i + 1))) : Int × Int) sk h
    rw [if_neg c21] at h
    refine T_cFz 38 (beq_eq_false_iff_ne.mpr c21) <| T_rz 8 <| T_nd 5 [3, 5, 38] [(3, vi (if nv < (IntKind.wrap .i64 (x + 1)) then (IntKind.wrap .i64 (x + 1)) else nv))] ?_
    refine N_end (by kernel_rfl) ?_
    refine S_blockEnd ?_
    refine S_then ?_
    refine T_rz 4 <| T_ed 3 [4] [(4, vi (IntKind.wrap .i64 (i + 1)))] ?_
    exact S_round (((if nv < (IntKind.wrap .i64 (x + 1)) then (IntKind.wrap .i64 (x + 1)) else nv), (IntKind.wrap .i64 (i + 1))) : Int × Int) sk h
   rw [if_neg c16] at h
   refine N_bd 30 (beq_eq_false_iff_ne.mpr c16) <| T_ed 8 [30] [(38, .bool false)] <| T_fz 38 <| T_rz 8 <| T_nd 5 [3, 5, 38] [(3, vi (if nv < (IntKind.wrap .i64 (x + 1)) then (IntKind.wrap .i64 (x + 1)) else nv))] ?_
   refine N_end (by kernel_rfl) ?_
   refine S_blockEnd ?_
   refine S_then ?_
   refine T_rz 4 <| T_ed 3 [4] [(4, vi (IntKind.wrap .i64 (i + 1)))] ?_
   exact S_round (((if nv < (IntKind.wrap .i64 (x + 1)) then (IntKind.wrap .i64 (x + 1)) else nv), (IntKind.wrap .i64 (i + 1))) : Int × Int) sk h
  rw [if_neg c13] at h
  refine N_bd 22 (beq_eq_false_iff_ne.mpr c13) <| T_ed 16 [22] [(38, .bool false)] <| T_fz 38 <| T_rz 8 <| T_nd 5 [3, 5, 38] [(3, vi (if nv < (IntKind.wrap .i64 (x + 1)) then (IntKind.wrap .i64 (x + 1)) else nv))] ?_
  refine N_end (by kernel_rfl) ?_
  refine S_blockEnd ?_
  refine S_then ?_
  refine T_rz 4 <| T_ed 3 [4] [(4, vi (IntKind.wrap .i64 (i + 1)))] ?_
  exact S_round (((if nv < (IntKind.wrap .i64 (x + 1)) then (IntKind.wrap .i64 (x + 1)) else nv), (IntKind.wrap .i64 (i + 1))) : Int × Int) sk h
 rw [if_neg c7] at h
 refine T_cFz 10 (decide_eq_false c7) ?_
 refine S_exit 0 (by kernel_rfl) ?_
 refine S_exitThen ?_
 refine S_exitThen ?_
 refine S_exitHere ?_
 refine S_then ?_
 refine T_sz <| T_srz 9 <| T_n 1 [(3, vi nv), (46, vp (pa b))] ?_
 obtain ⟨ag, q23, h⟩ := h
 refine T_l1 47 3 q23 [46] <| T_ed 1 [47] [(48, .bool (ag == 8))] ?_
 by_cases c24 : ag = 8
 ·rw [if_pos c24] at h
  exact T_cTz 48 (beq_iff_eq.mpr c24) <| T_rz 10 <| T_ne 3 [(3, vi (if nv < 1 then 1 else nv))] <| T_srz 11 <| T_nr 2 [2] [vi (if nv < 1 then 1 else nv)] hQ h
 rw [if_neg c24] at h
 exact T_cFz 48 (beq_eq_false_iff_ne.mpr c24) <| T_kt <| T_srz 11 <| T_nr 2 [2] [vi nv] hQ h
end moraineref03_Depth

/-! moraine/moraineref03.List -/
namespace moraineref03_List
def K0 := Func.code Tryz.f22
def K2 := cb K0
def K4 := cb K2
def K5 := ca K4
def K8 := cb K5
def K9 := ca K8
def K10 := ca K9
def K12 := cb K10
def K17 := ca K12
def K19 := ca K17
end moraineref03_List
def moraineref03_List.pt (lB : Option Addr) (lN lC : Nat) (H : Array Obj) (R : Value → Array Obj → Prop) : Prop :=
 ∀ (b : Nat) (H1 : Array Obj), b = H.size → H1 = H.push (.cells (DR 0 0 false none 0 0 (ByteArray.mk #[]) none 0 0).toArray 27) →
 ∀ (d : Nat) (H2 : Array Obj), d = H1.size → H2 = H1.push (.cells (DR 0 0 false none 0 0 (ByteArray.mk #[]) none 0 0).toArray 27) →
 (CanPuts H2 (ad d) 0 6) ∧ ∀ H3, H3 = hputs H2 (ad d) (DR 0 0 false none 0 0 (ByteArray.mk #[]) none 0 0) 0 →
 ∃ (az : Int → Array Obj → Prop) (m11 : Int → Array Obj → Nat), az (IntKind.wrap .i64 ((lN : Int) - 1)) H3 ∧ ∀ (i : Int) (H4 : Array Obj), az i H4 →
 if i ≥ 0 then (
 ∃ f : Addr, lB = some f ∧
 ((0 : Int) ≤ i ∧ i < (lN : Int)) ∧
 ∃ ae xC ac y v z xT aw au av, RowAt H4 (f.add (Int.toNat i * 6)) 0 (DR ae xC ac y v z xT aw au av) ∧
 ∃ s an u m o p am ah ai ag, RowAt H4 (ad d) 0 (DR s an u m o p am ah ai ag) ∧
 ∀ (ak : Nat) (H5 : Array Obj), ak = H4.size → H5 = H4.push (.cells #[.int .i64 ae, .int .i32 xC, .bool ac, .slice y v z, .string xT, .slice aw au av, .int .i64 s, .int .i32 an, .bool u, .slice m o p, .string am, .slice ah ai ag] 27) → 
 (CanPuts H5 (ad d) 0 6) ∧ ∀ H6, H6 = hputs H5 (ad d) (DR 7 0 false none 0 0 (ByteArray.mk #[]) (some (ad ak)) 2 2) 0 → 
 (az (IntKind.wrap .i64 (i - 1)) H6 ∧ m11 (IntKind.wrap .i64 (i - 1)) H6 < m11 i H4))
 else
 ∃ q aj r e j g al ab af aa, RowAt H4 (ad d) 0 (DR q aj r e j g al ab af aa) ∧
 (CanPuts H4 (ad b) 0 6) ∧ ∀ H7, H7 = hputs H4 (ad b) (DR q aj r e j g al ab af aa) 0 →
 ∃ ax rC ay aq ao ap rT a2 a1 a0, RowAt H7 (ad b) 0 (DR ax rC ay aq ao ap rT a2 a1 a0) ∧
 R (.agg (DR ax rC ay aq ao ap rT a2 a1 a0).toArray) H7
namespace moraineref03_List
theorem link {lB : Option Addr} {lN lC : Nat} {H : Array Obj} {R : Value → Array Obj → Prop} (h : pt lB lN lC H R) : C lB lN lC H R := by
 refine T_en K0 21 Tryz.func22 ?_
 intro w0 Q hQ
 unfold pt at h
 refine T_su [(0, vs lB lN lC)] <| T_srz 0 <| T_nw (some 2) (fun b => vp (pa b)) (.cells (DR 0 0 false none 0 0 (ByteArray.mk #[]) none 0 0).toArray 27) ?_
 intro b H1 e1 e2
 replace h := h b H1 e1 e2
 refine T_pd [] [(2, vp (pa b))] <| T_e <| T_srz 1 <| T_nd 1 [] [(5, .agg (DR 0 0 false none 0 0 (ByteArray.mk #[]) none 0 0).toArray)] <| T_nw (some 3) (fun b => vp (pa b)) (.cells (DR 0 0 false none 0 0 (ByteArray.mk #[]) none 0 0).toArray 27) ?_
 intro d H2 e3 e4
 replace h := h d H2 e3 e4
 refine T_pd [] [(3, vp (pa d))] ?_
 obtain ⟨q6, h⟩ := h
 refine T_sta 27 (DR 0 0 false none 0 0 (ByteArray.mk #[]) none 0 0) q6 ?_
 intro H3 e5
 replace h := h H3 e5
 refine T_pd [5] [] <| T_e <| T_sz <| T_srz 2 <| T_ed 4 [] [(4, vi (IntKind.wrap .i64 ((lN : Int) - 1)))] <| T_bz 0 ?_
 obtain ⟨az, m11, i7, i8⟩ := h
 refine S_loop (x := K10) (σ := Int) (fun s_ => [(0, vs lB lN lC), (2, vp (pa b)), (3, vp (pa d)), (4, vi s_)]) (fun s_ H => az s_ H) (fun s_ H => m11 s_ H) ((IntKind.wrap .i64 ((lN : Int) - 1)) : Int) (by kernel_rfl) i7 sk ?_
 rintro i H4 i9
 have h := i8 i H4 i9
 refine T_su [(0, vs lB lN lC), (2, vp (pa b)), (3, vp (pa d)), (4, vi i)] <| T_sz <| T_srz 3 <| T_ed 2 [] [(10, .bool (decide (i ≥ 0)))] ?_
 by_cases c10 : i ≥ 0
 ·rw [if_pos c10] at h
  refine T_cTz 10 (decide_eq_true c10) <| T_kt <| T_sz <| T_bz 1 ?_
  obtain ⟨f, rfl, h⟩ := h
  obtain ⟨q12, h⟩ := h
  obtain ⟨ae, xC, ac, y, v, z, xT, aw, au, av, q13, h⟩ := h
  obtain ⟨s, an, u, m, o, p, am, ah, ai, ag, q14, h⟩ := h
  refine S_regionG 5 (Code.ops K19) [(5, (f.add (Int.toNat i * 6)), (DR ae xC ac y v z xT aw au av)), (5, (ad d), (DR s an u m o p am ah ai ag))] 8 (bv 8 0) (by kernel_rfl) (by kernel_rfl) (by kernel_rfl) (by kernel_rfl) (by kernel_rfl) (show FactsAt _ _ _ from ⟨q13, q14, trivial⟩) ?_
  refine T_gp 0 (some 13) (vs (some f) lN lC) (bv 8 1) [(0, vs (some f) lN lC), (2, vp (pa b)), (3, vp (pa d)), (4, vi i), (13, vs (some f) lN lC)] <| T_gp1 1 14 (vi i) (bv 8 3) [] <| T_g1 2 15 (vp (some (f.add (Int.toNat i * 6)))) (bv 8 7) [13, 14] (indexAtN 25 (vs (some f) lN lC) (vi i)) (fun _ w _ _ _ => indexAt_run (P := Tryz.prog) (t := 25) (elem := 27) (sz := 6) (a := f) (len := lN) (cap := lC) (k := .i64) (i := i) Tryz.underlying25 (fun _=>by kernel_rfl) q12.1 q12.2 w) <| T_g1 3 16 (.agg (DR ae xC ac y v z xT aw au av).toArray) (bv 8 15) [15] (loadN 27 (vp (some (f.add (Int.toNat i * 6))))) (held_row 5 (fun _=>by kernel_rfl) (fun _=>by kernel_rfl) (List.Mem.head _) (.inl (by kernel_rfl))) <| T_g1 4 17 (.agg (DR s an u m o p am ah ai ag).toArray) (bv 8 31) [] (loadN 27 (vp (pa d))) (held_row 5 (fun _=>by kernel_rfl) (fun _=>by kernel_rfl) (List.Mem.tail _ (List.Mem.head _)) (.inl (by kernel_rfl))) ?_
  refine G_new 5 (some 18) (bv 8 63) (fun b => vs (pa b) 2 2) (.cells #[vi ae, .int .i32 xC, .bool ac, vs y v z, .string xT, vs aw au av, vi s, .int .i32 an, .bool u, vs m o p, .string am, vs ah ai ag] 27) (by kernel_rfl) (fun _=>by kernel_rfl) (by kernel_rfl) ?_
  intro ak H5 e15 e16
  replace h := h ak H5 e15 e16
  refine ⟨[(0, vs (some f) lN lC), (2, vp (pa b)), (3, vp (pa d)), (4, vi i), (18, vs (pa ak) 2 2)], pk, (show FactsAt _ _ _ from ⟨trivial, trivial, trivial⟩), ?_⟩
  refine T_g 6 (some 19) (.agg (DR 7 0 false none 0 0 (ByteArray.mk #[]) (pa ak) 2 2).toArray) (bv 8 127) [(0, vs (some f) lN lC), (2, vp (pa b)), (3, vp (pa d)), (4, vi i), (19, .agg (DR 7 0 false none 0 0 (ByteArray.mk #[]) (pa ak) 2 2).toArray)] (pure (.value (.agg (DR 7 0 false none 0 0 (ByteArray.mk #[]) (pa ak) 2 2).toArray)) : Sem Next) (fun _ _ _ _ _ => rfl) ?_
  obtain ⟨q18, h⟩ := h
  refine G_onlyskip 7 none (bv 8 255) (storeN 27 (vp (pa d)) (.agg (DR 7 0 false none 0 0 (ByteArray.mk #[]) (pa ak) 2 2).toArray)) (fun Hz => Hz = hputs H5 (ad d) (DR 7 0 false none 0 0 (ByteArray.mk #[]) (pa ak) 2 2) 0) (by kernel_rfl) (fun _=>by kernel_rfl) (ss_store (DR 7 0 false none 0 0 (ByteArray.mk #[]) (pa ak) 2 2) 6 (by kernel_rfl) (by kernel_rfl) (fun _=>by kernel_rfl) (by kernel_rfl) q18) (by kernel_rfl) ?_
  intro H6 e17
  replace h := h H6 e17
  refine ⟨[(0, vs (some f) lN lC), (2, vp (pa b)), (3, vp (pa d)), (4, vi i)], pk, (show FactsAt _ _ _ from ⟨trivial, trivial, trivial⟩), ?_⟩
  refine G_sub [(0, vs (some f) lN lC), (2, vp (pa b)), (3, vp (pa d)), (4, vi i)] sk ?_
  refine G_end (by kernel_rfl) ?_
  refine S_blockEnd ?_
  refine S_then ?_
  refine T_rz 4 <| T_ne 3 [(0, vs (some f) lN lC), (2, vp (pa b)), (3, vp (pa d)), (4, vi (IntKind.wrap .i64 (i - 1)))] ?_
  exact S_round ((IntKind.wrap .i64 (i - 1)) : Int) sk h
 rw [if_neg c10] at h
 refine T_cFz 10 (decide_eq_false c10) ?_
 refine S_exit 0 (by kernel_rfl) ?_
 refine S_exitThen ?_
 refine S_exitThen ?_
 refine S_exitHere ?_
 refine S_then ?_
 refine T_srz 6 <| T_ud [0, 4, 10] [] ?_
 obtain ⟨q, aj, r, e, j, g, al, ab, af, aa, q19, h⟩ := h
 refine T_lr 20 27 q19 [3] ?_
 obtain ⟨q21, h⟩ := h
 refine T_sta 27 (DR q aj r e j g al ab af aa) q21 ?_
 intro H7 e20
 replace h := h H7 e20
 refine T_pd [20] [] <| T_e ?_
 refine S_ret (by kernel_rfl) ?_
 show At _ _ _ _ _ (Q .ret)
 obtain ⟨ax, rC, ay, aq, ao, ap, rT, a2, a1, a0, q22, h⟩ := h
 exact S_done (fn := Tryz.f22) [.agg (DR ax rC ay aq ao ap rT a2 a1 a0).toArray] hQ (show ResOK _ _ _ [.cell 2 27] _ from .cell (by kernel_rfl) (loadOK_row (fun _=>by kernel_rfl) (fun _=>by kernel_rfl) q22) (.nil)) h
end moraineref03_List

end Go.Proofs.YtdgejifkcfgliaaGreatDoor
