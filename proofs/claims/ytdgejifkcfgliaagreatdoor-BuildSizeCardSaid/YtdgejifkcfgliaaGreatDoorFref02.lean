/- Printed: what each function asks, and that it is sound. -/
import Derived.Test.YtdgejifkcfgliaaGreatDoorFnsC
set_option linter.unusedSimpArgs false
set_option linter.unusedVariables false
set_option maxRecDepth 100000
set_option maxHeartbeats 1000000
noncomputable section
namespace Go.Proofs.YtdgejifkcfgliaaGreatDoor
open Go
/-! moraine/moraineref02.Same -/
namespace moraineref02_Same
def K0 := Func.code Tryz.f35
def K2 := cb K0
def K4 := cb K2
def K9 := ca K4
def K12 := cb K9
def K13 := ca K12
def K14 := ca K13
end moraineref02_Same
def moraineref02_Same.pt (ah : Bool) (y : Option Addr) (v z : Nat) (ac : Bool) (j : Option Addr) (m o : Nat) (H : Array Obj) (R : Value → Array Obj → Prop) : Prop :=
 ∀ (b : Nat) (H1 : Array Obj), b = H.size → H1 = H.push (.cells #[.bool ah, .slice y v z] 24) →
 ∀ (d : Nat) (H2 : Array Obj), d = H1.size → H2 = H1.push (.cells #[.bool ac, .slice j m o] 24) →
 ∃ x : Bool, hat H2 (ad b) = some (.bool x) ∧
 ∃ ae : Bool, hat H2 (ad d) = some (.bool ae) ∧
 if x = ae then (
 ∃ (xB : Option Addr) (xN xC : Nat), hat H2 ((ad b).add 1) = some (.slice xB xN xC) ∧
 ∃ (ak : Option Addr) (f al : Nat), hat H2 ((ad d).add 1) = some (.slice ak f al) ∧
 if (xN : Int) = (f : Int) then (
 ∃ (am : Int → Array Obj → Prop) (m15 : Int → Array Obj → Nat), am 0 H2 ∧ ∀ (i : Int) (H3 : Array Obj), am i H3 →
 ∃ (ai : Option Addr) (g aj : Nat), hat H3 ((ad b).add 1) = some (.slice ai g aj) ∧
 if i < (g : Int) then (
 ∃ (af : Option Addr) (p ab : Nat), hat H3 ((ad b).add 1) = some (.slice af p ab) ∧
 ∃ s : Addr, af = some s ∧
 ((0 : Int) ≤ i ∧ i < (p : Int)) ∧
 ∃ e : Int, hat H3 (s.add (Int.toNat i * 1)) = some (.int .u32 e) ∧
 ∃ (ag : Option Addr) (q aa : Nat), hat H3 ((ad d).add 1) = some (.slice ag q aa) ∧
 ∃ u : Addr, ag = some u ∧
 ((0 : Int) ≤ i ∧ i < (q : Int)) ∧
 ∃ r : Int, hat H3 (u.add (Int.toNat i * 1)) = some (.int .u32 r) ∧
 if e = r then (
 (am (IntKind.wrap .i64 (i + 1)) H3 ∧ m15 (IntKind.wrap .i64 (i + 1)) H3 < m15 i H3))
 else
 R (.bool false) H3)
 else
 R (.bool true) H3)
 else
 R (.bool false) H2)
 else
 R (.bool false) H2
namespace moraineref02_Same
theorem link {ah : Bool} {y : Option Addr} {v z : Nat} {ac : Bool} {j : Option Addr} {m o : Nat} {H : Array Obj} {R : Value → Array Obj → Prop} (h : pt ah y v z ac j m o H R) : C ah y v z ac j m o H R := by
 refine T_en K0 38 Tryz.func35 ?_
 intro w0 Q hQ
 unfold pt at h
 refine T_su [(0, .agg #[.bool ah, vs y v z]), (1, .agg #[.bool ac, vs j m o])] <| T_srz 0 <| T_nw (some 2) (fun b => vp (pa b)) (.cells #[.bool ah, vs y v z] 24) ?_
 intro b H1 e1 e2
 replace h := h b H1 e1 e2
 refine T_pd [0] [(2, vp (pa b))] <| T_nw (some 3) (fun b => vp (pa b)) (.cells #[.bool ac, vs j m o] 24) ?_
 intro d H2 e3 e4
 replace h := h d H2 e3 e4
 refine T_pd [1] [(3, vp (pa d))] <| T_ed 1 [] [] <| T_sz <| T_srz 1 <| T_nd 1 [] [(6, vp (pa b))] ?_
 obtain ⟨x, q5, h⟩ := h
 refine T_l1 7 4 q5 [6] <| T_nd 1 [] [(8, vp (pa d))] ?_
 obtain ⟨ae, q6, h⟩ := h
 refine T_l1 9 4 q6 [8] <| T_nd 2 [7, 9] [(11, .bool (!(x == ae)))] ?_
 by_cases c7 : x = ae
 ·rw [if_pos c7] at h
  refine N_bd 11 (congrArg Bool.not (beq_iff_eq.mpr c7)) <| T_nd 1 [] [(12, vp (some ((ad b).add 1)))] ?_
  obtain ⟨xB, xN, xC, q9, h⟩ := h
  refine T_l1 13 22 q9 [12] <| T_nd 2 [13] [(14, vi xN), (15, vp (some ((ad d).add 1)))] ?_
  obtain ⟨ak, f, al, q10, h⟩ := h
  refine T_l1 16 22 q10 [15] <| T_ed 3 [11, 14, 16] [(19, .bool ((xN : Int) != (f : Int)))] ?_
  by_cases c11 : (xN : Int) = (f : Int)
  ·rw [if_pos c11] at h
   refine T_cFz 19 (bne_eq_false_iff_eq.mpr c11) <| T_kt <| T_sz <| T_srz 3 <| T_ed 1 [19] [(5, vi 0)] <| T_bz 0 ?_
   obtain ⟨am, m15, i13, i14⟩ := h
   refine S_loop (x := K14) (σ := Int) (fun s_ => [(2, vp (pa b)), (3, vp (pa d)), (5, vi s_)]) (fun s_ H => am s_ H) (fun s_ H => m15 s_ H) (0 : Int) (by kernel_rfl) i13 sk ?_
   rintro i H3 i15
   have h := i14 i H3 i15
   refine T_su [(2, vp (pa b)), (3, vp (pa d)), (5, vi i)] <| T_sz <| T_srz 4 <| T_nd 2 [] [(20, vi i), (21, vp (some ((ad b).add 1)))] ?_
   obtain ⟨ai, g, aj, q16, h⟩ := h
   refine T_l1 22 22 q16 [21] <| T_ed 2 [20, 22] [(24, .bool (decide (i < (g : Int))))] ?_
   by_cases c17 : i < (g : Int)
   ·rw [if_pos c17] at h
    refine T_cTz 24 (decide_eq_true c17) <| T_kt <| T_sz <| T_bz 1 <| T_sz <| T_rqz 6 <| T_q1 27 (vp (some ((ad b).add 1))) [24] ?_
    obtain ⟨af, p, ab, q19, h⟩ := h
    refine T_qld (some 28) 22 q19 [27] [(28, vs af p ab)] <| T_q1 29 (vi i) [] ?_
    obtain ⟨s, rfl, h⟩ := h
    obtain ⟨q20, h⟩ := h
    refine Q_op (some 30) (indexAtN 22 (vs (some s) p ab) (vi i)) (vp (some (s.add (Int.toNat i * 1)))) (fun _=>by kernel_rfl) (fun w _ => indexAt_run (P := Tryz.prog) (t := 22) (elem := 94) (sz := 1) (a := s) (len := p) (cap := ab) (k := .i64) (i := i) Tryz.underlying22 (fun _=>by kernel_rfl) q20.1 q20.2 w) [(2, vp (pa b)), (3, vp (pa d)), (5, vi i), (30, vp (some (s.add (Int.toNat i * 1))))] pk ?_
    obtain ⟨e, q21, h⟩ := h
    refine T_ql (some 31) 94 q21 [(2, vp (pa b)), (3, vp (pa d)), (5, vi i), (31, .int .u32 e)] <| T_q1 32 (vp (some ((ad d).add 1))) [] ?_
    obtain ⟨ag, q, aa, q22, h⟩ := h
    refine T_qld (some 33) 22 q22 [32] [(33, vs ag q aa)] <| T_q1 34 (vi i) [] ?_
    obtain ⟨u, rfl, h⟩ := h
    obtain ⟨q23, h⟩ := h
    refine Q_op (some 35) (indexAtN 22 (vs (some u) q aa) (vi i)) (vp (some (u.add (Int.toNat i * 1)))) (fun _=>by kernel_rfl) (fun w _ => indexAt_run (P := Tryz.prog) (t := 22) (elem := 94) (sz := 1) (a := u) (len := q) (cap := aa) (k := .i64) (i := i) Tryz.underlying22 (fun _=>by kernel_rfl) q23.1 q23.2 w) [(2, vp (pa b)), (3, vp (pa d)), (5, vi i), (31, .int .u32 e), (35, vp (some (u.add (Int.toNat i * 1))))] pk ?_
    obtain ⟨r, q24, h⟩ := h
    refine T_ql (some 36) 94 q24 [(2, vp (pa b)), (3, vp (pa d)), (5, vi i), (31, .int .u32 e), (36, .int .u32 r)] <| T_q1 37 (.bool (e != r)) [31, 36] ?_
    refine Q_sub [(2, vp (pa b)), (3, vp (pa d)), (5, vi i), (37, .bool (e != r))] sk ?_
    refine T_qe ?_
    by_cases c25 : e = r
    ·rw [if_pos c25] at h
     refine T_cFz 37 (bne_eq_false_iff_eq.mpr c25) <| T_k ?_
     refine S_blockEnd ?_
     refine S_then ?_
     refine T_rz 5 <| T_ne 3 [(2, vp (pa b)), (3, vp (pa d)), (5, vi (IntKind.wrap .i64 (i + 1)))] ?_
     exact S_round ((IntKind.wrap .i64 (i + 1)) : Int) sk h
    rw [if_neg c25] at h
    exact T_cTz 37 (bne_iff_ne.mpr c25) <| T_srz 7 <| T_nr 1 [4] [.bool false] hQ h
   rw [if_neg c17] at h
   refine T_cFz 24 (decide_eq_false c17) ?_
   refine S_exit 0 (by kernel_rfl) ?_
   refine S_exitThen ?_
   refine S_exitThen ?_
   refine S_exitHere ?_
   refine S_then ?_
   exact T_srz 8 <| T_nr 1 [4] [.bool true] hQ h
  rw [if_neg c11] at h
  exact T_cTz 19 (bne_iff_ne.mpr c11) <| T_srz 2 <| T_nr 1 [4] [.bool false] hQ h
 rw [if_neg c7] at h
 exact N_bd 11 (congrArg Bool.not (beq_eq_false_iff_ne.mpr c7)) <| T_ed 8 [11] [(19, .bool true)] <| T_tz 19 <| T_srz 2 <| T_nr 1 [4] [.bool false] hQ h
end moraineref02_Same

/-! moraine/moraineref02.May -/
namespace moraineref02_May
def K0 := Func.code Tryz.f46
end moraineref02_May
def moraineref02_May.pt (ah : Bool) (ae : Option Addr) (af ac : Nat) (H : Array Obj) (R : Value → Array Obj → Prop) : Prop :=
 ∀ (b : Nat) (H1 : Array Obj), b = H.size → H1 = H.push (.cells #[.bool ah, .slice ae af ac] 24) →
 ∃ (ag : Bool) (aa : Option Addr) (ab z : Nat), RowAt H1 (ad b) 0 [.bool ag, .slice aa ab z] ∧
 moraineref02_Value.C ag aa ab z H1 (fun v H2 => ∃ (u : Bool) (t : Option Addr) (y s : Nat), v = .agg #[.bool u, .slice t y s] ∧ 
 moraineref02_Num.C u t y s H2 (fun ai H3 => ∃ (j : Bool) (d : Option Addr) (a e : Nat) (rb : Int), ai = .tuple #[.agg #[.bool j, .slice d a e], .int .i64 rb] ∧ 
 ∀ (p : Nat) (H4 : Array Obj), p = H3.size → H4 = H3.push (.cells #[.bool false, .slice none 0 0] 24) →
 (CanPuts H4 (ad p) 0 2) ∧ ∀ H5, H5 = hputs H4 (ad p) [.bool j, .slice d a e] 0 →
 if rb = 0 then (
 ∃ (q : Bool) (f : Option Addr) (i g : Nat), RowAt H5 (ad p) 0 [.bool q, .slice f i g] ∧
 ∃ (r : Bool) (o : Option Addr) (k m : Nat), RowAt H5 (ad b) 0 [.bool r, .slice o k m] ∧
 moraineref02_Same.C q f i g r o k m H5 (fun aj H6 => ∃ x : Bool, aj = .bool x ∧ 
 R (.bool x) H6))
 else
 R (.bool false) H5))
namespace moraineref02_May
theorem link {ah : Bool} {ae : Option Addr} {af ac : Nat} {H : Array Obj} {R : Value → Array Obj → Prop} (h : pt ah ae af ac H R) : C ah ae af ac H R := by
 refine T_en K0 18 Tryz.func46 ?_
 intro w0 Q hQ
 unfold pt at h
 refine T_su [(0, .agg #[.bool ah, vs ae af ac])] <| T_srz 0 <| T_nw (some 1) (fun b => vp (pa b)) (.cells #[.bool ah, vs ae af ac] 24) ?_
 intro b H1 e1 e2
 replace h := h b H1 e1 e2
 refine ⟨[(1, vp (pa b))], pk, ?_⟩
 refine T_ed 1 [] [] <| T_srz 1 ?_
 obtain ⟨ag, aa, ab, z, q3, h⟩ := h
 refine T_lr 6 24 q3 [] ?_
 refine T_c (some 7) h ?_; clear h
 rintro v H2 ⟨u, t, y, s, rfl, h⟩
 refine T_pd [6] [(7, .agg #[.bool u, vs t y s])] ?_
 refine T_c (some 8) h ?_; clear h
 rintro ai H3 ⟨j, d, a, e, rb, rfl, h⟩
 refine T_pd [7] [(8, .tuple #[.agg #[.bool j, vs d a e], vi rb])] <| T_nd 3 [8] [(9, .agg #[.bool j, vs d a e]), (10, vi rb)] <| T_nw (some 3) (fun b => vp (pa b)) (.cells #[.bool false, vs none 0 0] 24) ?_
 intro p H4 e4 e5
 replace h := h p H4 e4 e5
 refine T_pd [] [(3, vp (pa p))] ?_
 obtain ⟨q7, h⟩ := h
 refine T_sta 24 [.bool j, vs d a e] q7 ?_
 intro H5 e6
 replace h := h H5 e6
 refine T_pd [9] [] <| T_ed 1 [10] [(4, vi rb)] <| T_srz 2 <| T_nd 3 [4] [(13, .bool (rb == 0))] ?_
 by_cases c8 : rb = 0
 ·rw [if_pos c8] at h
  refine N_bd 13 (beq_iff_eq.mpr c8) ?_
  obtain ⟨q, f, i, g, q10, h⟩ := h
  refine T_lr 14 24 q10 [3] ?_
  obtain ⟨r, o, k, m, q11, h⟩ := h
  refine T_lr 15 24 q11 [1] ?_
  refine T_c (some 16) h ?_; clear h
  rintro aj H6 ⟨x, rfl, h⟩
  exact T_pd [14, 15] [(16, .bool x)] <| T_nr 2 [2] [.bool x] hQ h
 rw [if_neg c8] at h
 exact N_bd 13 (beq_eq_false_iff_ne.mpr c8) <| T_nr 5 [2] [.bool false] hQ h
end moraineref02_May

/-! moraine/moraineref02.Num -/
namespace moraineref02_Num
def K0 := Func.code Tryz.f78
def K2 := cb K0
def K4 := cb K2
def K12 := cb K4
def K13 := ca K12
def K16 := cb K13
def K17 := ca K16
def K18 := ca K17
def K20 := cb K18
def K25 := ca K20
def K27 := ca K25
def K29 := cb K27
def K35 := cb K29
def K36 := ca K35
end moraineref02_Num
def moraineref02_Num.pt (au : Bool) (aa : Option Addr) (z v : Nat) (H : Array Obj) (R : Value → Array Obj → Prop) : Prop :=
 ∀ (b : Nat) (H1 : Array Obj), b = H.size → H1 = H.push (.cells #[.bool au, .slice aa z v] 148) →
 ∀ (d : Nat) (H2 : Array Obj), d = H1.size → H2 = H1.push (.cells #[.bool false, .slice none 0 0] 24) →
 ∃ (xB : Option Addr) (xN xC : Nat), hat H2 ((ad b).add 1) = some (.slice xB xN xC) ∧
 if (xN : Int) > 1536 then (
 (CanPuts H2 (ad d) 0 2) ∧ ∀ H3, H3 = hputs H2 (ad d) [.bool false, .slice none 0 0] 0 →
 ∃ (a1 : Bool) (av : Option Addr) (ax aw : Nat), RowAt H3 (ad d) 0 [.bool a1, .slice av ax aw] ∧
 R (.tuple #[.agg #[.bool a1, .slice av ax aw], .int .i64 6]) H3)
 else
 ∃ x : Bool, hat H2 (ad b) = some (.bool x) ∧
 ∀ (e : Nat) (H4 : Array Obj), e = H2.size → H4 = H2.push (.cells #[.bool false, .slice none 0 0] 24) →
 (CanPuts H4 (ad e) 0 2) ∧ ∀ H5, H5 = hputs H4 (ad e) [.bool x, .slice none 0 0] 0 →
 ∃ (a0 : Int → Array Obj → Prop) (m19 : Int → Array Obj → Nat), a0 0 H5 ∧ ∀ (i : Int) (H6 : Array Obj), a0 i H6 →
 ∃ (a2 : Option Addr) (ab a3 : Nat), hat H6 ((ad b).add 1) = some (.slice a2 ab a3) ∧
 if i < (ab : Int) then (
 ∃ J : Array Obj → Prop, (
 if (Int.tmod i 32) = 0 then (
 ∃ (ak : Option Addr) (o am : Nat), hat H6 ((ad e).add 1) = some (.slice ak o am) ∧
 ∀ (az : Nat) (H9 : Array Obj), az = H6.size → H9 = H6.push (.cells #[.int .u32 0] 94) →
 appendK 1 94 4 [.int .u32 0] ak o am (some (ad az)) 1 H9 (fun ap ay a8 =>
 (CanPuts a8 ((ad e).add 1) 0 1) ∧ ∀ a7, a7 = hputs a8 ((ad e).add 1) [.slice ap (o + 1) ay] 0 →
 J a7))
 else
 J H6) ∧ ∀ (H7 : Array Obj), J H7 →
 ∃ (aq : Option Addr) (ae al : Nat), hat H7 ((ad b).add 1) = some (.slice aq ae al) ∧
 ∃ ag : Addr, aq = some ag ∧
 ((0 : Int) ≤ i ∧ i < (ae : Int)) ∧
 ∃ ao : Int, hat H7 (ag.add (Int.toNat i * 1)) = some (.int .u8 ao) ∧
 if ao = 1 then (
 ∃ (a5 : Option Addr) (g j : Nat), hat H7 ((ad e).add 1) = some (.slice a5 g j) ∧
 ∃ (a6 : Option Addr) (u ac : Nat), hat H7 ((ad e).add 1) = some (.slice a6 u ac) ∧
 ∃ m : Addr, a6 = some m ∧
 ((0 : Int) ≤ (IntKind.wrap .i64 (Int.tdiv i 32)) ∧ (IntKind.wrap .i64 (Int.tdiv i 32)) < (u : Int)) ∧
 ∃ p : Int, hat H7 (m.add (Int.toNat (IntKind.wrap .i64 (Int.tdiv i 32)) * 1)) = some (.int .u32 p) ∧
 (0 ≤ (Int.tmod i 32)) ∧
 ∃ f : Addr, a5 = some f ∧
 ((0 : Int) ≤ (IntKind.wrap .i64 (Int.tdiv i 32)) ∧ (IntKind.wrap .i64 (Int.tdiv i 32)) < (g : Int)) ∧
 (CanPuts H7 (f.add (Int.toNat (IntKind.wrap .i64 (Int.tdiv i 32)) * 1)) 0 1) ∧ ∀ H8, H8 = hputs H7 (f.add (Int.toNat (IntKind.wrap .i64 (Int.tdiv i 32)) * 1)) [.int .u32 (ior .u32 p (ishl .u32 1 (Int.tmod i 32)))] 0 → 
 (a0 (IntKind.wrap .i64 (i + 1)) H8 ∧ m19 (IntKind.wrap .i64 (i + 1)) H8 < m19 i H6))
 else
 (a0 (IntKind.wrap .i64 (i + 1)) H7 ∧ m19 (IntKind.wrap .i64 (i + 1)) H7 < m19 i H6))
 else
 ∃ (af : Bool) (r : Option Addr) (s q : Nat), RowAt H6 (ad e) 0 [.bool af, .slice r s q] ∧
 (CanPuts H6 (ad d) 0 2) ∧ ∀ a4, a4 = hputs H6 (ad d) [.bool af, .slice r s q] 0 →
 ∃ (an : Bool) (ai : Option Addr) (aj ah : Nat), RowAt a4 (ad d) 0 [.bool an, .slice ai aj ah] ∧
 R (.tuple #[.agg #[.bool an, .slice ai aj ah], .int .i64 0]) a4
namespace moraineref02_Num
theorem link {au : Bool} {aa : Option Addr} {z v : Nat} {H : Array Obj} {R : Value → Array Obj → Prop} (h : pt au aa z v H R) : C au aa z v H R := by
 refine T_en K0 51 Tryz.func78 ?_
 intro w0 Q hQ
 unfold pt at h
 refine T_su [(0, .agg #[.bool au, vs aa z v])] <| T_srz 0 <| T_nw (some 1) (fun b => vp (pa b)) (.cells #[.bool au, vs aa z v] 148) ?_
 intro b H1 e1 e2
 replace h := h b H1 e1 e2
 refine ⟨[(1, vp (pa b))], pk, ?_⟩
 refine T_nw (some 2) (fun b => vp (pa b)) (.cells #[.bool false, vs none 0 0] 24) ?_
 intro d H2 e3 e4
 replace h := h d H2 e3 e4
 refine T_pd [] [(2, vp (pa d))] <| T_ed 1 [] [] <| T_sz <| T_srz 1 <| T_nd 1 [] [(6, vp (some ((ad b).add 1)))] ?_
 obtain ⟨xB, xN, xC, q5, h⟩ := h
 refine T_l1 7 146 q5 [6] <| T_ed 2 [7] [(9, .bool (decide ((xN : Int) > 1536)))] ?_
 by_cases c6 : (xN : Int) > 1536
 ·rw [if_pos c6] at h
  refine T_cTz 9 (decide_eq_true c6) <| T_srz 2 <| T_nd 1 [1, 9] [(10, .agg #[.bool false, vs none 0 0])] ?_
  obtain ⟨q9, h⟩ := h
  refine T_sta 24 [.bool false, vs none 0 0] q9 ?_
  intro H3 e8
  replace h := h H3 e8
  refine T_pd [10] [] <| T_ed 1 [] [(3, vi 6)] ?_
  refine S_ret (by kernel_rfl) ?_
  show At _ _ _ _ _ (Q .ret)
  obtain ⟨a1, av, ax, aw, q10, h⟩ := h
  exact S_done (fn := Tryz.f78) [.agg #[.bool a1, vs av ax aw], vi 6] hQ (show ResOK _ _ _ [.cell 2 24, .tmp 3] _ from .cell (by kernel_rfl) (loadOK_row (fun _=>by kernel_rfl) (fun _=>by kernel_rfl) q10) (.tmp (by kernel_rfl) (.nil))) h
 rw [if_neg c6] at h
 refine T_cFz 9 (decide_eq_false c6) <| T_kt <| T_srz 3 <| T_nd 1 [9] [(11, vp (pa b))] ?_
 obtain ⟨x, q11, h⟩ := h
 refine T_l1 12 4 q11 [11] <| T_nd 1 [12] [(13, .agg #[.bool x, vs none 0 0])] <| T_nw (some 4) (fun b => vp (pa b)) (.cells #[.bool false, vs none 0 0] 24) ?_
 intro e H4 e12 e13
 replace h := h e H4 e12 e13
 refine T_pd [] [(4, vp (pa e))] ?_
 obtain ⟨q15, h⟩ := h
 refine T_sta 24 [.bool x, vs none 0 0] q15 ?_
 intro H5 e14
 replace h := h H5 e14
 refine T_pd [13] [] <| T_e <| T_sz <| T_srz 4 <| T_ed 1 [] [(5, vi 0)] <| T_bz 0 ?_
 obtain ⟨a0, m19, i16, i17⟩ := h
 refine S_loop (x := K18) (σ := Int) (fun s_ => [(1, vp (pa b)), (2, vp (pa d)), (4, vp (pa e)), (5, vi s_)]) (fun s_ H => a0 s_ H) (fun s_ H => m19 s_ H) (0 : Int) (by kernel_rfl) i16 sk ?_
 rintro i H6 i18
 have h := i17 i H6 i18
 refine T_su [(1, vp (pa b)), (2, vp (pa d)), (4, vp (pa e)), (5, vi i)] <| T_sz <| T_srz 5 <| T_nd 2 [] [(14, vi i), (15, vp (some ((ad b).add 1)))] ?_
 obtain ⟨a2, ab, a3, q19, h⟩ := h
 refine T_l1 16 146 q19 [15] <| T_ed 2 [14, 16] [(18, .bool (decide (i < (ab : Int))))] ?_
 by_cases c20 : i < (ab : Int)
 ·rw [if_pos c20] at h
  refine T_cTz 18 (decide_eq_true c20) <| T_kt <| T_sz <| T_bz 1 <| T_sz <| T_srz 7 <| T_ne 3 [(1, vp (pa b)), (2, vp (pa d)), (4, vp (pa e)), (5, vi i), (23, .bool ((Int.tmod i 32) == 0))] ?_
  obtain ⟨J, h, j23⟩ := h
  refine S_join (σ := Unit) (fun s_ => [(1, vp (pa b)), (2, vp (pa d)), (4, vp (pa e)), (5, vi i)]) (fun s_ H => J  H) ?_ ?_
  ·rintro _ H7 j24
   replace h := j23 H7 j24
   refine T_su [(1, vp (pa b)), (2, vp (pa d)), (4, vp (pa e)), (5, vi i)] ?_
   refine S_then ?_
   refine T_srz 9 <| T_nd 1 [] [(29, vp (some ((ad b).add 1)))] ?_
   obtain ⟨aq, ae, al, q25, h⟩ := h
   refine T_l1 30 146 q25 [29] <| T_nd 1 [] [(31, vi i)] ?_
   obtain ⟨ag, rfl, h⟩ := h
   obtain ⟨q26, h⟩ := h
   refine T_xd (some 32) 146 5 1 ag ae al .i64 i Tryz.underlying146 q26.1 q26.2 [30, 31] [(32, vp (some (ag.add (Int.toNat i * 1))))] ?_
   obtain ⟨ao, q27, h⟩ := h
   refine T_l1 33 5 q27 [32] <| T_ed 1 [33] [(34, .bool (ao == 1))] ?_
   by_cases c28 : ao = 1
   ·rw [if_pos c28] at h
    refine T_cTz 34 (beq_iff_eq.mpr c28) ?_
    obtain ⟨a5, g, j, q30, h⟩ := h
    obtain ⟨a6, u, ac, q31, h⟩ := h
    obtain ⟨m, rfl, h⟩ := h
    obtain ⟨q32, h⟩ := h
    obtain ⟨p, q33, h⟩ := h
    obtain ⟨q34, h⟩ := h
    obtain ⟨f, rfl, h⟩ := h
    obtain ⟨q35, h⟩ := h
    refine S_regionG 10 (Code.ops K36) [(15, ((ad e).add 1), [vs (some f) g j]), (15, ((ad e).add 1), [vs (some m) u ac]), (15, (m.add (Int.toNat (IntKind.wrap .i64 (Int.tdiv i 32)) * 1)), [.int .u32 p])] 16 (bv 16 0) (by kernel_rfl) (by kernel_rfl) (by kernel_rfl) (by kernel_rfl) (by kernel_rfl) (show FactsAt _ _ _ from ⟨⟨q30, trivial⟩, ⟨q31, trivial⟩, ⟨q33, trivial⟩, trivial⟩) ?_
    refine T_gp 0 (some 35) (vp (some ((ad e).add 1))) (bv 16 1) [(1, vp (pa b)), (2, vp (pa d)), (4, vp (pa e)), (5, vi i), (35, vp (some ((ad e).add 1)))] <| T_g1 1 36 (vs (some f) g j) (bv 16 3) [35] (loadN 22 (vp (some ((ad e).add 1)))) (held_one 15 (fun _=>by kernel_rfl) (List.Mem.head _) (.inl (by kernel_rfl))) <| T_gp1 2 37 (vi i) (bv 16 7) [] <| T_gp1 3 38 (vi (IntKind.wrap .i64 (Int.tdiv i 32))) (bv 16 15) [37] <| T_gp1 4 39 (vp (some ((ad e).add 1))) (bv 16 31) [] <| T_g1 5 40 (vs (some m) u ac) (bv 16 63) [39] (loadN 22 (vp (some ((ad e).add 1)))) (held_one 15 (fun _=>by kernel_rfl) (List.Mem.tail _ (List.Mem.head _)) (.inl (by kernel_rfl))) <| T_gp1 6 41 (vi i) (bv 16 127) [] <| T_gp1 7 42 (vi (IntKind.wrap .i64 (Int.tdiv i 32))) (bv 16 255) [41] <| T_g1 8 43 (vp (some (m.add (Int.toNat (IntKind.wrap .i64 (Int.tdiv i 32)) * 1)))) (bv 16 511) [40, 42] (indexAtN 22 (vs (some m) u ac) (vi (IntKind.wrap .i64 (Int.tdiv i 32)))) (fun _ w _ _ _ => indexAt_run (P := Tryz.prog) (t := 22) (elem := 94) (sz := 1) (a := m) (len := u) (cap := ac) (k := .i64) (i := (IntKind.wrap .i64 (Int.tdiv i 32))) Tryz.underlying22 (fun _=>by kernel_rfl) q32.1 q32.2 w) ?_
    refine T_g1 9 44 (.int .u32 p) (bv 16 1023) [43] (loadN 94 (vp (some (m.add (Int.toNat (IntKind.wrap .i64 (Int.tdiv i 32)) * 1))))) (held_one 15 (fun _=>by kernel_rfl) (List.Mem.tail _ (List.Mem.tail _ (List.Mem.head _))) (.inl (by kernel_rfl))) <| T_gp1 10 45 (vi i) (bv 16 2047) [] <| T_gp1 11 46 (vi (Int.tmod i 32)) (bv 16 4095) [45] <| T_g1 12 47 (.int .u32 (ishl .u32 1 (Int.tmod i 32))) (bv 16 8191) [46] (binN .shl 94 (.int .u32 1) (vi (Int.tmod i 32))) (fun _ w _ _ _ => shl_run (P := Tryz.prog) (t := 94) (k := .u32) (k' := .i64) (x := 1) (y := (Int.tmod i 32)) q34 w) <| T_gp1 13 48 (.int .u32 (ior .u32 p (ishl .u32 1 (Int.tmod i 32)))) (bv 16 16383) [44, 47] <| T_g1 14 49 (vp (some (f.add (Int.toNat (IntKind.wrap .i64 (Int.tdiv i 32)) * 1)))) (bv 16 32767) [36, 38] (indexAtN 22 (vs (some f) g j) (vi (IntKind.wrap .i64 (Int.tdiv i 32)))) (fun _ w _ _ _ => indexAt_run (P := Tryz.prog) (t := 22) (elem := 94) (sz := 1) (a := f) (len := g) (cap := j) (k := .i64) (i := (IntKind.wrap .i64 (Int.tdiv i 32))) Tryz.underlying22 (fun _=>by kernel_rfl) q35.1 q35.2 w) ?_
    obtain ⟨q37, h⟩ := h
    refine G_onlyskip 15 none (bv 16 65535) (storeN 94 (vp (some (f.add (Int.toNat (IntKind.wrap .i64 (Int.tdiv i 32)) * 1)))) (.int .u32 (ior .u32 p (ishl .u32 1 (Int.tmod i 32))))) (fun Hz => Hz = hputs H7 (f.add (Int.toNat (IntKind.wrap .i64 (Int.tdiv i 32)) * 1)) [.int .u32 (ior .u32 p (ishl .u32 1 (Int.tmod i 32)))] 0) (by kernel_rfl) (fun _=>by kernel_rfl) (ss_store [.int .u32 (ior .u32 p (ishl .u32 1 (Int.tmod i 32)))] 1 (by kernel_rfl) (by kernel_rfl) (fun _=>by kernel_rfl) (by kernel_rfl) q37) (by kernel_rfl) ?_
    intro H8 e36
    replace h := h H8 e36
    refine ⟨[(1, vp (pa b)), (2, vp (pa d)), (4, vp (pa e)), (5, vi i)], pk, (show FactsAt _ _ _ from ⟨trivial, trivial, trivial, trivial⟩), ?_⟩
    refine G_sub [(1, vp (pa b)), (2, vp (pa d)), (4, vp (pa e)), (5, vi i)] sk ?_
    refine G_end (by kernel_rfl) ?_
    refine S_blockEnd ?_
    refine S_then ?_
    refine T_rz 6 <| T_ne 3 [(1, vp (pa b)), (2, vp (pa d)), (4, vp (pa e)), (5, vi (IntKind.wrap .i64 (i + 1)))] ?_
    exact S_round ((IntKind.wrap .i64 (i + 1)) : Int) sk h
   rw [if_neg c28] at h
   refine T_cFz 34 (beq_eq_false_iff_ne.mpr c28) <| T_k ?_
   refine S_blockEnd ?_
   refine S_then ?_
   refine T_rz 6 <| T_ed 3 [5, 34] [(5, vi (IntKind.wrap .i64 (i + 1)))] ?_
   exact S_round ((IntKind.wrap .i64 (i + 1)) : Int) sk h
  by_cases c38 : (Int.tmod i 32) = 0
  ·rw [if_pos c38] at h
   have b39 : ((Int.tmod i 32) == 0) = true := beq_iff_eq.mpr c38
   refine S_env [(1, vp (pa b)), (2, vp (pa d)), (4, vp (pa e)), (5, vi i), (23, .bool true)] (by simp only [b39, Bool.not_true, Bool.not_false]) ?_
   clear b39
   refine T_tz 23 <| T_rz 8 <| T_nd 1 [23] [(24, vp (some ((ad e).add 1)))] ?_
   obtain ⟨ak, o, am, q40, h⟩ := h
   refine T_l1 25 22 q40 [24] <| T_nw (some 26) (fun b => vs (pa b) 1 1) (.cells #[.int .u32 0] 94) ?_
   intro az H9 e41 e42
   replace h := h az H9 e41 e42
   refine T_pd [] [(26, vs (pa az) 1 1)] ?_
   refine N_op (some 27) (appendN #[22, 22] 22 #[vs ak o am, vs (pa az) 1 1]) _ (fun _=>by kernel_rfl) (ss_append (T := 94) (sz := 1) (bytes := 4) (zero := (.int .u32 0 : Value)) Tryz.underlying22 Tryz.underlying22 rfl (show Tryz.prog.info? 94 = some Tryz.t94 from by kernel_rfl) (by kernel_rfl) (by kernel_rfl) (by decide) (by kernel_rfl) (by first | exact h | (simpa only [Value.cells, List.toList_toArray] using h))) ?_; clear h
   rintro _ a8 ⟨ap, ay, rfl, h⟩
   refine T_pd [25, 26] [(27, vs ap (o + 1) ay)] <| T_nd 1 [] [(28, vp (some ((ad e).add 1)))] ?_
   obtain ⟨q44, h⟩ := h
   refine T_st1 22 (vs ap (o + 1) ay) q44 ?_
   intro a7 e43
   replace h := h a7 e43
   refine T_pd [27, 28] [] <| T_e ?_
   exact S_meet (() : Unit) sk h
  rw [if_neg c38] at h
  have b39 : ((Int.tmod i 32) == 0) = false := beq_eq_false_iff_ne.mpr c38
  refine S_env [(1, vp (pa b)), (2, vp (pa d)), (4, vp (pa e)), (5, vi i), (23, .bool false)] (by simp only [b39, Bool.not_true, Bool.not_false]) ?_
  clear b39
  refine T_fz 23 <| T_kt ?_
  exact S_meet (() : Unit) sk h
 rw [if_neg c20] at h
 refine T_cFz 18 (decide_eq_false c20) ?_
 refine S_exit 0 (by kernel_rfl) ?_
 refine S_exitThen ?_
 refine S_exitThen ?_
 refine S_exitHere ?_
 refine S_then ?_
 refine T_srz 11 <| T_ud [1, 5, 18] [] ?_
 obtain ⟨af, r, s, q, q45, h⟩ := h
 refine T_lr 50 24 q45 [4] ?_
 obtain ⟨q47, h⟩ := h
 refine T_sta 24 [.bool af, vs r s q] q47 ?_
 intro a4 e46
 replace h := h a4 e46
 refine T_pd [50] [] <| T_ed 1 [] [(3, vi 0)] ?_
 refine S_ret (by kernel_rfl) ?_
 show At _ _ _ _ _ (Q .ret)
 obtain ⟨an, ai, aj, ah, q48, h⟩ := h
 exact S_done (fn := Tryz.f78) [.agg #[.bool an, vs ai aj ah], vi 0] hQ (show ResOK _ _ _ [.cell 2 24, .tmp 3] _ from .cell (by kernel_rfl) (loadOK_row (fun _=>by kernel_rfl) (fun _=>by kernel_rfl) q48) (.tmp (by kernel_rfl) (.nil))) h
end moraineref02_Num

/-! moraine/moraineref02.Value -/
namespace moraineref02_Value
def K0 := Func.code Tryz.f79
def K2 := cb K0
def K4 := cb K2
def K5 := ca K4
def K8 := cb K5
def K9 := ca K8
def K10 := ca K9
def K12 := cb K10
def K17 := ca K12
def K19 := ca K17
def K21 := cb K19
def K22 := ca K21
def K23 := ca K22
end moraineref02_Value
def moraineref02_Value.pt (ae : Bool) (q : Option Addr) (r p : Nat) (H : Array Obj) (R : Value → Array Obj → Prop) : Prop :=
 ∀ (b : Nat) (H1 : Array Obj), b = H.size → H1 = H.push (.cells #[.bool ae, .slice q r p] 24) →
 ∀ (d : Nat) (H2 : Array Obj), d = H1.size → H2 = H1.push (.cells #[.bool false, .slice none 0 0] 148) →
 ∃ (aj : (Option Addr) → Nat → Nat → Int → Array Obj → Prop) (m11 : (Option Addr) → Nat → Nat → Int → Array Obj → Nat), aj none 0 0 0 H2 ∧ ∀ (bB : Option Addr) (bN : Nat) (bC : Nat) (i : Int) (H3 : Array Obj), aj bB bN bC i H3 →
 ∃ (xB : Option Addr) (xN xC : Nat), hat H3 ((ad b).add 1) = some (.slice xB xN xC) ∧
 if i < (xN : Int) then (
 ∃ (ak : (Option Addr) → Nat → Nat → Int → Array Obj → Prop) (m24 : (Option Addr) → Nat → Nat → Int → Array Obj → Nat), ak bB bN bC 0 H3 ∧ ∀ (e : Option Addr) (bN_2 : Nat) (bC_2 : Nat) (k : Int) (H4 : Array Obj), ak e bN_2 bC_2 k H4 →
 if k < 32 then (
 ∃ (ac : Option Addr) (m u : Nat), hat H4 ((ad b).add 1) = some (.slice ac m u) ∧
 ∃ o : Addr, ac = some o ∧
 ((0 : Int) ≤ i ∧ i < (m : Int)) ∧
 ∃ x : Int, hat H4 (o.add (Int.toNat i * 1)) = some (.int .u32 x) ∧
 (0 ≤ k) ∧
 ∀ (ah : Nat) (H5 : Array Obj), ah = H4.size → H5 = H4.push (.cells #[.int .u8 (IntKind.wrap .u8 (iand .u32 (ishr .u32 x k) 1))] 5) →
 appendK 1 5 1 [.int .u8 0] e bN_2 bC_2 (some (ad ah)) 1 H5 (fun ap ag H6 =>
 (ak ap (bN_2 + 1) ag (IntKind.wrap .i64 (k + 1)) H6 ∧ m24 ap (bN_2 + 1) ag (IntKind.wrap .i64 (k + 1)) H6 < m24 e bN_2 bC_2 k H4)))
 else
 (aj e bN_2 bC_2 (IntKind.wrap .i64 (i + 1)) H4 ∧ m11 e bN_2 bC_2 (IntKind.wrap .i64 (i + 1)) H4 < m11 bB bN bC i H3))
 else
 ∃ af : Bool, hat H3 (ad b) = some (.bool af) ∧
 moraineref02_value.C af bB bN bC H3 (fun v H7 => ∃ (s : Bool) (g : Option Addr) (j f : Nat), v = .agg #[.bool s, .slice g j f] ∧ 
 (CanPuts H7 (ad d) 0 2) ∧ ∀ H8, H8 = hputs H7 (ad d) [.bool s, .slice g j f] 0 →
 ∃ (ai : Bool) (aa : Option Addr) (z ab : Nat), RowAt H8 (ad d) 0 [.bool ai, .slice aa z ab] ∧
 R (.agg #[.bool ai, .slice aa z ab]) H8)
namespace moraineref02_Value
theorem link {ae : Bool} {q : Option Addr} {r p : Nat} {H : Array Obj} {R : Value → Array Obj → Prop} (h : pt ae q r p H R) : C ae q r p H R := by
 refine T_en K0 33 Tryz.func79 ?_
 intro w0 Q hQ
 unfold pt at h
 refine T_su [(0, .agg #[.bool ae, vs q r p])] <| T_srz 0 <| T_nw (some 1) (fun b => vp (pa b)) (.cells #[.bool ae, vs q r p] 24) ?_
 intro b H1 e1 e2
 replace h := h b H1 e1 e2
 refine ⟨[(1, vp (pa b))], pk, ?_⟩
 refine T_nw (some 2) (fun b => vp (pa b)) (.cells #[.bool false, vs none 0 0] 148) ?_
 intro d H2 e3 e4
 replace h := h d H2 e3 e4
 refine T_pd [] [(2, vp (pa d))] <| T_e <| T_srz 1 <| T_ed 1 [] [(3, vs none 0 0)] <| T_sz <| T_srz 2 <| T_ed 1 [] [(4, vi 0)] <| T_bz 0 ?_
 obtain ⟨aj, m11, i5, i6⟩ := h
 refine S_loop (x := K10) (σ := (Option Addr) × Nat × Nat × Int) (fun s_ => [(1, vp (pa b)), (2, vp (pa d)), (3, vs s_.1 s_.2.1 s_.2.2.1), (4, vi s_.2.2.2)]) (fun s_ H => aj s_.1 s_.2.1 s_.2.2.1 s_.2.2.2 H) (fun s_ H => m11 s_.1 s_.2.1 s_.2.2.1 s_.2.2.2 H) ((none, 0, 0, 0) : (Option Addr) × Nat × Nat × Int) (by kernel_rfl) i5 sk ?_
 rintro ⟨bB, bN, bC, i⟩ H3 i7
 have h := i6 bB bN bC i H3 i7
 refine T_su [(1, vp (pa b)), (2, vp (pa d)), (3, vs bB bN bC), (4, vi i)] <| T_sz <| T_srz 3 <| T_nd 2 [] [(6, vi i), (7, vp (some ((ad b).add 1)))] ?_
 obtain ⟨xB, xN, xC, q8, h⟩ := h
 refine T_l1 8 22 q8 [7] <| T_ed 2 [6, 8] [(10, .bool (decide (i < (xN : Int))))] ?_
 by_cases c9 : i < (xN : Int)
 ·rw [if_pos c9] at h
  refine T_cTz 10 (decide_eq_true c9) <| T_kt <| T_sz <| T_bz 1 <| T_srz 5 <| T_ed 1 [10] [(5, vi 0)] <| T_bz 2 ?_
  obtain ⟨ak, m24, i11, i12⟩ := h
  refine S_loop (x := K23) (σ := (Option Addr) × Nat × Nat × Int) (fun s_ => [(1, vp (pa b)), (2, vp (pa d)), (3, vs s_.1 s_.2.1 s_.2.2.1), (4, vi i), (5, vi s_.2.2.2)]) (fun s_ H => ak s_.1 s_.2.1 s_.2.2.1 s_.2.2.2 H) (fun s_ H => m24 s_.1 s_.2.1 s_.2.2.1 s_.2.2.2 H) ((bB, bN, bC, 0) : (Option Addr) × Nat × Nat × Int) (by kernel_rfl) i11 sk ?_
  rintro ⟨e, bN_2, bC_2, k⟩ H4 i13
  have h := i12 e bN_2 bC_2 k H4 i13
  refine T_su [(1, vp (pa b)), (2, vp (pa d)), (3, vs e bN_2 bC_2), (4, vi i), (5, vi k)] <| T_sz <| T_srz 6 <| T_ed 2 [] [(14, .bool (decide (k < 32)))] ?_
  by_cases c14 : k < 32
  ·rw [if_pos c14] at h
   refine T_cTz 14 (decide_eq_true c14) <| T_kt <| T_sz <| T_bz 3 <| T_rz 8 <| T_nd 2 [3, 14] [(17, vs e bN_2 bC_2), (18, vp (some ((ad b).add 1)))] ?_
   obtain ⟨ac, m, u, q16, h⟩ := h
   refine T_l1 19 22 q16 [18] <| T_nd 1 [] [(20, vi i)] ?_
   obtain ⟨o, rfl, h⟩ := h
   obtain ⟨q17, h⟩ := h
   refine T_xd (some 21) 22 94 1 o m u .i64 i Tryz.underlying22 q17.1 q17.2 [19, 20] [(21, vp (some (o.add (Int.toNat i * 1))))] ?_
   obtain ⟨x, q18, h⟩ := h
   refine T_l1 22 94 q18 [21] <| T_nd 1 [] [(23, vi k)] ?_
   obtain ⟨q19, h⟩ := h
   refine T_v1 24 (binN .shr 94 (.int .u32 x) (vi k)) (.int .u32 (ishr .u32 x k)) (fun w _ => shr_run (P := Tryz.prog) (t := 94) (k := .u32) (k' := .i64) (x := x) (y := k) q19 w) [22, 23] <| T_nd 2 [24] [(26, .int .u8 (IntKind.wrap .u8 (iand .u32 (ishr .u32 x k) 1)))] <| T_nw (some 27) (fun b => vs (pa b) 1 1) (.cells #[.int .u8 (IntKind.wrap .u8 (iand .u32 (ishr .u32 x k) 1))] 5) ?_
   intro ah H5 e20 e21
   replace h := h ah H5 e20 e21
   refine T_pd [26] [(27, vs (pa ah) 1 1)] ?_
   refine N_op (some 28) (appendN #[146, 146] 146 #[vs e bN_2 bC_2, vs (pa ah) 1 1]) _ (fun _=>by kernel_rfl) (ss_append (T := 5) (sz := 1) (bytes := 1) (zero := (.int .u8 0 : Value)) Tryz.underlying146 Tryz.underlying146 rfl (show Tryz.prog.info? 5 = some Tryz.t5 from by kernel_rfl) (by kernel_rfl) (by kernel_rfl) (by decide) (by kernel_rfl) (by first | exact h | (simpa only [Value.cells, List.toList_toArray] using h))) ?_; clear h
   rintro _ H6 ⟨ap, ag, rfl, h⟩
   refine T_pd [17, 27] [(28, vs ap (bN_2 + 1) ag)] <| T_nd 1 [28] [(3, vs ap (bN_2 + 1) ag)] ?_
   refine N_end (by kernel_rfl) ?_
   refine S_blockEnd ?_
   refine S_then ?_
   refine T_rz 7 <| T_ed 3 [5] [(5, vi (IntKind.wrap .i64 (k + 1)))] ?_
   exact S_round ((ap, (bN_2 + 1), ag, (IntKind.wrap .i64 (k + 1))) : (Option Addr) × Nat × Nat × Int) sk h
  rw [if_neg c14] at h
  refine T_cFz 14 (decide_eq_false c14) ?_
  refine S_exit 2 (by kernel_rfl) ?_
  refine S_exitThen ?_
  refine S_exitThen ?_
  refine S_exitHere ?_
  refine S_blockEnd ?_
  refine S_then ?_
  refine T_rz 4 <| T_ed 3 [4, 5, 14] [(4, vi (IntKind.wrap .i64 (i + 1)))] ?_
  exact S_round ((e, bN_2, bC_2, (IntKind.wrap .i64 (i + 1))) : (Option Addr) × Nat × Nat × Int) sk h
 rw [if_neg c9] at h
 refine T_cFz 10 (decide_eq_false c9) ?_
 refine S_exit 0 (by kernel_rfl) ?_
 refine S_exitThen ?_
 refine S_exitThen ?_
 refine S_exitHere ?_
 refine S_then ?_
 refine T_srz 9 <| T_nd 1 [1, 4, 10] [(29, vp (pa b))] ?_
 obtain ⟨af, q22, h⟩ := h
 refine T_l1 30 4 q22 [29] <| T_nd 1 [3] [(31, vs bB bN bC)] ?_
 refine T_c (some 32) h ?_; clear h
 rintro v H7 ⟨s, g, j, f, rfl, h⟩
 refine T_pd [30, 31] [(32, .agg #[.bool s, vs g j f])] ?_
 obtain ⟨q24, h⟩ := h
 refine T_sta 148 [.bool s, vs g j f] q24 ?_
 intro H8 e23
 replace h := h H8 e23
 refine T_pd [32] [] <| T_e ?_
 refine S_ret (by kernel_rfl) ?_
 show At _ _ _ _ _ (Q .ret)
 obtain ⟨ai, aa, z, ab, q25, h⟩ := h
 exact S_done (fn := Tryz.f79) [.agg #[.bool ai, vs aa z ab]] hQ (show ResOK _ _ _ [.cell 2 148] _ from .cell (by kernel_rfl) (loadOK_row (fun _=>by kernel_rfl) (fun _=>by kernel_rfl) q25) (.nil)) h
end moraineref02_Value

/-! moraine/moraineref02.value -/
namespace moraineref02_value
def K0 := Func.code Tryz.f114
end moraineref02_value
def moraineref02_value.pt (a : Bool) (bB : Option Addr) (bN bC : Nat) (H : Array Obj) (R : Value → Array Obj → Prop) : Prop :=
 ∀ (b : Nat) (H1 : Array Obj), b = H.size → H1 = H.push (.cells #[.bool false, .slice none 0 0] 148) →
 moraineref02_cut.C bB bN bC H1 (fun v H2 => ∃ (xB : Option Addr) (xN xC : Nat), v = .slice xB xN xC ∧ 
 if a = true then (
 (CanPuts H2 (ad b) 0 2) ∧ ∀ H3, H3 = hputs H2 (ad b) [.bool (decide ((xN : Int) > 0)), .slice xB xN xC] 0 →
 ∃ (m : Bool) (k : Option Addr) (i j : Nat), RowAt H3 (ad b) 0 [.bool m, .slice k i j] ∧
 R (.agg #[.bool m, .slice k i j]) H3)
 else
 (CanPuts H2 (ad b) 0 2) ∧ ∀ H4, H4 = hputs H2 (ad b) [.bool false, .slice xB xN xC] 0 →
 ∃ (g : Bool) (d : Option Addr) (e f : Nat), RowAt H4 (ad b) 0 [.bool g, .slice d e f] ∧
 R (.agg #[.bool g, .slice d e f]) H4)
namespace moraineref02_value
theorem link {a : Bool} {bB : Option Addr} {bN bC : Nat} {H : Array Obj} {R : Value → Array Obj → Prop} (h : pt a bB bN bC H R) : C a bB bN bC H R := by
 refine T_en K0 15 Tryz.func114 ?_
 intro w0 Q hQ
 unfold pt at h
 refine T_su [(0, .bool a), (1, vs bB bN bC)] <| T_srz 0 <| T_nw (some 4) (fun b => vp (pa b)) (.cells #[.bool false, vs none 0 0] 148) ?_
 intro b H1 e1 e2
 replace h := h b H1 e1 e2
 refine T_pd [] [(4, vp (pa b))] <| T_e <| T_srz 1 <| T_nd 1 [1] [(5, vs bB bN bC)] ?_
 refine T_c (some 6) h ?_; clear h
 rintro v H2 ⟨xB, xN, xC, rfl, h⟩
 refine T_pd [5] [(6, vs xB xN xC)] <| T_ed 1 [6] [(1, vs xB xN xC)] <| T_srz 2 <| T_nd 2 [0] [(8, .bool a)] ?_
 by_cases c3 : a = true
 ·rw [if_pos c3] at h
  refine N_bd 8 c3 <| T_nd 6 [1, 8] [(14, .agg #[.bool (decide ((xN : Int) > 0)), vs xB xN xC])] ?_
  obtain ⟨q6, h⟩ := h
  refine T_sta 148 [.bool (decide ((xN : Int) > 0)), vs xB xN xC] q6 ?_
  intro H3 e5
  replace h := h H3 e5
  refine T_pd [14] [] <| T_e ?_
  refine S_ret (by kernel_rfl) ?_
  show At _ _ _ _ _ (Q .ret)
  obtain ⟨m, k, i, j, q7, h⟩ := h
  exact S_done (fn := Tryz.f114) [.agg #[.bool m, vs k i j]] hQ (show ResOK _ _ _ [.cell 4 148] _ from .cell (by kernel_rfl) (loadOK_row (fun _=>by kernel_rfl) (fun _=>by kernel_rfl) q7) (.nil)) h
 rw [if_neg c3] at h
 refine N_bd 8 (eq_false_of_ne_true c3) <| T_nd 6 [1, 8] [(14, .agg #[.bool false, vs xB xN xC])] ?_
 obtain ⟨q9, h⟩ := h
 refine T_sta 148 [.bool false, vs xB xN xC] q9 ?_
 intro H4 e8
 replace h := h H4 e8
 refine T_pd [14] [] <| T_e ?_
 refine S_ret (by kernel_rfl) ?_
 show At _ _ _ _ _ (Q .ret)
 obtain ⟨g, d, e, f, q10, h⟩ := h
 exact S_done (fn := Tryz.f114) [.agg #[.bool g, vs d e f]] hQ (show ResOK _ _ _ [.cell 4 148] _ from .cell (by kernel_rfl) (loadOK_row (fun _=>by kernel_rfl) (fun _=>by kernel_rfl) q10) (.nil)) h
end moraineref02_value

/-! moraine/moraineref02.cut -/
namespace moraineref02_cut
def K0 := Func.code Tryz.f141
def K2 := cb K0
def K4 := cb K2
def K5 := ca K4
def K7 := ca K5
def K8 := ca K7
end moraineref02_cut
def moraineref02_cut.pt (bB : Option Addr) (bN bC : Nat) (H : Array Obj) (R : Value → Array Obj → Prop) : Prop :=
 ∃ (I9 : Int → Array Obj → Prop) (m9 : Int → Array Obj → Nat), I9 (bN : Int) H ∧ ∀ (nv : Int) (H1 : Array Obj), I9 nv H1 →
 if nv > 0 then (
 ∃ d : Addr, bB = some d ∧
 ((0 : Int) ≤ (IntKind.wrap .i64 (nv - 1)) ∧ (IntKind.wrap .i64 (nv - 1)) < (bN : Int)) ∧
 ∃ x : Int, hat H1 (d.add (Int.toNat (IntKind.wrap .i64 (nv - 1)) * 1)) = some (.int .u8 x) ∧
 if x = 0 then (
 (I9 (IntKind.wrap .i64 (nv - 1)) H1 ∧ m9 (IntKind.wrap .i64 (nv - 1)) H1 < m9 nv H1))
 else
 ∃ (lo hi : Nat), lo = 0 ∧ nv = (hi : Int) ∧ lo ≤ hi ∧ hi ≤ bC ∧
 ∀ sl : Option Addr, sl = (if bC = lo then (some d) else Option.map (fun a : Addr => a.add (lo * 1)) (some d)) →
 R (.slice sl (hi - lo) (bC - lo)) H1)
 else
 ∃ (b e : Nat), b = 0 ∧ nv = (e : Int) ∧ b ≤ e ∧ e ≤ bC ∧
 ∀ f : Option Addr, f = (if bC = b then bB else Option.map (fun a : Addr => a.add (b * 1)) bB) →
 R (.slice f (e - b) (bC - b)) H1
namespace moraineref02_cut
theorem link {bB : Option Addr} {bN bC : Nat} {H : Array Obj} {R : Value → Array Obj → Prop} (h : pt bB bN bC H R) : C bB bN bC H R := by
 refine T_en K0 21 Tryz.func141 ?_
 intro w0 Q hQ
 unfold pt at h
 refine T_su [(0, vs bB bN bC)] <| T_srz 0 <| T_ed 1 [] [] <| T_srz 1 <| T_ed 3 [] [(3, vi bN)] <| T_sz <| T_bz 0 ?_
 obtain ⟨I9, m9, i1, i2⟩ := h
 refine S_loop (x := K8) (σ := Int) (fun s_ => [(0, vs bB bN bC), (3, vi s_)]) (fun s_ H => I9 s_ H) (fun s_ H => m9 s_ H) ((bN : Int) : Int) (by kernel_rfl) i1 sk ?_
 rintro nv H1 i3
 have h := i2 nv H1 i3
 refine T_su [(0, vs bB bN bC), (3, vi nv)] <| T_sz <| T_srz 2 <| T_nd 3 [] [(8, .bool (decide (nv > 0)))] ?_
 by_cases c4 : nv > 0
 ·rw [if_pos c4] at h
  refine N_bd 8 (decide_eq_true c4) <| T_nd 3 [] [(9, vs bB bN bC), (11, vi (IntKind.wrap .i64 (nv - 1)))] ?_
  obtain ⟨d, rfl, h⟩ := h
  obtain ⟨q6, h⟩ := h
  refine T_xd (some 12) 146 5 1 d bN bC .i64 (IntKind.wrap .i64 (nv - 1)) Tryz.underlying146 q6.1 q6.2 [0, 9, 11] [(0, vs (some d) bN bC), (12, vp (some (d.add (Int.toNat (IntKind.wrap .i64 (nv - 1)) * 1))))] ?_
  obtain ⟨x, q7, h⟩ := h
  refine T_l1 13 5 q7 [12] <| T_ed 2 [8, 13] [(15, .bool (x == 0))] ?_
  by_cases c8 : x = 0
  ·rw [if_pos c8] at h
   refine T_cTz 15 (beq_iff_eq.mpr c8) <| T_kt <| T_bz 1 <| T_rz 3 <| T_nd 3 [3, 15] [(3, vi (IntKind.wrap .i64 (nv - 1)))] ?_
   refine N_end (by kernel_rfl) ?_
   refine S_blockEnd ?_
   refine S_then ?_
   exact S_round ((IntKind.wrap .i64 (nv - 1)) : Int) sk h
  rw [if_neg c8] at h
  refine T_cFz 15 (beq_eq_false_iff_ne.mpr c8) ?_
  refine S_exit 0 (by kernel_rfl) ?_
  refine S_exitThen ?_
  refine S_exitThen ?_
  refine S_exitHere ?_
  refine S_then ?_
  refine T_srz 4 <| T_n 2 [(18, vs (some d) bN bC), (19, vi nv)] ?_
  obtain ⟨lo, hi, q10, q11, q12, q13, h⟩ := h
  obtain ⟨sl, e14⟩ : ∃ B, B = (if bC = lo then (some d) else Option.map (fun a : Addr => a.add (lo * 1)) (some d)) := ⟨_, rfl⟩
  replace h := h sl e14
  refine T_v1 20 (sliceN 146 (vs (some d) bN bC) none (some (vi nv)) none) (vs sl (hi - lo) (bC - lo)) (fun w _ => (slice_run (P := Tryz.prog) (t := 146) (elem := 5) (sz := 1) (a := (some d)) (len := bN) (cap := bC) none (some (vi nv)) lo hi Tryz.underlying146 (fun _=>by kernel_rfl) (.inl ⟨rfl, q10⟩) (.inr ⟨.i64, by rw [q11]⟩) q12 q13 w).trans (by rw [e14]; try rfl)) [18, 19] ?_
  exact T_nr 1 [2] [vs sl (hi - lo) (bC - lo)] hQ h
 rw [if_neg c4] at h
 refine N_bd 8 (decide_eq_false c4) <| T_ed 7 [8] [(15, .bool false)] <| T_fz 15 ?_
 refine S_exit 0 (by kernel_rfl) ?_
 refine S_exitThen ?_
 refine S_exitThen ?_
 refine S_exitHere ?_
 refine S_then ?_
 refine T_srz 4 <| T_n 2 [(18, vs bB bN bC), (19, vi nv)] ?_
 obtain ⟨b, e, q15, q16, q17, q18, h⟩ := h
 obtain ⟨f, e19⟩ : ∃ B, B = (if bC = b then bB else Option.map (fun a : Addr => a.add (b * 1)) bB) := ⟨_, rfl⟩
 replace h := h f e19
 refine T_v1 20 (sliceN 146 (vs bB bN bC) none (some (vi nv)) none) (vs f (e - b) (bC - b)) (fun w _ => (slice_run (P := Tryz.prog) (t := 146) (elem := 5) (sz := 1) (a := bB) (len := bN) (cap := bC) none (some (vi nv)) b e Tryz.underlying146 (fun _=>by kernel_rfl) (.inl ⟨rfl, q15⟩) (.inr ⟨.i64, by rw [q16]⟩) q17 q18 w).trans (by rw [e19]; try rfl)) [18, 19] ?_
 exact T_nr 1 [2] [vs f (e - b) (bC - b)] hQ h
end moraineref02_cut

end Go.Proofs.YtdgejifkcfgliaaGreatDoor
