/- Printed: what each function asks, and that it is sound. -/
import Derived.Test.YtdgejifkcfgliaaGreatDoorFnsC
set_option linter.unusedSimpArgs false
set_option linter.unusedVariables false
set_option maxRecDepth 100000
set_option maxHeartbeats 1000000
noncomputable section
namespace Go.Proofs.YtdgejifkcfgliaaGreatDoor
open Go
/-! moraine/build.Heap -/
namespace build_Heap
def K0 := Func.code Tryz.f10
end build_Heap
def build_Heap.pt (hv : Option Addr) (s dC : Int) (t : Bool) (m : Option Addr) (o k : Nat) (dT : ByteArray) (ai : Option Addr) (aj ah : Nat) (H : Array Obj) (R : Value → Array Obj → Prop) : Prop :=
 ∀ (b : Nat) (H1 : Array Obj), b = H.size → H1 = H.push (.cells #[.pointer hv] 30) →
 ∀ (a : Nat) (H2 : Array Obj), a = H1.size → H2 = H1.push (.cells (DR s dC t m o k dT ai aj ah).toArray 27) →
 ∃ x : Option Addr, hat H2 (ad b) = some (.pointer x) ∧
 onPtr x (
 R (.tuple #[.int .u64 0, .int .i64 1]) H2) (fun xA =>
 ∃ aa xC z q p r xT am ak al, RowAt H2 (ad a) 0 (DR aa xC z q p r xT am ak al) ∧
 datum_May.C aa xC z q p r xT am ak al H2 (fun v H3 => ∃ ac : Bool, v = .bool ac ∧ 
 if ac = true then (
 ∀ (g : Nat) (H4 : Array Obj), g = H3.size → H4 = H3.push (.cells #[.nilFunc] 75) →
 (CanPuts H4 (ad g) 0 1) ∧ ∀ H5, H5 = hputs H4 (ad g) [.func (.func 26) #[] #[.pointer (some (ad b)), .pointer (some (ad g))]] 0 →
 ∃ ag : Value, hat H5 (ad g) = some (ag) ∧
 ∃ i af j d e f ae y ab u, RowAt H5 (ad a) 0 (DR i af j d e f ae y ab u) ∧
 FC Tryz.prog ag #[.agg (DR i af j d e f ae y ab u).toArray] H5 (fun an H6 => ∃ xa xb : Int, an = .tuple #[.int .u64 xa, .int .i64 xb] ∧ 
 R (.tuple #[.int .u64 xa, .int .i64 xb]) H6))
 else
 R (.tuple #[.int .u64 0, .int .i64 1]) H3))
namespace build_Heap
theorem link {hv : Option Addr} {s dC : Int} {t : Bool} {m : Option Addr} {o k : Nat} {dT : ByteArray} {ai : Option Addr} {aj ah : Nat} {H : Array Obj} {R : Value → Array Obj → Prop} (h : pt hv s dC t m o k dT ai aj ah H R) : C hv s dC t m o k dT ai aj ah H R := by
 refine T_en K0 20 Tryz.func10 ?_
 intro w0 Q hQ
 unfold pt at h
 refine T_su [(0, vp hv), (1, .agg (DR s dC t m o k dT ai aj ah).toArray)] <| T_srz 0 <| T_nw (some 2) (fun b => vp (pa b)) (.cells #[vp hv] 30) ?_
 intro b H1 e1 e2
 replace h := h b H1 e1 e2
 refine T_pd [0] [(2, vp (pa b))] <| T_nw (some 3) (fun b => vp (pa b)) (.cells (DR s dC t m o k dT ai aj ah).toArray 27) ?_
 intro a H2 e3 e4
 replace h := h a H2 e3 e4
 refine T_pd [1] [(3, vp (pa a))] <| T_ed 2 [] [] <| T_sz <| T_srz 1 ?_
 obtain ⟨x, q5, h⟩ := h
 refine T_l1 7 30 q5 [] ?_
 rcases x with _ | xA
 ·rw [onPtr_none] at h
  exact T_ed 6 [7] [(13, .bool true)] <| T_tz 13 <| T_srz 2 <| T_nr 2 [4, 5] [vu 0, vi 1] hQ h
 rw [onPtr_some] at h
 refine T_nd 2 [7] [(9, .bool false)] ?_
 obtain ⟨aa, xC, z, q, p, r, xT, am, ak, al, q6, h⟩ := h
 refine T_lr 10 27 q6 [] ?_
 refine T_c (some 11) h ?_; clear h
 rintro v H3 ⟨ac, rfl, h⟩
 refine T_pd [10] [(11, .bool ac)] <| T_ed 2 [9, 11] [(13, .bool (!ac))] ?_
 by_cases c7 : ac = true
 ·rw [if_pos c7] at h
  refine T_cFz 13 (congrArg Bool.not (c7)) <| T_kt <| T_srz 3 <| T_ud [13] [] <| T_nw (some 6) (fun b => vp (pa b)) (.cells #[.nilFunc] 75) ?_
  intro g H4 e9 e10
  replace h := h g H4 e9 e10
  refine T_pd [] [(6, vp (pa g))] <| T_e <| T_srz 4 <| T_nd 1 [2] [(14, .func (.func 26) #[] #[vp (pa b), vp (pa g)])] ?_
  obtain ⟨q12, h⟩ := h
  refine T_st1 75 (.func (.func 26) #[] #[vp (pa b), vp (pa g)]) q12 ?_
  intro H5 e11
  replace h := h H5 e11
  refine T_pd [14] [] <| T_e <| T_srz 5 ?_
  obtain ⟨ag, q13, h⟩ := h
  refine T_l1 15 75 q13 [6] ?_
  obtain ⟨i, af, j, d, e, f, ae, y, ab, u, q14, h⟩ := h
  refine T_lr 16 27 q14 [3] ?_
  refine N_callv (some 17) ag #[.agg (DR i af j d e f ae y ab u).toArray] (fun _=>by kernel_rfl) h ?_; clear h
  rintro an H6 ⟨xa, xb, rfl, h⟩
  refine ⟨[(17, .tuple #[vu xa, vi xb])], pk, ?_⟩
  exact T_nr 4 [4, 5] [vu xa, vi xb] hQ h
 rw [if_neg c7] at h
 exact T_cTz 13 (congrArg Bool.not (eq_false_of_ne_true c7)) <| T_srz 2 <| T_nr 2 [4, 5] [vu 0, vi 1] hQ h
end build_Heap

/-! moraine/build.Datum -/
namespace build_Datum
def K0 := Func.code Tryz.f12
end build_Datum
def build_Datum.pt (hv : Option Addr) (wv : Int) (H : Array Obj) (R : Value → Array Obj → Prop) : Prop :=
 ∀ (b : Nat) (H1 : Array Obj), b = H.size → H1 = H.push (.cells (DR 0 0 false none 0 0 (ByteArray.mk #[]) none 0 0).toArray 27) →
 onPtr hv (
 (CanPuts H1 (ad b) 0 6) ∧ ∀ H2, H2 = hputs H1 (ad b) (DR 0 0 false none 0 0 (ByteArray.mk #[]) none 0 0) 0 →
 ∃ av rC aw aj ag ah rT a7 a6 a5, RowAt H2 (ad b) 0 (DR av rC aw aj ag ah rT a7 a6 a5) ∧
 R (.tuple #[.agg (DR av rC aw aj ag ah rT a7 a6 a5).toArray, .int .i64 3]) H2) (fun a4 =>
 ∀ (al : Nat) (H3 : Array Obj), al = H1.size → H3 = H1.push (.cells #[.pointer (some a4), .int .i64 0] 85) →
 build_reader_datum.C (some (ad al)) wv 0 H3 (fun v H4 => ∃ (f ai : Int) (g : Bool) (e : Option Addr) (a d : Nat) (ak : ByteArray) (q : Option Addr) (s r : Nat) (rb : Int), v = .tuple #[.agg (DR f ai g e a d ak q s r).toArray, .int .i64 rb] ∧ 
 ∀ (m : Nat) (H5 : Array Obj), m = H4.size → H5 = H4.push (.cells (DR 0 0 false none 0 0 (ByteArray.mk #[]) none 0 0).toArray 27) →
 (CanPuts H5 (ad m) 0 6) ∧ ∀ H6, H6 = hputs H5 (ad m) (DR f ai g e a d ak q s r) 0 →
 if rb = 0 then (
 ∃ p xC o j i k xT ao am an, RowAt H6 (ad m) 0 (DR p xC o j i k xT ao am an) ∧
 (CanPuts H6 (ad b) 0 6) ∧ ∀ H7, H7 = hputs H6 (ad b) (DR p xC o j i k xT ao am an) 0 →
 ∃ ab a2 af y x u a0 ax ay az, RowAt H7 (ad b) 0 (DR ab a2 af y x u a0 ax ay az) ∧
 R (.tuple #[.agg (DR ab a2 af y x u a0 ax ay az).toArray, .int .i64 0]) H7)
 else
 (CanPuts H6 (ad b) 0 6) ∧ ∀ H8, H8 = hputs H6 (ad b) (DR 0 0 false none 0 0 (ByteArray.mk #[]) none 0 0) 0 →
 ∃ ac a1 ae z aa t a3 au ap aq, RowAt H8 (ad b) 0 (DR ac a1 ae z aa t a3 au ap aq) ∧
 R (.tuple #[.agg (DR ac a1 ae z aa t a3 au ap aq).toArray, .int .i64 rb]) H8))
namespace build_Datum
theorem link {hv : Option Addr} {wv : Int} {H : Array Obj} {R : Value → Array Obj → Prop} (h : pt hv wv H R) : C hv wv H R := by
 refine T_en K0 26 Tryz.func12 ?_
 intro w0 Q hQ
 unfold pt at h
 refine T_su [(0, vp hv), (1, vu wv)] <| T_srz 0 <| T_nw (some 4) (fun b => vp (pa b)) (.cells (DR 0 0 false none 0 0 (ByteArray.mk #[]) none 0 0).toArray 27) ?_
 intro b H1 e1 e2
 replace h := h b H1 e1 e2
 refine T_pd [] [(4, vp (pa b))] <| T_ed 1 [] [] <| T_sz <| T_srz 1 <| T_nd 1 [] [(9, vp hv)] ?_
 rcases hv with _ | a4
 ·rw [onPtr_none] at h
  refine T_ed 1 [0, 9] [(0, vp none), (10, .bool true)] <| T_tz 10 <| T_srz 2 <| T_nd 1 [0, 1, 10] [(11, .agg (DR 0 0 false none 0 0 (ByteArray.mk #[]) none 0 0).toArray)] ?_
  obtain ⟨q4, h⟩ := h
  refine T_sta 27 (DR 0 0 false none 0 0 (ByteArray.mk #[]) none 0 0) q4 ?_
  intro H2 e3
  replace h := h H2 e3
  refine T_pd [11] [] <| T_ed 1 [] [(5, vi 3)] ?_
  refine S_ret (by kernel_rfl) ?_
  show At _ _ _ _ _ (Q .ret)
  obtain ⟨av, rC, aw, aj, ag, ah, rT, a7, a6, a5, q5, h⟩ := h
  exact S_done (fn := Tryz.f12) [.agg (DR av rC aw aj ag ah rT a7 a6 a5).toArray, vi 3] hQ (show ResOK _ _ _ [.cell 4 27, .tmp 5] _ from .cell (by kernel_rfl) (loadOK_row (fun _=>by kernel_rfl) (fun _=>by kernel_rfl) q5) (.tmp (by kernel_rfl) (.nil))) h
 rw [onPtr_some] at h
 refine T_ed 1 [0, 9] [(0, vp (some a4)), (10, .bool false)] <| T_fz 10 <| T_kt <| T_srz 3 <| T_nd 2 [0, 10] [(13, .agg #[vp (some a4), vi 0])] <| T_nw (some 14) (fun b => vp (pa b)) (.cells #[vp (some a4), vi 0] 85) ?_
 intro al H3 e6 e7
 replace h := h al H3 e6 e7
 refine T_pd [13] [(14, vp (pa al))] <| T_ed 1 [14] [(6, vp (pa al))] <| T_srz 4 <| T_nd 2 [1, 6] [(16, vp (pa al)), (17, vu wv)] ?_
 refine T_c (some 18) h ?_; clear h
 rintro v H4 ⟨f, ai, g, e, a, d, ak, q, s, r, rb, rfl, h⟩
 refine T_pd [16, 17] [(18, .tuple #[.agg (DR f ai g e a d ak q s r).toArray, vi rb])] <| T_nd 3 [18] [(19, .agg (DR f ai g e a d ak q s r).toArray), (20, vi rb)] <| T_nw (some 7) (fun b => vp (pa b)) (.cells (DR 0 0 false none 0 0 (ByteArray.mk #[]) none 0 0).toArray 27) ?_
 intro m H5 e8 e9
 replace h := h m H5 e8 e9
 refine T_pd [] [(7, vp (pa m))] ?_
 obtain ⟨q11, h⟩ := h
 refine T_sta 27 (DR f ai g e a d ak q s r) q11 ?_
 intro H6 e10
 replace h := h H6 e10
 refine T_pd [19] [] <| T_ed 1 [20] [(8, vi rb)] <| T_sz <| T_srz 5 <| T_ed 2 [] [(22, .bool (rb != 0))] ?_
 by_cases c12 : rb = 0
 ·rw [if_pos c12] at h
  refine T_cFz 22 (bne_eq_false_iff_eq.mpr c12) <| T_kt <| T_srz 7 <| T_ud [8, 22] [] ?_
  obtain ⟨p, xC, o, j, i, k, xT, ao, am, an, q14, h⟩ := h
  refine T_lr 25 27 q14 [7] ?_
  obtain ⟨q16, h⟩ := h
  refine T_sta 27 (DR p xC o j i k xT ao am an) q16 ?_
  intro H7 e15
  replace h := h H7 e15
  refine T_pd [25] [] <| T_ed 1 [] [(5, vi 0)] ?_
  refine S_ret (by kernel_rfl) ?_
  show At _ _ _ _ _ (Q .ret)
  obtain ⟨ab, a2, af, y, x, u, a0, ax, ay, az, q17, h⟩ := h
  exact S_done (fn := Tryz.f12) [.agg (DR ab a2 af y x u a0 ax ay az).toArray, vi 0] hQ (show ResOK _ _ _ [.cell 4 27, .tmp 5] _ from .cell (by kernel_rfl) (loadOK_row (fun _=>by kernel_rfl) (fun _=>by kernel_rfl) q17) (.tmp (by kernel_rfl) (.nil))) h
 rw [if_neg c12] at h
 refine T_cTz 22 (bne_iff_ne.mpr c12) <| T_srz 6 <| T_nd 2 [7, 8, 22] [(23, .agg (DR 0 0 false none 0 0 (ByteArray.mk #[]) none 0 0).toArray), (24, vi rb)] ?_
 obtain ⟨q19, h⟩ := h
 refine T_sta 27 (DR 0 0 false none 0 0 (ByteArray.mk #[]) none 0 0) q19 ?_
 intro H8 e18
 replace h := h H8 e18
 refine T_pd [23] [] <| T_ed 1 [24] [(5, vi rb)] ?_
 refine S_ret (by kernel_rfl) ?_
 show At _ _ _ _ _ (Q .ret)
 obtain ⟨ac, a1, ae, z, aa, t, a3, au, ap, aq, q20, h⟩ := h
 exact S_done (fn := Tryz.f12) [.agg (DR ac a1 ae z aa t a3 au ap aq).toArray, vi rb] hQ (show ResOK _ _ _ [.cell 4 27, .tmp 5] _ from .cell (by kernel_rfl) (loadOK_row (fun _=>by kernel_rfl) (fun _=>by kernel_rfl) q20) (.tmp (by kernel_rfl) (.nil))) h
end build_Datum

/-! moraine/build.Heap.1 -/
namespace build_Heap_1
def K0 := Func.code Tryz.f26
def K2 := cb K0
def K3 := ca K2
def K6 := cb K3
def K7 := ca K6
def K9 := cb K7
def K11 := cb K9
def K15 := cb K11
def K17 := cb K15
def K21 := cb K17
def K23 := cb K21
def K27 := cb K23
def K29 := cb K27
def K33 := cb K29
def K35 := cb K33
def K39 := cb K35
def K41 := cb K39
def K45 := cb K41
def K47 := cb K45
def K51 := cb K47
def K53 := cb K51
def K57 := cb K53
def K58 := ca K57
def K59 := cb K57
def K61 := cb K58
def K62 := ca K61
def K65 := cb K62
def K66 := ca K65
def K67 := ca K66
def K92 := cb K59
def K93 := ca K92
def K96 := cb K93
def K97 := ca K96
def K98 := cb K96
def K99 := ca K97
def K100 := ca K99
def K111 := cb K98
def K112 := ca K111
def K115 := cb K112
def K116 := ca K115
def K117 := ca K116
def K119 := cb K117
def K124 := ca K119
def K126 := ca K124
def K128 := cb K126
def K129 := ca K128
end build_Heap_1
def build_Heap_1.pt (cc dC : Int) (cd : Bool) (bc : Option Addr) (bd bb : Nat) (dT : ByteArray) (dt : Option Addr) (du dr : Nat) (d f : Option Addr) (H : Array Obj) (R : Value → Array Obj → Prop) : Prop :=
 ∀ (b : Nat) (H1 : Array Obj), b = H.size → H1 = H.push (.cells (DR cc dC cd bc bd bb dT dt du dr).toArray 27) →
 ∃ x : Int, hat H1 (ad b) = some (.int .i64 x) ∧
 if x = 1 then (
 R (.tuple #[.int .u64 12, .int .i64 0]) H1)
 else
 if x = 2 then (
 R (.tuple #[.int .u64 4, .int .i64 0]) H1)
 else
 if x = 9 then (
 R (.tuple #[.int .u64 36, .int .i64 0]) H1)
 else
 if x = 10 then (
 R (.tuple #[.int .u64 28, .int .i64 0]) H1)
 else
 if x = 3 then (
 ∃ dm : Int, hat H1 ((ad b).add 1) = some (.int .i32 dm) ∧
 word_Char.C dm H1 (fun v H2 => ∃ ra rb : Int, v = .tuple #[.int .u64 ra, .int .i64 rb] ∧ 
 R (.tuple #[.int .u64 ra, .int .i64 rb]) H2))
 else
 if x = 4 then (
 ∃ dd : Addr, d = some dd ∧
 ∃ db : Option Addr, hat H1 dd = some (.pointer db) ∧
 ∃ (cv : Bool) (b1 : Option Addr) (bz bq : Nat), RowAt H1 ((ad b).add 2) 0 [.bool cv, .slice b1 bz bq] ∧
 obj_Heap_Int.C db cv b1 bz bq H1 (fun d7 H3 => ∃ cz ct : Int, d7 = .tuple #[.int .u64 cz, .int .i64 ct] ∧ 
 R (.tuple #[.int .u64 cz, .int .i64 ct]) H3))
 else
 if x = 5 then (
 ∃ b3 : Addr, d = some b3 ∧
 ∃ da : Option Addr, hat H1 b3 = some (.pointer da) ∧
 ∃ dl : ByteArray, hat H1 ((ad b).add 4) = some (.string dl) ∧
 obj_Heap_String.C da dl H1 (fun d9 H4 => ∃ c1 c2 : Int, d9 = .tuple #[.int .u64 c1, .int .i64 c2] ∧ 
 R (.tuple #[.int .u64 c1, .int .i64 c2]) H4))
 else
 if x = 6 then (
 ∃ bs : Addr, d = some bs ∧
 ∃ dc : Option Addr, hat H1 bs = some (.pointer dc) ∧
 ∃ dn : ByteArray, hat H1 ((ad b).add 4) = some (.string dn) ∧
 syms_Intern.C dc dn H1 (fun d1 H5 => ∃ c7 c5 : Int, d1 = .tuple #[.int .u64 c7, .int .i64 c5] ∧ 
 R (.tuple #[.int .u64 c7, .int .i64 c5]) H5))
 else
 if x = 8 then (
 ∃ (xB : Option Addr) (xN xC : Nat), hat H1 ((ad b).add 5) = some (.slice xB xN xC) ∧
 ∃ (dw : (Option Addr) → Nat → Nat → Int → Array Obj → Prop) (m68 : (Option Addr) → Nat → Nat → Int → Array Obj → Nat), dw none 0 0 0 H1 ∧ ∀ (lB : Option Addr) (lN : Nat) (lC : Nat) (s62 : Int) (H6 : Array Obj), dw lB lN lC s62 H6 →
 if s62 < (xN : Int) then (
 ∃ q : Addr, xB = some q ∧
 ((0 : Int) ≤ s62 ∧ s62 < (xN : Int)) ∧
 ∃ az bg ay ai af ag xT co cm cn, RowAt H6 (q.add (Int.toNat s62 * 6)) 0 (DR az bg ay ai af ag xT co cm cn) ∧
 ∀ (bj : Nat) (H7 : Array Obj), bj = H6.size → H7 = H6.push (.cells (DR 0 0 false none 0 0 (ByteArray.mk #[]) none 0 0).toArray 27) →
 (CanPuts H7 (ad bj) 0 6) ∧ ∀ H8, H8 = hputs H7 (ad bj) (DR az bg ay ai af ag xT co cm cn) 0 →
 ∃ p : Addr, f = some p ∧
 ∃ dg : Value, hat H8 p = some (dg) ∧
 ∃ a5 c3 a3 aw am ao cq b4 b0 bw, RowAt H8 (ad bj) 0 (DR a5 c3 a3 aw am ao cq b4 b0 bw) ∧
 FC Tryz.prog dg #[.agg (DR a5 c3 a3 aw am ao cq b4 b0 bw).toArray] H8 (fun d8 H9 => ∃ xa xb : Int, d8 = .tuple #[.int .u64 xa, .int .i64 xb] ∧ 
 if xb = 0 then (
 ∀ (dq : Nat) (H10 : Array Obj), dq = H9.size → H10 = H9.push (.cells #[.int .u64 xa] 35) →
 appendK 1 35 8 [.int .u64 0] lB lN lC (some (ad dq)) 1 H10 (fun ap dh dy =>
 (dw ap (lN + 1) dh (IntKind.wrap .i64 (s62 + 1)) dy ∧ m68 ap (lN + 1) dh (IntKind.wrap .i64 (s62 + 1)) dy < m68 lB lN lC s62 H6)))
 else
 R (.tuple #[.int .u64 0, .int .i64 xb]) H9))
 else
 ∃ b8 : Addr, d = some b8 ∧
 ∃ de : Option Addr, hat H6 b8 = some (.pointer de) ∧
 obj_Heap_Make.C de 1 0 lB lN lC H6 (fun d4 d0 => ∃ cu c0 : Int, d4 = .tuple #[.int .u64 cu, .int .i64 c0] ∧ 
 R (.tuple #[.int .u64 cu, .int .i64 c0]) d0))
 else
 if x = 7 then (
 ∃ (di : (Option Addr) → Nat → Nat → Array Obj → Prop) (m101 : (Option Addr) → Nat → Nat → Array Obj → Nat), di none 0 0 H1 ∧ ∀ (j : Option Addr) (carsN : Nat) (carsC : Nat) (H13 : Array Obj), di j carsN carsC H13 →
 ∃ bi : Int, hat H13 (ad b) = some (.int .i64 bi) ∧
 if bi = 7 then (
 ∃ (dj : Option Addr) (ce cr : Nat), hat H13 ((ad b).add 5) = some (.slice dj ce cr) ∧
 ∃ bl : Addr, dj = some bl ∧
 ((0 : Int) ≤ 0 ∧ 0 < (ce : Int)) ∧
 ∃ a4 cx a2 ak ax au cs b6 bu br, RowAt H13 (bl.add (Int.toNat 0 * 6)) 0 (DR a4 cx a2 ak ax au cs b6 bu br) ∧
 ∀ (dk : Nat) (H14 : Array Obj), dk = H13.size → H14 = H13.push (.cells (DR a4 cx a2 ak ax au cs b6 bu br).toArray 27) →
 appendK 6 27 88 (DR 0 0 false none 0 0 (ByteArray.mk #[]) none 0 0) j carsN carsC (some (ad dk)) 1 H14 (fun a7 ah dp =>
 ∃ (df : Option Addr) (ck cw : Nat), hat dp ((ad b).add 5) = some (.slice df ck cw) ∧
 ∃ bn : Addr, df = some bn ∧
 ((0 : Int) ≤ 1 ∧ 1 < (ck : Int)) ∧
 ∃ ac bo ae r s u bp a9 ba a8, RowAt dp (bn.add (Int.toNat 1 * 6)) 0 (DR ac bo ae r s u bp a9 ba a8) ∧
 (CanPuts dp (ad b) 0 6) ∧ ∀ dv, dv = hputs dp (ad b) (DR ac bo ae r s u bp a9 ba a8) 0 →
 (di a7 (carsN + 1) ah dv ∧ m101 a7 (carsN + 1) ah dv < m101 j carsN carsC H13)))
 else
 ∃ e : Addr, f = some e ∧
 ∃ cl : Value, hat H13 e = some (cl) ∧
 ∃ a1 cp a0 aq an al cy bx b2 bt, RowAt H13 (ad b) 0 (DR a1 cp a0 aq an al cy bx b2 bt) ∧
 FC Tryz.prog cl #[.agg (DR a1 cp a0 aq an al cy bx b2 bt).toArray] H13 (fun d3 d5 => ∃ cg ch : Int, d3 = .tuple #[.int .u64 cg, .int .i64 ch] ∧ 
 ∃ (c9 : Int → Int → Int → Array Obj → Prop) (m118 : Int → Int → Int → Array Obj → Nat), c9 cg ch (IntKind.wrap .i64 ((carsN : Int) - 1)) d5 ∧ ∀ (wv : Int) (ev : Int) (i : Int) (H18 : Array Obj), c9 wv ev i H18 →
 if ((decide (i ≥ 0)) && (ev == 0)) = true then (
 ∃ a6 : Value, hat H18 e = some (a6) ∧
 ∃ g : Addr, j = some g ∧
 ((0 : Int) ≤ i ∧ i < (carsN : Int)) ∧
 ∃ av cj aj ab z aa ci be bf bh, RowAt H18 (g.add (Int.toNat i * 6)) 0 (DR av cj aj ab z aa ci be bf bh) ∧
 FC Tryz.prog a6 #[.agg (DR av cj aj ab z aa ci be bf bh).toArray] H18 (fun d2 dx => ∃ o m : Int, d2 = .tuple #[.int .u64 o, .int .i64 m] ∧ 
 if m = 0 then (
 ∃ y : Addr, d = some y ∧
 ∃ cf : Option Addr, hat dx y = some (.pointer cf) ∧
 obj_Heap_Cons.C cf o wv dx (fun d6 dz => ∃ bk bm : Int, d6 = .tuple #[.int .u64 bk, .int .i64 bm] ∧ 
 (c9 bk bm (IntKind.wrap .i64 (i - 1)) dz ∧ m118 bk bm (IntKind.wrap .i64 (i - 1)) dz < m118 wv ev i H18)))
 else
 (c9 wv m (IntKind.wrap .i64 (i - 1)) dx ∧ m118 wv m (IntKind.wrap .i64 (i - 1)) dx < m118 wv ev i H18)))
 else
 if ev = 0 then (
 R (.tuple #[.int .u64 wv, .int .i64 0]) H18)
 else
 R (.tuple #[.int .u64 0, .int .i64 ev]) H18))
 else
 R (.tuple #[.int .u64 20, .int .i64 0]) H1
namespace build_Heap_1
theorem link {cc dC : Int} {cd : Bool} {bc : Option Addr} {bd bb : Nat} {dT : ByteArray} {dt : Option Addr} {du dr : Nat} {d f : Option Addr} {H : Array Obj} {R : Value → Array Obj → Prop} (h : pt cc dC cd bc bd bb dT dt du dr d f H R) : C cc dC cd bc bd bb dT dt du dr d f H R := by
 refine T_en K0 140 Tryz.func26 ?_
 intro w0 Q hQ
 unfold pt at h
 refine T_su [(0, .agg (DR cc dC cd bc bd bb dT dt du dr).toArray), (1, vp d), (2, vp f)] <| T_srz 0 <| T_nw (some 3) (fun b => vp (pa b)) (.cells (DR cc dC cd bc bd bb dT dt du dr).toArray 27) ?_
 intro b H1 e1 e2
 replace h := h b H1 e1 e2
 refine T_pd [0] [(3, vp (pa b))] <| T_ed 2 [] [] <| T_sz <| T_srz 1 <| T_nd 1 [] [(16, vp (pa b))] ?_
 obtain ⟨x, q3, h⟩ := h
 refine T_l1 17 3 q3 [16] <| T_e <| T_bz 0 <| T_srz 2 <| T_ed 2 [] [(18, .bool (x == 1))] ?_
 by_cases c4 : x = 1
 ·rw [if_pos c4] at h
  exact T_cTz 18 (beq_iff_eq.mpr c4) <| T_srz 3 <| T_nr 2 [4, 5] [vu 12, vi 0] hQ h
 rw [if_neg c4] at h
 refine T_cFz 18 (beq_eq_false_iff_ne.mpr c4) <| T_srz 4 <| T_ed 2 [18] [(20, .bool (x == 2))] ?_
 by_cases c6 : x = 2
 ·rw [if_pos c6] at h
  exact T_cTz 20 (beq_iff_eq.mpr c6) <| T_srz 5 <| T_nr 2 [4, 5] [vu 4, vi 0] hQ h
 rw [if_neg c6] at h
 refine T_cFz 20 (beq_eq_false_iff_ne.mpr c6) <| T_srz 6 <| T_ed 2 [20] [(22, .bool (x == 9))] ?_
 by_cases c8 : x = 9
 ·rw [if_pos c8] at h
  exact T_cTz 22 (beq_iff_eq.mpr c8) <| T_srz 7 <| T_nr 2 [4, 5] [vu 36, vi 0] hQ h
 rw [if_neg c8] at h
 refine T_cFz 22 (beq_eq_false_iff_ne.mpr c8) <| T_srz 8 <| T_ed 2 [22] [(24, .bool (x == 10))] ?_
 by_cases c10 : x = 10
 ·rw [if_pos c10] at h
  exact T_cTz 24 (beq_iff_eq.mpr c10) <| T_srz 9 <| T_nr 2 [4, 5] [vu 28, vi 0] hQ h
 rw [if_neg c10] at h
 refine T_cFz 24 (beq_eq_false_iff_ne.mpr c10) <| T_srz 10 <| T_ed 2 [24] [(26, .bool (x == 3))] ?_
 by_cases c12 : x = 3
 ·rw [if_pos c12] at h
  refine T_cTz 26 (beq_iff_eq.mpr c12) <| T_srz 11 <| T_n 1 [(28, vp (some ((ad b).add 1)))] ?_
  obtain ⟨dm, q14, h⟩ := h
  refine T_l1 29 21 q14 [28] ?_
  refine T_c (some 30) h ?_; clear h
  rintro v H2 ⟨ra, rb, rfl, h⟩
  refine ⟨[(30, .tuple #[vu ra, vi rb])], pk, ?_⟩
  exact T_nr 4 [4, 5] [vu ra, vi rb] hQ h
 rw [if_neg c12] at h
 refine T_cFz 26 (beq_eq_false_iff_ne.mpr c12) <| T_srz 12 <| T_ed 2 [26] [(33, .bool (x == 4))] ?_
 by_cases c15 : x = 4
 ·rw [if_pos c15] at h
  refine T_cTz 33 (beq_iff_eq.mpr c15) <| T_srz 13 <| T_ud [2, 17, 33] [] ?_
  obtain ⟨dd, rfl, h⟩ := h
  obtain ⟨db, q17, h⟩ := h
  refine T_l1 35 30 q17 [1] <| T_nd 1 [3] [(36, vp (some ((ad b).add 2)))] ?_
  obtain ⟨cv, b1, bz, bq, q18, h⟩ := h
  refine T_lr 37 24 q18 [36] ?_
  refine T_c (some 38) h ?_; clear h
  rintro d7 H3 ⟨cz, ct, rfl, h⟩
  refine ⟨[(38, .tuple #[vu cz, vi ct])], pk, ?_⟩
  exact T_nr 4 [4, 5] [vu cz, vi ct] hQ h
 rw [if_neg c15] at h
 refine T_cFz 33 (beq_eq_false_iff_ne.mpr c15) <| T_srz 14 <| T_ed 2 [33] [(41, .bool (x == 5))] ?_
 by_cases c19 : x = 5
 ·rw [if_pos c19] at h
  refine T_cTz 41 (beq_iff_eq.mpr c19) <| T_srz 15 <| T_ud [2, 17, 41] [] ?_
  obtain ⟨b3, rfl, h⟩ := h
  obtain ⟨da, q21, h⟩ := h
  refine T_l1 43 30 q21 [1] <| T_nd 1 [3] [(44, vp (some ((ad b).add 4)))] ?_
  obtain ⟨dl, q22, h⟩ := h
  refine T_l1 45 9 q22 [44] ?_
  refine T_c (some 46) h ?_; clear h
  rintro d9 H4 ⟨c1, c2, rfl, h⟩
  refine ⟨[(46, .tuple #[vu c1, vi c2])], pk, ?_⟩
  exact T_nr 4 [4, 5] [vu c1, vi c2] hQ h
 rw [if_neg c19] at h
 refine T_cFz 41 (beq_eq_false_iff_ne.mpr c19) <| T_srz 16 <| T_ed 2 [41] [(49, .bool (x == 6))] ?_
 by_cases c23 : x = 6
 ·rw [if_pos c23] at h
  refine T_cTz 49 (beq_iff_eq.mpr c23) <| T_srz 17 <| T_ud [2, 17, 49] [] ?_
  obtain ⟨bs, rfl, h⟩ := h
  obtain ⟨dc, q25, h⟩ := h
  refine T_l1 51 30 q25 [1] <| T_nd 1 [3] [(52, vp (some ((ad b).add 4)))] ?_
  obtain ⟨dn, q26, h⟩ := h
  refine T_l1 53 9 q26 [52] ?_
  refine T_c (some 54) h ?_; clear h
  rintro d1 H5 ⟨c7, c5, rfl, h⟩
  refine ⟨[(54, .tuple #[vu c7, vi c5])], pk, ?_⟩
  exact T_nr 4 [4, 5] [vu c7, vi c5] hQ h
 rw [if_neg c23] at h
 refine T_cFz 49 (beq_eq_false_iff_ne.mpr c23) <| T_srz 18 <| T_ed 2 [49] [(57, .bool (x == 8))] ?_
 by_cases c27 : x = 8
 ·rw [if_pos c27] at h
  refine T_cTz 57 (beq_iff_eq.mpr c27) <| T_srz 19 <| T_ed 1 [17, 57] [(6, vs none 0 0)] <| T_sz <| T_srz 20 <| T_nd 1 [3] [(59, vp (some ((ad b).add 5)))] ?_
  obtain ⟨xB, xN, xC, q29, h⟩ := h
  refine T_l1 60 25 q29 [59] <| T_ed 2 [] [(61, vi xN), (62, vi 0)] <| T_bz 1 ?_
  obtain ⟨dw, m68, i30, i31⟩ := h
  refine S_loop (x := K67) (σ := (Option Addr) × Nat × Nat × Int) (fun s_ => [(1, vp d), (2, vp f), (6, vs s_.1 s_.2.1 s_.2.2.1), (60, vs xB xN xC), (61, vi xN), (62, vi s_.2.2.2)]) (fun s_ H => dw s_.1 s_.2.1 s_.2.2.1 s_.2.2.2 H) (fun s_ H => m68 s_.1 s_.2.1 s_.2.2.1 s_.2.2.2 H) ((none, 0, 0, 0) : (Option Addr) × Nat × Nat × Int) (by kernel_rfl) i30 sk ?_
  rintro ⟨lB, lN, lC, s62⟩ H6 i32
  have h := i31 lB lN lC s62 H6 i32
  refine T_su [(1, vp d), (2, vp f), (6, vs lB lN lC), (60, vs xB xN xC), (61, vi xN), (62, vi s62)] <| T_srz 21 <| T_ed 1 [] [(63, .bool (decide (s62 < (xN : Int))))] <| T_sz ?_
  by_cases c33 : s62 < (xN : Int)
  ·rw [if_pos c33] at h
   refine T_cTz 63 (decide_eq_true c33) <| T_kt <| T_sz <| T_bz 2 <| T_srz 22 <| T_ud [63] [] ?_
   obtain ⟨q, rfl, h⟩ := h
   obtain ⟨q35, h⟩ := h
   refine T_xd (some 64) 25 27 6 q xN xC .i64 s62 Tryz.underlying25 q35.1 q35.2 [60] [(60, vs (some q) xN xC), (64, vp (some (q.add (Int.toNat s62 * 6))))] ?_
   obtain ⟨az, bg, ay, ai, af, ag, xT, co, cm, cn, q36, h⟩ := h
   refine T_lr 65 27 q36 [64] <| T_nw (some 8) (fun b => vp (pa b)) (.cells (DR 0 0 false none 0 0 (ByteArray.mk #[]) none 0 0).toArray 27) ?_
   intro bj H7 e37 e38
   replace h := h bj H7 e37 e38
   refine T_pd [] [(8, vp (pa bj))] ?_
   obtain ⟨q40, h⟩ := h
   refine T_sta 27 (DR az bg ay ai af ag xT co cm cn) q40 ?_
   intro H8 e39
   replace h := h H8 e39
   refine T_pd [65] [] <| T_e <| T_srz 23 ?_
   obtain ⟨p, rfl, h⟩ := h
   obtain ⟨dg, q41, h⟩ := h
   refine T_ld (some 67) 75 q41 [2] [(2, vp (some p)), (67, dg)] ?_
   obtain ⟨a5, c3, a3, aw, am, ao, cq, b4, b0, bw, q42, h⟩ := h
   refine T_lr 68 27 q42 [8] ?_
   refine N_callv (some 69) dg #[.agg (DR a5 c3 a3 aw am ao cq b4 b0 bw).toArray] (fun _=>by kernel_rfl) h ?_; clear h
   rintro d8 H9 ⟨xa, xb, rfl, h⟩
   refine T_pd [67, 68] [(69, .tuple #[vu xa, vi xb])] <| T_ed 5 [69] [(9, vu xa), (10, vi xb)] <| T_sz <| T_srz 24 <| T_ed 2 [] [(73, .bool (xb != 0))] ?_
   by_cases c43 : xb = 0
   ·rw [if_pos c43] at h
    refine T_cFz 73 (bne_eq_false_iff_eq.mpr c43) <| T_kt <| T_rz 26 <| T_nd 2 [6, 9, 10, 73] [(75, vs lB lN lC), (76, vu xa)] <| T_nw (some 77) (fun b => vs (pa b) 1 1) (.cells #[vu xa] 35) ?_
    intro dq H10 e45 e46
    replace h := h dq H10 e45 e46
    refine T_pd [76] [(77, vs (pa dq) 1 1)] ?_
    refine N_op (some 78) (appendN #[43, 43] 43 #[vs lB lN lC, vs (pa dq) 1 1]) _ (fun _=>by kernel_rfl) (ss_append (T := 35) (sz := 1) (bytes := 8) (zero := (vu 0 : Value)) Tryz.underlying43 Tryz.underlying43 rfl (show Tryz.prog.info? 35 = some Tryz.t35 from by kernel_rfl) (by kernel_rfl) (by kernel_rfl) (by decide) (by kernel_rfl) (by first | exact h | (simpa only [Value.cells, List.toList_toArray] using h))) ?_; clear h
    rintro _ dy ⟨ap, dh, rfl, h⟩
    refine T_pd [75, 77] [(78, vs ap (lN + 1) dh)] <| T_nd 1 [78] [(6, vs ap (lN + 1) dh)] ?_
    refine N_end (by kernel_rfl) ?_
    refine S_blockEnd ?_
    refine S_then ?_
    refine T_rz 27 <| T_ed 2 [62] [(62, vi (IntKind.wrap .i64 (s62 + 1)))] ?_
    exact S_round ((ap, (lN + 1), dh, (IntKind.wrap .i64 (s62 + 1))) : (Option Addr) × Nat × Nat × Int) sk h
   rw [if_neg c43] at h
   exact T_cTz 73 (bne_iff_ne.mpr c43) <| T_srz 25 <| T_nr 3 [4, 5] [vu 0, vi xb] hQ h
  rw [if_neg c33] at h
  refine T_cFz 63 (decide_eq_false c33) ?_
  refine S_exit 1 (by kernel_rfl) ?_
  refine S_exitThen ?_
  refine S_exitThen ?_
  refine S_exitHere ?_
  refine S_then ?_
  refine T_srz 28 <| T_ud [2, 60, 61, 62, 63] [] ?_
  obtain ⟨b8, rfl, h⟩ := h
  obtain ⟨de, q47, h⟩ := h
  refine T_l1 80 30 q47 [1] <| T_nd 1 [6] [(81, vs lB lN lC)] ?_
  refine T_c (some 82) h ?_; clear h
  rintro d4 d0 ⟨cu, c0, rfl, h⟩
  refine ⟨[(82, .tuple #[vu cu, vi c0])], pk, ?_⟩
  exact T_nr 4 [4, 5] [vu cu, vi c0] hQ h
 rw [if_neg c27] at h
 refine T_cFz 57 (beq_eq_false_iff_ne.mpr c27) <| T_srz 29 <| T_ed 2 [17, 57] [(85, .bool (x == 7))] ?_
 by_cases c48 : x = 7
 ·rw [if_pos c48] at h
  refine T_cTz 85 (beq_iff_eq.mpr c48) <| T_srz 30 <| T_ed 1 [85] [(11, vs none 0 0)] <| T_sz <| T_bz 3 ?_
  obtain ⟨di, m101, i50, i51⟩ := h
  refine S_loop (x := K100) (σ := (Option Addr) × Nat × Nat) (fun s_ => [(1, vp d), (2, vp f), (3, vp (pa b)), (11, vs s_.1 s_.2.1 s_.2.2)]) (fun s_ H => di s_.1 s_.2.1 s_.2.2 H) (fun s_ H => m101 s_.1 s_.2.1 s_.2.2 H) ((none, 0, 0) : (Option Addr) × Nat × Nat) (by kernel_rfl) i50 sk ?_
  rintro ⟨j, carsN, carsC⟩ H13 i52
  have h := i51 j carsN carsC H13 i52
  refine T_su [(1, vp d), (2, vp f), (3, vp (pa b)), (11, vs j carsN carsC)] <| T_sz <| T_srz 31 <| T_nd 1 [] [(87, vp (pa b))] ?_
  obtain ⟨bi, q53, h⟩ := h
  refine T_l1 88 3 q53 [87] <| T_ed 1 [88] [(89, .bool (bi == 7))] ?_
  by_cases c54 : bi = 7
  ·rw [if_pos c54] at h
   refine T_cTz 89 (beq_iff_eq.mpr c54) <| T_kt <| T_bz 4 <| T_srz 32 <| T_nd 2 [11, 89] [(90, vs j carsN carsC), (91, vp (some ((ad b).add 5)))] ?_
   obtain ⟨dj, ce, cr, q56, h⟩ := h
   refine T_l1 92 25 q56 [91] ?_
   obtain ⟨bl, rfl, h⟩ := h
   obtain ⟨q57, h⟩ := h
   refine T_xd (some 93) 25 27 6 bl ce cr .i64 0 Tryz.underlying25 q57.1 q57.2 [92] [(93, vp (some (bl.add (Int.toNat 0 * 6))))] ?_
   obtain ⟨a4, cx, a2, ak, ax, au, cs, b6, bu, br, q58, h⟩ := h
   refine T_lr 94 27 q58 [93] <| T_nw (some 95) (fun b => vs (pa b) 1 1) (.cells (DR a4 cx a2 ak ax au cs b6 bu br).toArray 27) ?_
   intro dk H14 e59 e60
   replace h := h dk H14 e59 e60
   refine T_pd [94] [(95, vs (pa dk) 1 1)] ?_
   refine N_op (some 96) (appendN #[25, 25] 25 #[vs j carsN carsC, vs (pa dk) 1 1]) _ (fun _=>by kernel_rfl) (ss_append (T := 27) (sz := 6) (bytes := 88) (zero := (.agg (DR 0 0 false none 0 0 (ByteArray.mk #[]) none 0 0).toArray : Value)) Tryz.underlying25 Tryz.underlying25 rfl (show Tryz.prog.info? 27 = some Tryz.t27 from by kernel_rfl) (by kernel_rfl) (by kernel_rfl) (by decide) (by kernel_rfl) (by first | exact h | (simpa only [Value.cells, List.toList_toArray] using h))) ?_; clear h
   rintro _ dp ⟨a7, ah, rfl, h⟩
   refine T_pd [90, 95] [(96, vs a7 (carsN + 1) ah)] <| T_ed 1 [96] [(11, vs a7 (carsN + 1) ah)] <| T_rz 33 <| T_nd 1 [] [(97, vp (some ((ad b).add 5)))] ?_
   obtain ⟨df, ck, cw, q61, h⟩ := h
   refine T_l1 98 25 q61 [97] ?_
   obtain ⟨bn, rfl, h⟩ := h
   obtain ⟨q62, h⟩ := h
   refine T_xd (some 99) 25 27 6 bn ck cw .i64 1 Tryz.underlying25 q62.1 q62.2 [98] [(99, vp (some (bn.add (Int.toNat 1 * 6))))] ?_
   obtain ⟨ac, bo, ae, r, s, u, bp, a9, ba, a8, q63, h⟩ := h
   refine T_lr 100 27 q63 [99] ?_
   obtain ⟨q65, h⟩ := h
   refine T_sta 27 (DR ac bo ae r s u bp a9 ba a8) q65 ?_
   intro dv e64
   replace h := h dv e64
   refine T_pd [100] [] ?_
   refine N_end (by kernel_rfl) ?_
   refine S_blockEnd ?_
   refine S_then ?_
   exact S_round ((a7, (carsN + 1), ah) : (Option Addr) × Nat × Nat) sk h
  rw [if_neg c54] at h
  refine T_cFz 89 (beq_eq_false_iff_ne.mpr c54) ?_
  refine S_exit 3 (by kernel_rfl) ?_
  refine S_exitThen ?_
  refine S_exitThen ?_
  refine S_exitHere ?_
  refine S_then ?_
  refine T_srz 34 <| T_ud [89] [] ?_
  obtain ⟨e, rfl, h⟩ := h
  obtain ⟨cl, q66, h⟩ := h
  refine T_ld (some 102) 75 q66 [2] [(2, vp (some e)), (102, cl)] ?_
  obtain ⟨a1, cp, a0, aq, an, al, cy, bx, b2, bt, q67, h⟩ := h
  refine T_lr 103 27 q67 [3] ?_
  refine N_callv (some 104) cl #[.agg (DR a1 cp a0 aq an al cy bx b2 bt).toArray] (fun _=>by kernel_rfl) h ?_; clear h
  rintro d3 d5 ⟨cg, ch, rfl, h⟩
  refine T_pd [102, 103] [(104, .tuple #[vu cg, vi ch])] <| T_ed 5 [104] [(12, vu cg), (13, vi ch)] <| T_sz <| T_srz 35 <| T_ed 4 [] [(14, vi (IntKind.wrap .i64 ((carsN : Int) - 1)))] <| T_bz 5 ?_
  obtain ⟨c9, m118, i68, i69⟩ := h
  refine S_loop (x := K117) (σ := Int × Int × Int) (fun s_ => [(1, vp d), (2, vp (some e)), (11, vs j carsN carsC), (12, vu s_.1), (13, vi s_.2.1), (14, vi s_.2.2)]) (fun s_ H => c9 s_.1 s_.2.1 s_.2.2 H) (fun s_ H => m118 s_.1 s_.2.1 s_.2.2 H) ((cg, ch, (IntKind.wrap .i64 ((carsN : Int) - 1))) : Int × Int × Int) (by kernel_rfl) i68 sk ?_
  rintro ⟨wv, ev, i⟩ H18 i70
  have h := i69 wv ev i H18 i70
  refine T_su [(1, vp d), (2, vp (some e)), (11, vs j carsN carsC), (12, vu wv), (13, vi ev), (14, vi i)] <| T_sz <| T_srz 36 ?_
  refine N_cut [(1, vp d), (2, vp (some e)), (11, vs j carsN carsC), (12, vu wv), (13, vi ev), (14, vi i), (115, .bool ((decide (i ≥ 0)) && (ev == 0)))] ?_ ?_
  ·refine S_then ?_
   by_cases c73 : ((decide (i ≥ 0)) && (ev == 0)) = true
   ·rw [if_pos c73] at h
    refine T_cTz 115 c73 <| T_kt <| T_sz <| T_bz 6 <| T_srz 38 <| T_ne 1 [(1, vp d), (2, vp (some e)), (11, vs j carsN carsC), (12, vu wv), (14, vi i)] <| T_sz ?_
    obtain ⟨a6, q75, h⟩ := h
    obtain ⟨g, rfl, h⟩ := h
    obtain ⟨q76, h⟩ := h
    obtain ⟨av, cj, aj, ab, z, aa, ci, be, bf, bh, q77, h⟩ := h
    refine S_regionG 39 (Code.ops K129) [(5, e, [a6]), (5, (g.add (Int.toNat i * 6)), (DR av cj aj ab z aa ci be bf bh))] 11 (bv 11 0) (by kernel_rfl) (by kernel_rfl) (by kernel_rfl) (by kernel_rfl) (by kernel_rfl) (show FactsAt _ _ _ from ⟨⟨q75, trivial⟩, q77, trivial⟩) ?_
    refine T_g 0 (some 119) (a6) (bv 11 1) [(1, vp d), (2, vp (some e)), (11, vs (some g) carsN carsC), (12, vu wv), (14, vi i), (119, a6)] (loadN 75 (vp (some e))) (held_one 5 (fun _=>by kernel_rfl) (List.Mem.head _) (.inl (by kernel_rfl))) <| T_gp1 1 120 (vs (some g) carsN carsC) (bv 11 3) [] <| T_gp1 2 121 (vi i) (bv 11 7) [] <| T_g1 3 122 (vp (some (g.add (Int.toNat i * 6)))) (bv 11 15) [120, 121] (indexAtN 25 (vs (some g) carsN carsC) (vi i)) (fun _ w _ _ _ => indexAt_run (P := Tryz.prog) (t := 25) (elem := 27) (sz := 6) (a := g) (len := carsN) (cap := carsC) (k := .i64) (i := i) Tryz.underlying25 (fun _=>by kernel_rfl) q76.1 q76.2 w) <| T_g1 4 123 (.agg (DR av cj aj ab z aa ci be bf bh).toArray) (bv 11 31) [122] (loadN 27 (vp (some (g.add (Int.toNat i * 6))))) (held_row 5 (fun _=>by kernel_rfl) (fun _=>by kernel_rfl) (List.Mem.tail _ (List.Mem.head _)) (.inl (by kernel_rfl))) ?_
    refine G_callv 5 (some 124) (bv 11 63) a6 #[.agg (DR av cj aj ab z aa ci be bf bh).toArray] (by kernel_rfl) (fun _=>by kernel_rfl) h (by kernel_rfl) ?_; clear h
    rintro d2 dx ⟨o, m, rfl, h⟩
    refine ⟨[(1, vp d), (2, vp (some e)), (11, vs (some g) carsN carsC), (12, vu wv), (14, vi i), (124, .tuple #[vu o, vi m])], pk, (show FactsAt _ _ _ from ⟨trivial, trivial, trivial⟩), ?_⟩
    refine T_g 6 (some 118) (.tuple #[vu o, vi m]) (bv 11 127) [(1, vp d), (2, vp (some e)), (11, vs (some g) carsN carsC), (12, vu wv), (14, vi i), (118, .tuple #[vu o, vi m])] (pure (.value (.tuple #[vu o, vi m])) : Sem Next) (fun _ _ _ _ _ => rfl) <| T_g1 7 125 (vu o) (bv 11 255) [] (pure (.value (vu o)) : Sem Next) (fun _ _ _ _ _ => rfl) <| T_g1 8 126 (vi m) (bv 11 511) [118] (pure (.value (vi m)) : Sem Next) (fun _ _ _ _ _ => rfl) <| T_g1 9 15 (vu o) (bv 11 1023) [125] (pure (.value (vu o)) : Sem Next) (fun _ _ _ _ _ => rfl) <| T_g1 10 13 (vi m) (bv 11 2047) [126] (pure (.value (vi m)) : Sem Next) (fun _ _ _ _ _ => rfl) ?_
    refine G_sub [(1, vp d), (2, vp (some e)), (11, vs (some g) carsN carsC), (12, vu wv), (13, vi m), (14, vi i), (15, vu o)] sk ?_
    refine G_end (by kernel_rfl) ?_
    refine S_then ?_
    refine T_srz 40 <| T_ne 2 [(1, vp d), (2, vp (some e)), (11, vs (some g) carsN carsC), (12, vu wv), (13, vi m), (14, vi i), (15, vu o), (128, .bool (m == 0))] ?_
    by_cases c78 : m = 0
    ·rw [if_pos c78] at h
     refine T_cTz 128 (beq_iff_eq.mpr c78) <| T_rz 41 <| T_ud [13, 128] [] ?_
     obtain ⟨y, rfl, h⟩ := h
     obtain ⟨cf, q80, h⟩ := h
     refine T_ld (some 130) 30 q80 [1] [(1, vp (some y)), (130, vp cf)] <| T_nd 2 [12, 15] [(131, vu o), (132, vu wv)] ?_
     refine T_c (some 133) h ?_; clear h
     rintro d6 dz ⟨bk, bm, rfl, h⟩
     refine T_pd [130, 131, 132] [(133, .tuple #[vu bk, vi bm])] <| T_nd 5 [133] [(12, vu bk), (13, vi bm)] ?_
     refine N_end (by kernel_rfl) ?_
     refine S_blockEnd ?_
     refine S_then ?_
     refine T_rz 37 <| T_ed 3 [14] [(14, vi (IntKind.wrap .i64 (i - 1)))] ?_
     exact S_round ((bk, bm, (IntKind.wrap .i64 (i - 1))) : Int × Int × Int) sk h
    rw [if_neg c78] at h
    refine T_cFz 128 (beq_eq_false_iff_ne.mpr c78) <| T_k ?_
    refine S_blockEnd ?_
    refine S_then ?_
    refine T_rz 37 <| T_ed 3 [14, 15, 128] [(14, vi (IntKind.wrap .i64 (i - 1)))] ?_
    exact S_round ((wv, m, (IntKind.wrap .i64 (i - 1))) : Int × Int × Int) sk h
   rw [if_neg c73] at h
   refine T_cFz 115 (eq_false_of_ne_true c73) ?_
   refine S_exit 5 (by kernel_rfl) ?_
   refine S_exitThen ?_
   refine S_exitThen ?_
   refine S_exitHere ?_
   refine S_then ?_
   refine T_sz <| T_srz 42 <| T_ne 2 [(12, vu wv), (13, vi ev), (137, .bool (ev != 0))] ?_
   by_cases c81 : ev = 0
   ·rw [if_pos c81] at h
    exact T_cFz 137 (bne_eq_false_iff_eq.mpr c81) <| T_kt <| T_srz 44 <| T_nr 3 [4, 5] [vu wv, vi 0] hQ h
   rw [if_neg c81] at h
   exact T_cTz 137 (bne_iff_ne.mpr c81) <| T_srz 43 <| T_nr 3 [4, 5] [vu 0, vi ev] hQ h
  intro hk
  refine T_n 3 [(1, vp d), (2, vp (some e)), (11, vs j carsN carsC), (12, vu wv), (13, vi ev), (14, vi i), (112, .bool (decide (i ≥ 0)))] ?_
  by_cases c71 : i ≥ 0
  ·have b72 : (decide (i ≥ 0)) = true := decide_eq_true c71
   refine N_env [(1, vp d), (2, vp (some e)), (11, vs j carsN carsC), (12, vu wv), (13, vi ev), (14, vi i), (112, .bool true)] (by rw [b72]) ?_
   refine T_nd 3 [112] [(115, .bool (ev == 0))] ?_
   refine N_end (by kernel_rfl) ?_
   refine S_bd 115 (b := (ev == 0)) (v := ((decide (i ≥ 0)) && (ev == 0))) (by simp only [b72, BL]) ?_
   exact hk
  have b72 : (decide (i ≥ 0)) = false := decide_eq_false c71
  refine N_env [(1, vp d), (2, vp (some e)), (11, vs j carsN carsC), (12, vu wv), (13, vi ev), (14, vi i), (112, .bool false)] (by rw [b72]) ?_
  refine T_nd 3 [112] [(115, .bool false)] ?_
  refine N_end (by kernel_rfl) ?_
  refine S_bd 115 (b := false) (v := ((decide (i ≥ 0)) && (ev == 0))) (by simp only [b72, BL]) ?_
  exact hk
 rw [if_neg c48] at h
 refine T_cFz 85 (beq_eq_false_iff_ne.mpr c48) <| T_k ?_
 refine S_blockEnd ?_
 refine S_then ?_
 exact T_srz 45 <| T_nr 2 [4, 5] [vu 20, vi 0] hQ h
end build_Heap_1

/-! (*moraine/build.reader).datum -/
namespace build_reader_datum
def K0 := Func.code Tryz.f34
end build_reader_datum
def build_reader_datum.pt (r : Option Addr) (wv a : Int) (H : Array Obj) (R : Value → Array Obj → Prop) : Prop :=
 ∀ (b : Nat) (H1 : Array Obj), b = H.size → H1 = H.push (.cells (DR 0 0 false none 0 0 (ByteArray.mk #[]) none 0 0).toArray 27) →
 build_reader_one.C r H1 (fun v H2 => ∃ x : Int, v = .int .i64 x ∧ 
 if x = 0 then (
 build_constant.C wv H2 (fun e0 H3 => ∃ (z cm : Int) (ac : Bool) (u : Option Addr) (s t : Nat) (cq : ByteArray) (bi : Option Addr) (bj a4 : Nat) (rb : Bool), e0 = .tuple #[.agg (DR z cm ac u s t cq bi bj a4).toArray, .bool rb] ∧ 
 ∀ (ao : Nat) (H4 : Array Obj), ao = H3.size → H4 = H3.push (.cells (DR 0 0 false none 0 0 (ByteArray.mk #[]) none 0 0).toArray 27) →
 (CanPuts H4 (ad ao) 0 6) ∧ ∀ H5, H5 = hputs H4 (ad ao) (DR z cm ac u s t cq bi bj a4) 0 →
 if rb = true then (
 ∃ a2 xC ay al ae af xT ct cr cs, RowAt H5 (ad ao) 0 (DR a2 xC ay al ae af xT ct cr cs) ∧
 (CanPuts H5 (ad b) 0 6) ∧ ∀ H6, H6 = hputs H5 (ad b) (DR a2 xC ay al ae af xT ct cr cs) 0 →
 ∃ cw rC df cp co cn rT et ep es, RowAt H6 (ad b) 0 (DR cw rC df cp co cn rT et ep es) ∧
 R (.tuple #[.agg (DR cw rC df cp co cn rT et ep es).toArray, .int .i64 0]) H6)
 else
 ∃ rA : Addr, r = some rA ∧
 ∃ dr : Option Addr, hat H5 rA = some (.pointer dr) ∧
 obj_Heap_Num.C dr wv H5 (fun e4 H7 => ∃ (au : Bool) (aa : Option Addr) (y ab : Nat) (an : Int), e4 = .tuple #[.agg #[.bool au, .slice aa y ab], .int .i64 an] ∧ 
 ∀ (ap : Nat) (H8 : Array Obj), ap = H7.size → H8 = H7.push (.cells #[.bool false, .slice none 0 0] 24) →
 (CanPuts H8 (ad ap) 0 2) ∧ ∀ H9, H9 = hputs H8 (ad ap) [.bool au, .slice aa y ab] 0 →
 if an = 0 then (
 ∃ (bh : Bool) (aw : Option Addr) (av aq : Nat), RowAt H9 (ad ap) 0 [.bool bh, .slice aw av aq] ∧
 (CanPuts H9 (ad b) 0 6) ∧ ∀ ej, ej = hputs H9 (ad b) (DR 4 0 bh aw av aq (ByteArray.mk #[]) none 0 0) 0 →
 ∃ b6 d2 cj be bd a7 d0 dh c7 cz, RowAt ej (ad b) 0 (DR b6 d2 cj be bd a7 d0 dh c7 cz) ∧
 R (.tuple #[.agg (DR b6 d2 cj be bd a7 d0 dh c7 cz).toArray, .int .i64 0]) ej)
 else
 ∃ dt : Option Addr, hat H9 rA = some (.pointer dt) ∧
 obj_Heap_Type.C dt wv H9 (fun ev dq => ∃ k : Int, ev = .int .i64 k ∧ 
 if k = 2 then (
 ∃ dp : Option Addr, hat dq rA = some (.pointer dp) ∧
 obj_Heap_Text.C dp wv dq (fun e3 en => ∃ (ra : ByteArray) (bu : Int), e3 = .tuple #[.string ra, .int .i64 bu] ∧ 
 (CanPuts en (ad b) 0 6) ∧ ∀ eh, eh = hputs en (ad b) (DR 5 0 false none 0 0 ra none 0 0) 0 →
 ∃ cc dy cd bn a9 a6 eb dd cv c2, RowAt eh (ad b) 0 (DR cc dy cd bn a9 a6 eb dd cv c2) ∧
 R (.tuple #[.agg (DR cc dy cd bn a9 a6 eb dd cv c2).toArray, .int .i64 bu]) eh))
 else
 if k = 4 then (
 ∃ du : Option Addr, hat dq rA = some (.pointer du) ∧
 syms_Name.C du wv dq (fun ey er => ∃ (br : ByteArray) (bw : Int), ey = .tuple #[.string br, .int .i64 bw] ∧ 
 (CanPuts er (ad b) 0 6) ∧ ∀ eg, eg = hputs er (ad b) (DR 6 0 false none 0 0 br none 0 0) 0 →
 ∃ ch d9 cf bq bt a3 dx c6 c8 cy, RowAt eg (ad b) 0 (DR ch d9 cf bq bt a3 dx c6 c8 cy) ∧
 R (.tuple #[.agg (DR ch d9 cf bq bt a3 dx c6 c8 cy).toArray, .int .i64 bw]) eg))
 else
 if k = 1 then (
 build_reader_vector.C (some rA) wv a dq (fun ex em => ∃ (o ax : Int) (m : Bool) (i : Option Addr) (e f : Nat) (a1 : ByteArray) (ak : Option Addr) (ah aj : Nat) (b1 : Int), ex = .tuple #[.agg (DR o ax m i e f a1 ak ah aj).toArray, .int .i64 b1] ∧ 
 (CanPuts em (ad b) 0 6) ∧ ∀ ef, ef = hputs em (ad b) (DR o ax m i e f a1 ak ah aj) 0 →
 ∃ cg d5 b7 bp bk bo d3 c0 dk dc, RowAt ef (ad b) 0 (DR cg d5 b7 bp bk bo d3 c0 dk dc) ∧
 R (.tuple #[.agg (DR cg d5 b7 bp bk bo d3 c0 dk dc).toArray, .int .i64 b1]) ef))
 else
 word_Tag.C wv dq (fun ew dv => ∃ cu : Int, ew = .int .i64 cu ∧ 
 if cu = 1 then (
 ∃ dn : Option Addr, hat dv rA = some (.pointer dn) ∧
 obj_Heap_Pair.C dn wv dv (fun ez el => ∃ cl : Bool, ez = .bool cl ∧ 
 if cl = true then (
 build_reader_pairs.C (some rA) wv a el (fun eu eo => ∃ (q a0 : Int) (p : Bool) (g : Option Addr) (d j : Nat) (az : ByteArray) (ag : Option Addr) (am ai : Nat) (b0 : Int), eu = .tuple #[.agg (DR q a0 p g d j az ag am ai).toArray, .int .i64 b0] ∧ 
 (CanPuts eo (ad b) 0 6) ∧ ∀ ee, ee = hputs eo (ad b) (DR q a0 p g d j az ag am ai) 0 →
 ∃ ce d4 ck bf bg bz dz dl dm dg, RowAt ee (ad b) 0 (DR ce d4 ck bf bg bz dz dl dm dg) ∧
 R (.tuple #[.agg (DR ce d4 ck bf bg bz dz dl dm dg).toArray, .int .i64 b0]) ee))
 else
 (CanPuts el (ad b) 0 6) ∧ ∀ ec, ec = hputs el (ad b) (DR 0 0 false none 0 0 (ByteArray.mk #[]) none 0 0) 0 →
 ∃ b9 d7 b5 bl bb a5 dw cx c1 db, RowAt ec (ad b) 0 (DR b9 d7 b5 bl bb a5 dw cx c1 db) ∧
 R (.tuple #[.agg (DR b9 d7 b5 bl bb a5 dw cx c1 db).toArray, .int .i64 3]) ec))
 else
 (CanPuts dv (ad b) 0 6) ∧ ∀ ei, ei = hputs dv (ad b) (DR 0 0 false none 0 0 (ByteArray.mk #[]) none 0 0) 0 →
 ∃ ci d8 b2 bx a8 bc d6 dj di da, RowAt ei (ad b) 0 (DR ci d8 b2 bx a8 bc d6 dj di da) ∧
 R (.tuple #[.agg (DR ci d8 b2 bx a8 bc d6 dj di da).toArray, .int .i64 3]) ei)))))
 else
 (CanPuts H2 (ad b) 0 6) ∧ ∀ ek, ek = hputs H2 (ad b) (DR 0 0 false none 0 0 (ByteArray.mk #[]) none 0 0) 0 →
 ∃ b8 ea b3 bs ba bm d1 c5 c4 de, RowAt ek (ad b) 0 (DR b8 ea b3 bs ba bm d1 c5 c4 de) ∧
 R (.tuple #[.agg (DR b8 ea b3 bs ba bm d1 c5 c4 de).toArray, .int .i64 x]) ek)
namespace build_reader_datum
theorem link {r : Option Addr} {wv a : Int} {H : Array Obj} {R : Value → Array Obj → Prop} (h : pt r wv a H R) : C r wv a H R := by
 refine T_en K0 104 Tryz.func34 ?_
 intro w0 Q hQ
 unfold pt at h
 refine T_su [(0, vp r), (1, vu wv), (2, vi a)] <| T_srz 0 <| T_nw (some 6) (fun b => vp (pa b)) (.cells (DR 0 0 false none 0 0 (ByteArray.mk #[]) none 0 0).toArray 27) ?_
 intro b H1 e1 e2
 replace h := h b H1 e1 e2
 refine T_pd [] [(6, vp (pa b))] <| T_ed 1 [] [] <| T_sz <| T_srz 1 <| T_nd 1 [] [(17, vp r)] ?_
 refine T_c (some 18) h ?_; clear h
 rintro v H2 ⟨x, rfl, h⟩
 refine T_pd [17] [(18, vi x)] <| T_ed 1 [18] [(8, vi x)] <| T_srz 2 <| T_ed 2 [] [(20, .bool (x != 0))] ?_
 by_cases c3 : x = 0
 ·rw [if_pos c3] at h
  refine T_cFz 20 (bne_eq_false_iff_eq.mpr c3) <| T_kt <| T_sz <| T_srz 4 <| T_nd 1 [8, 20] [(24, vu wv)] ?_
  refine T_c (some 25) h ?_; clear h
  rintro e0 H3 ⟨z, cm, ac, u, s, t, cq, bi, bj, a4, rb, rfl, h⟩
  refine T_pd [24] [(25, .tuple #[.agg (DR z cm ac u s t cq bi bj a4).toArray, .bool rb])] <| T_nd 3 [25] [(26, .agg (DR z cm ac u s t cq bi bj a4).toArray), (27, .bool rb)] <| T_nw (some 9) (fun b => vp (pa b)) (.cells (DR 0 0 false none 0 0 (ByteArray.mk #[]) none 0 0).toArray 27) ?_
  intro ao H4 e5 e6
  replace h := h ao H4 e5 e6
  refine T_pd [] [(9, vp (pa ao))] ?_
  obtain ⟨q8, h⟩ := h
  refine T_sta 27 (DR z cm ac u s t cq bi bj a4) q8 ?_
  intro H5 e7
  replace h := h H5 e7
  refine T_pd [26] [] <| T_ed 1 [27] [(10, .bool rb)] <| T_srz 5 <| T_ed 1 [10] [(28, .bool rb)] ?_
  by_cases c9 : rb = true
  ·rw [if_pos c9] at h
   refine T_cTz 28 c9 <| T_srz 6 <| T_ud [0, 1, 2, 28] [] ?_
   obtain ⟨a2, xC, ay, al, ae, af, xT, ct, cr, cs, q11, h⟩ := h
   refine T_lr 29 27 q11 [9] ?_
   obtain ⟨q13, h⟩ := h
   refine T_sta 27 (DR a2 xC ay al ae af xT ct cr cs) q13 ?_
   intro H6 e12
   replace h := h H6 e12
   refine T_pd [29] [] <| T_ed 1 [] [(7, vi 0)] ?_
   refine S_ret (by kernel_rfl) ?_
   show At _ _ _ _ _ (Q .ret)
   obtain ⟨cw, rC, df, cp, co, cn, rT, et, ep, es, q14, h⟩ := h
   exact S_done (fn := Tryz.f34) [.agg (DR cw rC df cp co cn rT et ep es).toArray, vi 0] hQ (show ResOK _ _ _ [.cell 6 27, .tmp 7] _ from .cell (by kernel_rfl) (loadOK_row (fun _=>by kernel_rfl) (fun _=>by kernel_rfl) q14) (.tmp (by kernel_rfl) (.nil))) h
  rw [if_neg c9] at h
  refine T_cFz 28 (eq_false_of_ne_true c9) <| T_kt <| T_sz <| T_srz 7 <| T_nd 1 [9, 28] [(31, vp r)] ?_
  obtain ⟨rA, rfl, h⟩ := h
  refine T_nd 2 [0, 31] [(0, vp (some rA)), (33, vp (some rA))] ?_
  obtain ⟨dr, q15, h⟩ := h
  refine T_l1 34 30 q15 [33] <| T_nd 1 [] [(35, vu wv)] ?_
  refine T_c (some 36) h ?_; clear h
  rintro e4 H7 ⟨au, aa, y, ab, an, rfl, h⟩
  refine T_pd [34, 35] [(36, .tuple #[.agg #[.bool au, vs aa y ab], vi an])] <| T_nd 3 [36] [(37, .agg #[.bool au, vs aa y ab]), (38, vi an)] <| T_nw (some 11) (fun b => vp (pa b)) (.cells #[.bool false, vs none 0 0] 24) ?_
  intro ap H8 e16 e17
  replace h := h ap H8 e16 e17
  refine T_pd [] [(11, vp (pa ap))] ?_
  obtain ⟨q19, h⟩ := h
  refine T_sta 24 [.bool au, vs aa y ab] q19 ?_
  intro H9 e18
  replace h := h H9 e18
  refine T_pd [37] [] <| T_ed 1 [38] [(12, vi an)] <| T_srz 8 <| T_ed 2 [12] [(40, .bool (an == 0))] ?_
  by_cases c20 : an = 0
  ·rw [if_pos c20] at h
   refine T_cTz 40 (beq_iff_eq.mpr c20) <| T_srz 9 <| T_ud [0, 1, 2, 40] [] ?_
   obtain ⟨bh, aw, av, aq, q22, h⟩ := h
   refine T_lr 41 24 q22 [11] <| T_nd 1 [41] [(42, .agg (DR 4 0 bh aw av aq (ByteArray.mk #[]) none 0 0).toArray)] ?_
   obtain ⟨q24, h⟩ := h
   refine T_sta 27 (DR 4 0 bh aw av aq (ByteArray.mk #[]) none 0 0) q24 ?_
   intro ej e23
   replace h := h ej e23
   refine T_pd [42] [] <| T_ed 1 [] [(7, vi 0)] ?_
   refine S_ret (by kernel_rfl) ?_
   show At _ _ _ _ _ (Q .ret)
   obtain ⟨b6, d2, cj, be, bd, a7, d0, dh, c7, cz, q25, h⟩ := h
   exact S_done (fn := Tryz.f34) [.agg (DR b6 d2 cj be bd a7 d0 dh c7 cz).toArray, vi 0] hQ (show ResOK _ _ _ [.cell 6 27, .tmp 7] _ from .cell (by kernel_rfl) (loadOK_row (fun _=>by kernel_rfl) (fun _=>by kernel_rfl) q25) (.tmp (by kernel_rfl) (.nil))) h
  rw [if_neg c20] at h
  refine T_cFz 40 (beq_eq_false_iff_ne.mpr c20) <| T_kt <| T_sz <| T_srz 10 <| T_nd 3 [11, 40] [(45, vp (some rA))] ?_
  obtain ⟨dt, q26, h⟩ := h
  refine T_l1 46 30 q26 [45] <| T_nd 1 [] [(47, vu wv)] ?_
  refine T_c (some 48) h ?_; clear h
  rintro ev dq ⟨k, rfl, h⟩
  refine T_pd [46, 47] [(48, vi k)] <| T_e <| T_bz 0 <| T_srz 11 <| T_ed 2 [] [(49, .bool (k == 2))] ?_
  by_cases c27 : k = 2
  ·rw [if_pos c27] at h
   refine T_cTz 49 (beq_iff_eq.mpr c27) <| T_srz 12 <| T_nd 3 [0, 2, 48, 49] [(54, vp (some rA))] ?_
   obtain ⟨dp, q29, h⟩ := h
   refine T_l1 55 30 q29 [54] <| T_nd 1 [1] [(56, vu wv)] ?_
   refine T_c (some 57) h ?_; clear h
   rintro e3 en ⟨ra, bu, rfl, h⟩
   refine T_pd [55, 56] [(57, .tuple #[.string ra, vi bu])] <| T_ed 5 [57] [(13, .string ra), (14, vi bu)] <| T_srz 13 <| T_nd 3 [13, 14] [(61, .agg (DR 5 0 false none 0 0 ra none 0 0).toArray), (62, vi bu)] ?_
   obtain ⟨q31, h⟩ := h
   refine T_sta 27 (DR 5 0 false none 0 0 ra none 0 0) q31 ?_
   intro eh e30
   replace h := h eh e30
   refine T_pd [61] [] <| T_ed 1 [62] [(7, vi bu)] ?_
   refine S_ret (by kernel_rfl) ?_
   show At _ _ _ _ _ (Q .ret)
   obtain ⟨cc, dy, cd, bn, a9, a6, eb, dd, cv, c2, q32, h⟩ := h
   exact S_done (fn := Tryz.f34) [.agg (DR cc dy cd bn a9 a6 eb dd cv c2).toArray, vi bu] hQ (show ResOK _ _ _ [.cell 6 27, .tmp 7] _ from .cell (by kernel_rfl) (loadOK_row (fun _=>by kernel_rfl) (fun _=>by kernel_rfl) q32) (.tmp (by kernel_rfl) (.nil))) h
  rw [if_neg c27] at h
  refine T_cFz 49 (beq_eq_false_iff_ne.mpr c27) <| T_srz 14 <| T_ed 2 [49] [(63, .bool (k == 4))] ?_
  by_cases c33 : k = 4
  ·rw [if_pos c33] at h
   refine T_cTz 63 (beq_iff_eq.mpr c33) <| T_srz 15 <| T_nd 3 [0, 2, 48, 63] [(68, vp (some rA))] ?_
   obtain ⟨du, q35, h⟩ := h
   refine T_l1 69 30 q35 [68] <| T_nd 1 [1] [(70, vu wv)] ?_
   refine T_c (some 71) h ?_; clear h
   rintro ey er ⟨br, bw, rfl, h⟩
   refine T_pd [69, 70] [(71, .tuple #[.string br, vi bw])] <| T_ed 5 [71] [(15, .string br), (16, vi bw)] <| T_srz 16 <| T_nd 3 [15, 16] [(75, .agg (DR 6 0 false none 0 0 br none 0 0).toArray), (76, vi bw)] ?_
   obtain ⟨q37, h⟩ := h
   refine T_sta 27 (DR 6 0 false none 0 0 br none 0 0) q37 ?_
   intro eg e36
   replace h := h eg e36
   refine T_pd [75] [] <| T_ed 1 [76] [(7, vi bw)] ?_
   refine S_ret (by kernel_rfl) ?_
   show At _ _ _ _ _ (Q .ret)
   obtain ⟨ch, d9, cf, bq, bt, a3, dx, c6, c8, cy, q38, h⟩ := h
   exact S_done (fn := Tryz.f34) [.agg (DR ch d9 cf bq bt a3 dx c6 c8 cy).toArray, vi bw] hQ (show ResOK _ _ _ [.cell 6 27, .tmp 7] _ from .cell (by kernel_rfl) (loadOK_row (fun _=>by kernel_rfl) (fun _=>by kernel_rfl) q38) (.tmp (by kernel_rfl) (.nil))) h
  rw [if_neg c33] at h
  refine T_cFz 63 (beq_eq_false_iff_ne.mpr c33) <| T_srz 17 <| T_ed 2 [48, 63] [(77, .bool (k == 1))] ?_
  by_cases c39 : k = 1
  ·rw [if_pos c39] at h
   refine T_cTz 77 (beq_iff_eq.mpr c39) <| T_srz 18 <| T_n 3 [(6, vp (pa b)), (79, vp (some rA)), (80, vu wv), (81, vi a)] ?_
   refine T_c (some 82) h ?_; clear h
   rintro ex em ⟨o, ax, m, i, e, f, a1, ak, ah, aj, b1, rfl, h⟩
   refine T_pd [79, 80, 81] [(82, .tuple #[.agg (DR o ax m i e f a1 ak ah aj).toArray, vi b1])] <| T_nd 2 [82] [(83, .agg (DR o ax m i e f a1 ak ah aj).toArray), (84, vi b1)] ?_
   obtain ⟨q42, h⟩ := h
   refine T_sta 27 (DR o ax m i e f a1 ak ah aj) q42 ?_
   intro ef e41
   replace h := h ef e41
   refine T_pd [83] [] <| T_ed 1 [84] [(7, vi b1)] ?_
   refine S_ret (by kernel_rfl) ?_
   show At _ _ _ _ _ (Q .ret)
   obtain ⟨cg, d5, b7, bp, bk, bo, d3, c0, dk, dc, q43, h⟩ := h
   exact S_done (fn := Tryz.f34) [.agg (DR cg d5 b7 bp bk bo d3 c0 dk dc).toArray, vi b1] hQ (show ResOK _ _ _ [.cell 6 27, .tmp 7] _ from .cell (by kernel_rfl) (loadOK_row (fun _=>by kernel_rfl) (fun _=>by kernel_rfl) q43) (.tmp (by kernel_rfl) (.nil))) h
  rw [if_neg c39] at h
  refine T_cFz 77 (beq_eq_false_iff_ne.mpr c39) <| T_k ?_
  refine S_blockEnd ?_
  refine S_then ?_
  refine T_sz <| T_srz 19 <| T_nd 1 [77] [(85, vu wv)] ?_
  refine T_c (some 86) h ?_; clear h
  rintro ew dv ⟨cu, rfl, h⟩
  refine T_pd [85] [(86, vi cu)] <| T_nd 2 [86] [(88, .bool (cu != 1))] ?_
  by_cases c44 : cu = 1
  ·rw [if_pos c44] at h
   refine N_bd 88 (bne_eq_false_iff_eq.mpr c44) <| T_nd 3 [] [(91, vp (some rA))] ?_
   obtain ⟨dn, q46, h⟩ := h
   refine T_l1 92 30 q46 [91] <| T_nd 1 [] [(93, vu wv)] ?_
   refine T_c (some 94) h ?_; clear h
   rintro ez el ⟨cl, rfl, h⟩
   refine T_pd [92, 93] [(94, .bool cl)] <| T_ed 2 [88, 94] [(96, .bool (!cl))] ?_
   by_cases c47 : cl = true
   ·rw [if_pos c47] at h
    refine T_cFz 96 (congrArg Bool.not (c47)) <| T_kt <| T_srz 21 <| T_n 3 [(6, vp (pa b)), (98, vp (some rA)), (99, vu wv), (100, vi a)] ?_
    refine T_c (some 101) h ?_; clear h
    rintro eu eo ⟨q, a0, p, g, d, j, az, ag, am, ai, b0, rfl, h⟩
    refine ⟨[(6, vp (pa b)), (101, .tuple #[.agg (DR q a0 p g d j az ag am ai).toArray, vi b0])], pk, ?_⟩
    refine T_nd 2 [101] [(102, .agg (DR q a0 p g d j az ag am ai).toArray), (103, vi b0)] ?_
    obtain ⟨q50, h⟩ := h
    refine T_sta 27 (DR q a0 p g d j az ag am ai) q50 ?_
    intro ee e49
    replace h := h ee e49
    refine T_pd [102] [] <| T_ed 1 [103] [(7, vi b0)] ?_
    refine S_ret (by kernel_rfl) ?_
    show At _ _ _ _ _ (Q .ret)
    obtain ⟨ce, d4, ck, bf, bg, bz, dz, dl, dm, dg, q51, h⟩ := h
    exact S_done (fn := Tryz.f34) [.agg (DR ce d4 ck bf bg bz dz dl dm dg).toArray, vi b0] hQ (show ResOK _ _ _ [.cell 6 27, .tmp 7] _ from .cell (by kernel_rfl) (loadOK_row (fun _=>by kernel_rfl) (fun _=>by kernel_rfl) q51) (.tmp (by kernel_rfl) (.nil))) h
   rw [if_neg c47] at h
   refine T_cTz 96 (congrArg Bool.not (eq_false_of_ne_true c47)) <| T_srz 20 <| T_n 1 [(6, vp (pa b)), (97, .agg (DR 0 0 false none 0 0 (ByteArray.mk #[]) none 0 0).toArray)] ?_
   obtain ⟨q53, h⟩ := h
   refine T_sta 27 (DR 0 0 false none 0 0 (ByteArray.mk #[]) none 0 0) q53 ?_
   intro ec e52
   replace h := h ec e52
   refine T_pd [97] [] <| T_ed 1 [] [(7, vi 3)] ?_
   refine S_ret (by kernel_rfl) ?_
   show At _ _ _ _ _ (Q .ret)
   obtain ⟨b9, d7, b5, bl, bb, a5, dw, cx, c1, db, q54, h⟩ := h
   exact S_done (fn := Tryz.f34) [.agg (DR b9 d7 b5 bl bb a5 dw cx c1 db).toArray, vi 3] hQ (show ResOK _ _ _ [.cell 6 27, .tmp 7] _ from .cell (by kernel_rfl) (loadOK_row (fun _=>by kernel_rfl) (fun _=>by kernel_rfl) q54) (.tmp (by kernel_rfl) (.nil))) h
  rw [if_neg c44] at h
  refine N_bd 88 (bne_iff_ne.mpr c44) <| T_ed 8 [88] [(96, .bool true)] <| T_tz 96 <| T_srz 20 <| T_n 1 [(6, vp (pa b)), (97, .agg (DR 0 0 false none 0 0 (ByteArray.mk #[]) none 0 0).toArray)] ?_
  obtain ⟨q56, h⟩ := h
  refine T_sta 27 (DR 0 0 false none 0 0 (ByteArray.mk #[]) none 0 0) q56 ?_
  intro ei e55
  replace h := h ei e55
  refine T_pd [97] [] <| T_ed 1 [] [(7, vi 3)] ?_
  refine S_ret (by kernel_rfl) ?_
  show At _ _ _ _ _ (Q .ret)
  obtain ⟨ci, d8, b2, bx, a8, bc, d6, dj, di, da, q57, h⟩ := h
  exact S_done (fn := Tryz.f34) [.agg (DR ci d8 b2 bx a8 bc d6 dj di da).toArray, vi 3] hQ (show ResOK _ _ _ [.cell 6 27, .tmp 7] _ from .cell (by kernel_rfl) (loadOK_row (fun _=>by kernel_rfl) (fun _=>by kernel_rfl) q57) (.tmp (by kernel_rfl) (.nil))) h
 rw [if_neg c3] at h
 refine T_cTz 20 (bne_iff_ne.mpr c3) <| T_srz 3 <| T_n 2 [(6, vp (pa b)), (21, .agg (DR 0 0 false none 0 0 (ByteArray.mk #[]) none 0 0).toArray), (22, vi x)] ?_
 obtain ⟨q59, h⟩ := h
 refine T_sta 27 (DR 0 0 false none 0 0 (ByteArray.mk #[]) none 0 0) q59 ?_
 intro ek e58
 replace h := h ek e58
 refine T_pd [21] [] <| T_ed 1 [22] [(7, vi x)] ?_
 refine S_ret (by kernel_rfl) ?_
 show At _ _ _ _ _ (Q .ret)
 obtain ⟨b8, ea, b3, bs, ba, bm, d1, c5, c4, de, q60, h⟩ := h
 exact S_done (fn := Tryz.f34) [.agg (DR b8 ea b3 bs ba bm d1 c5 c4 de).toArray, vi x] hQ (show ResOK _ _ _ [.cell 6 27, .tmp 7] _ from .cell (by kernel_rfl) (loadOK_row (fun _=>by kernel_rfl) (fun _=>by kernel_rfl) q60) (.tmp (by kernel_rfl) (.nil))) h
end build_reader_datum

/-! (*moraine/build.reader).one -/
namespace build_reader_one
def K0 := Func.code Tryz.f63
end build_reader_one
def build_reader_one.pt (r : Option Addr) (H : Array Obj) (R : Value → Array Obj → Prop) : Prop :=
 ∃ rA : Addr, r = some rA ∧
 ∃ x : Int, hat H (rA.add 1) = some (.int .i64 x) ∧
 (CanPuts H (rA.add 1) 0 1) ∧ ∀ H1, H1 = hputs H (rA.add 1) [.int .i64 (IntKind.wrap .i64 (x + 1))] 0 →
 ∃ a : Int, hat H1 (rA.add 1) = some (.int .i64 a) ∧
 if a > 4096 then (
 R (.int .i64 6) H1)
 else
 R (.int .i64 0) H1
namespace build_reader_one
theorem link {r : Option Addr} {H : Array Obj} {R : Value → Array Obj → Prop} (h : pt r H R) : C r H R := by
 refine T_en K0 15 Tryz.func63 ?_
 intro w0 Q hQ
 unfold pt at h
 refine T_su [(0, vp r)] <| T_srz 0 <| T_ed 1 [] [] <| T_srz 1 <| T_nd 1 [] [(3, vp r)] ?_
 obtain ⟨rA, rfl, h⟩ := h
 refine T_n 2 [(0, vp (some rA)), (3, vp (some rA)), (5, vp (some (rA.add 1)))] ?_
 obtain ⟨x, q1, h⟩ := h
 refine T_l1 6 3 q1 [5] <| T_nd 3 [3, 6] [(7, vi (IntKind.wrap .i64 (x + 1))), (9, vp (some (rA.add 1)))] ?_
 obtain ⟨q3, h⟩ := h
 refine T_st1 3 (vi (IntKind.wrap .i64 (x + 1))) q3 ?_
 intro H1 e2
 replace h := h H1 e2
 refine T_pd [7, 9] [] <| T_e <| T_sz <| T_srz 2 <| T_n 3 [(12, vp (some (rA.add 1)))] ?_
 obtain ⟨a, q4, h⟩ := h
 refine T_l1 13 3 q4 [12] <| T_ne 1 [(14, .bool (decide (a > 4096)))] ?_
 by_cases c5 : a > 4096
 ·rw [if_pos c5] at h
  exact T_cTz 14 (decide_eq_true c5) <| T_srz 3 <| T_nr 1 [2] [vi 6] hQ h
 rw [if_neg c5] at h
 exact T_cFz 14 (decide_eq_false c5) <| T_kt <| T_srz 4 <| T_nr 1 [2] [vi 0] hQ h
end build_reader_one

end Go.Proofs.YtdgejifkcfgliaaGreatDoor
