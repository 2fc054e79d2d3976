/- Printed: what each function asks, and that it is sound. -/
import Derived.Test.YtdgejifkcfgliaaGreatDoorFnsC
set_option linter.unusedSimpArgs false
set_option linter.unusedVariables false
set_option maxRecDepth 100000
set_option maxHeartbeats 1000000
noncomputable section
namespace Go.Proofs.YtdgejifkcfgliaaGreatDoor
open Go
/-! moraine/build.Heap -/
namespace build_Heap
def K0 := Func.code Tryz.f10
end build_Heap
def build_Heap.pt (hv : Option Addr) (dKind : Int) (dC : Int) (dNNeg : Bool) (dNMagB : Option Addr) (dNMagN : Nat) (dNMagC : Nat) (dT : ByteArray) (dLB : Option Addr) (dLN : Nat) (dLC : Nat) (H : Array Obj) (R : Value → Array Obj → Prop) : Prop :=
 ∀ (b : Nat) (H1 : Array Obj), b = H.size → H1 = H.push (.cells #[.pointer hv] 30) →
 ∀ (a : Nat) (H2 : Array Obj), a = H1.size → H2 = H1.push (.cells (DR dKind dC dNNeg dNMagB dNMagN dNMagC dT dLB dLN dLC).toArray 27) →
 ∃ x : Option Addr, hat H2 (ad b) = some (.pointer x) ∧
 onPtr x (
 R (.tuple #[.int .u64 0, .int .i64 1]) H2) (fun xA =>
 ∃ p xC t o m k xT ac ab ae, RowAt H2 (ad a) 0 (DR p xC t o m k xT ac ab ae) ∧
 datum_May.C p xC t o m k xT ac ab ae H2 (fun v H3 => ∃ u : Bool, v = .bool u ∧ 
 if u = true then (
 ∀ (g : Nat) (H4 : Array Obj), g = H3.size → H4 = H3.push (.cells #[.nilFunc] 75) →
 (CanPuts H4 (ad g) 0 1) ∧ ∀ H5, H5 = hputs H4 (ad g) [.func (.func 26) #[] #[.pointer (some (ad b)), .pointer (some (ad g))]] 0 →
 ∃ aa : Value, hat H5 (ad g) = some (aa) ∧
 ∃ j z i e f d y s q r, RowAt H5 (ad a) 0 (DR j z i e f d y s q r) ∧
 FC Tryz.prog aa #[.agg (DR j z i e f d y s q r).toArray] H5 (fun af H6 => ∃ xa xb : Int, af = .tuple #[.int .u64 xa, .int .i64 xb] ∧ 
 R (.tuple #[.int .u64 xa, .int .i64 xb]) H6))
 else
 R (.tuple #[.int .u64 0, .int .i64 1]) H3))
namespace build_Heap
theorem link {hv : Option Addr} {dKind : Int} {dC : Int} {dNNeg : Bool} {dNMagB : Option Addr} {dNMagN : Nat} {dNMagC : Nat} {dT : ByteArray} {dLB : Option Addr} {dLN : Nat} {dLC : Nat} {H : Array Obj} {R : Value → Array Obj → Prop} (h : pt hv dKind dC dNNeg dNMagB dNMagN dNMagC dT dLB dLN dLC H R) : C hv dKind dC dNNeg dNMagB dNMagN dNMagC dT dLB dLN dLC H R := by
 refine T_en K0 20 Tryz.func10 ?_
 intro w0 Q hQ
 unfold pt at h
 refine T_su [(0, vp hv), (1, .agg (DR dKind dC dNNeg dNMagB dNMagN dNMagC dT dLB dLN dLC).toArray)] ?_
 refine T_srz 0 ?_
 refine T_nw (some 2) (fun b => vp (pa b)) (.cells #[vp hv] 30) ?_
 intro b H1 e1 e2
 replace h := h b H1 e1 e2
 refine T_pd [0] [(2, vp (pa b))] ?_
 refine T_nw (some 3) (fun b => vp (pa b)) (.cells (DR dKind dC dNNeg dNMagB dNMagN dNMagC dT dLB dLN dLC).toArray 27) ?_
 intro a H2 e3 e4
 replace h := h a H2 e3 e4
 refine T_pd [1] [(3, vp (pa a))] ?_
 refine T_ed 2 [] [] ?_
 refine T_sz ?_
 refine T_srz 1 ?_
 obtain ⟨x, q5, h⟩ := h
 refine T_l1 7 30 q5 [] ?_
 rcases x with _ | xA
 ·rw [onPtr_none] at h
  refine T_ed 6 [7] [(13, .bool true)] ?_
  refine T_tz 13 ?_
  refine T_srz 2 ?_
  exact T_nr 2 [4, 5] [vu 0, vi 1] hQ h
 rw [onPtr_some] at h
 refine T_nd 2 [7] [(9, .bool false)] ?_
 obtain ⟨p, xC, t, o, m, k, xT, ac, ab, ae, q6, h⟩ := h
 refine T_lr 10 27 q6 [] ?_
 refine T_c (some 11) h ?_; clear h
 rintro v H3 ⟨u, rfl, h⟩
 refine T_pd [10] [(11, .bool u)] ?_
 refine T_ed 2 [9, 11] [(13, .bool (!u))] ?_
 by_cases c7 : u = true
 ·rw [if_pos c7] at h
  refine T_cFz 13 (congrArg Bool.not (c7)) ?_
  refine T_kt ?_
  refine T_srz 3 ?_
  refine T_ud [13] [] ?_
  refine T_nw (some 6) (fun b => vp (pa b)) (.cells #[.nilFunc] 75) ?_
  intro g H4 e9 e10
  replace h := h g H4 e9 e10
  refine T_pd [] [(6, vp (pa g))] ?_
  refine T_e ?_
  refine T_srz 4 ?_
  refine T_nd 1 [2] [(14, .func (.func 26) #[] #[vp (pa b), vp (pa g)])] ?_
  obtain ⟨q12, h⟩ := h
  refine T_st1 75 (.func (.func 26) #[] #[vp (pa b), vp (pa g)]) q12 ?_
  intro H5 e11
  replace h := h H5 e11
  refine T_pd [14] [] ?_
  refine T_e ?_
  refine T_srz 5 ?_
  obtain ⟨aa, q13, h⟩ := h
  refine T_l1 15 75 q13 [6] ?_
  obtain ⟨j, z, i, e, f, d, y, s, q, r, q14, h⟩ := h
  refine T_lr 16 27 q14 [3] ?_
  refine N_callv (some 17) aa #[.agg (DR j z i e f d y s q r).toArray] (fun _=>by kernel_rfl) h ?_; clear h
  rintro af H6 ⟨xa, xb, rfl, h⟩
  refine ⟨[(17, .tuple #[vu xa, vi xb])], pk, ?_⟩
  exact T_nr 4 [4, 5] [vu xa, vi xb] hQ h
 rw [if_neg c7] at h
 refine T_cTz 13 (congrArg Bool.not (eq_false_of_ne_true c7)) ?_
 refine T_srz 2 ?_
 exact T_nr 2 [4, 5] [vu 0, vi 1] hQ h
end build_Heap

/-! moraine/build.Datum -/
namespace build_Datum
def K0 := Func.code Tryz.f12
end build_Datum
def build_Datum.pt (hv : Option Addr) (wv : Int) (H : Array Obj) (R : Value → Array Obj → Prop) : Prop :=
 ∀ (b : Nat) (H1 : Array Obj), b = H.size → H1 = H.push (.cells (DR 0 0 false none 0 0 (ByteArray.mk #[]) none 0 0).toArray 27) →
 onPtr hv (
 (CanPuts H1 (ad b) 0 6) ∧ ∀ H2, H2 = hputs H1 (ad b) (DR 0 0 false none 0 0 (ByteArray.mk #[]) none 0 0) 0 →
 ∃ ax rC ap ak ah ag rT a5 a7 a6, RowAt H2 (ad b) 0 (DR ax rC ap ak ah ag rT a5 a7 a6) ∧
 R (.tuple #[.agg (DR ax rC ap ak ah ag rT a5 a7 a6).toArray, .int .i64 3]) H2) (fun a4 =>
 ∀ (ao : Nat) (H3 : Array Obj), ao = H1.size → H3 = H1.push (.cells #[.pointer (some a4), .int .i64 0] 85) →
 build_reader_datum.C (some (ad ao)) wv 0 H3 (fun v H4 => ∃ (g ai : Int) (f : Bool) (a : Option Addr) (d e : Nat) (aj : ByteArray) (aa : Option Addr) (y t : Nat) (rb : Int), v = .tuple #[.agg (DR g ai f a d e aj aa y t).toArray, .int .i64 rb] ∧ 
 ∀ (m : Nat) (H5 : Array Obj), m = H4.size → H5 = H4.push (.cells (DR 0 0 false none 0 0 (ByteArray.mk #[]) none 0 0).toArray 27) →
 (CanPuts H5 (ad m) 0 6) ∧ ∀ H6, H6 = hputs H5 (ad m) (DR g ai f a d e aj aa y t) 0 →
 if rb = 0 then (
 ∃ o xC p k j i xT am al an, RowAt H6 (ad m) 0 (DR o xC p k j i xT am al an) ∧
 (CanPuts H6 (ad b) 0 6) ∧ ∀ H7, H7 = hputs H6 (ad b) (DR o xC p k j i xT am al an) 0 →
 ∃ ae a3 af u q r a2 az aq av, RowAt H7 (ad b) 0 (DR ae a3 af u q r a2 az aq av) ∧
 R (.tuple #[.agg (DR ae a3 af u q r a2 az aq av).toArray, .int .i64 0]) H7)
 else
 (CanPuts H6 (ad b) 0 6) ∧ ∀ H8, H8 = hputs H6 (ad b) (DR 0 0 false none 0 0 (ByteArray.mk #[]) none 0 0) 0 →
 ∃ ab a0 ac s x z a1 aw au ay, RowAt H8 (ad b) 0 (DR ab a0 ac s x z a1 aw au ay) ∧
 R (.tuple #[.agg (DR ab a0 ac s x z a1 aw au ay).toArray, .int .i64 rb]) H8))
namespace build_Datum
theorem link {hv : Option Addr} {wv : Int} {H : Array Obj} {R : Value → Array Obj → Prop} (h : pt hv wv H R) : C hv wv H R := by
 refine T_en K0 26 Tryz.func12 ?_
 intro w0 Q hQ
 unfold pt at h
 refine T_su [(0, vp hv), (1, vu wv)] ?_
 refine T_srz 0 ?_
 refine T_nw (some 4) (fun b => vp (pa b)) (.cells (DR 0 0 false none 0 0 (ByteArray.mk #[]) none 0 0).toArray 27) ?_
 intro b H1 e1 e2
 replace h := h b H1 e1 e2
 refine T_pd [] [(4, vp (pa b))] ?_
 refine T_ed 1 [] [] ?_
 refine T_sz ?_
 refine T_srz 1 ?_
 refine T_nd 1 [] [(9, vp hv)] ?_
 rcases hv with _ | a4
 ·rw [onPtr_none] at h
  refine T_ed 1 [0, 9] [(0, vp none), (10, .bool true)] ?_
  refine T_tz 10 ?_
  refine T_srz 2 ?_
  refine T_nd 1 [0, 1, 10] [(11, .agg (DR 0 0 false none 0 0 (ByteArray.mk #[]) none 0 0).toArray)] ?_
  obtain ⟨q4, h⟩ := h
  refine T_sta 27 (DR 0 0 false none 0 0 (ByteArray.mk #[]) none 0 0) q4 ?_
  intro H2 e3
  replace h := h H2 e3
  refine T_pd [11] [] ?_
  refine T_ed 1 [] [(5, vi 3)] ?_
  refine S_ret (by kernel_rfl) ?_
  show At _ _ _ _ _ (Q .ret)
  obtain ⟨ax, rC, ap, ak, ah, ag, rT, a5, a7, a6, q5, h⟩ := h
  exact S_done (fn := Tryz.f12) [.agg (DR ax rC ap ak ah ag rT a5 a7 a6).toArray, vi 3] hQ (show ResOK _ _ _ [.cell 4 27, .tmp 5] _ from .cell (by kernel_rfl) (loadOK_row (fun _=>by kernel_rfl) (fun _=>by kernel_rfl) q5) (.tmp (by kernel_rfl) (.nil))) h
 rw [onPtr_some] at h
 refine T_ed 1 [0, 9] [(0, vp (some a4)), (10, .bool false)] ?_
 refine T_fz 10 ?_
 refine T_kt ?_
 refine T_srz 3 ?_
 refine T_nd 2 [0, 10] [(13, .agg #[vp (some a4), vi 0])] ?_
 refine T_nw (some 14) (fun b => vp (pa b)) (.cells #[vp (some a4), vi 0] 85) ?_
 intro ao H3 e6 e7
 replace h := h ao H3 e6 e7
 refine T_pd [13] [(14, vp (pa ao))] ?_
 refine T_ed 1 [14] [(6, vp (pa ao))] ?_
 refine T_srz 4 ?_
 refine T_nd 2 [1, 6] [(16, vp (pa ao)), (17, vu wv)] ?_
 refine T_c (some 18) h ?_; clear h
 rintro v H4 ⟨g, ai, f, a, d, e, aj, aa, y, t, rb, rfl, h⟩
 refine T_pd [16, 17] [(18, .tuple #[.agg (DR g ai f a d e aj aa y t).toArray, vi rb])] ?_
 refine T_nd 3 [18] [(19, .agg (DR g ai f a d e aj aa y t).toArray), (20, vi rb)] ?_
 refine T_nw (some 7) (fun b => vp (pa b)) (.cells (DR 0 0 false none 0 0 (ByteArray.mk #[]) none 0 0).toArray 27) ?_
 intro m H5 e8 e9
 replace h := h m H5 e8 e9
 refine T_pd [] [(7, vp (pa m))] ?_
 obtain ⟨q11, h⟩ := h
 refine T_sta 27 (DR g ai f a d e aj aa y t) q11 ?_
 intro H6 e10
 replace h := h H6 e10
 refine T_pd [19] [] ?_
 refine T_ed 1 [20] [(8, vi rb)] ?_
 refine T_sz ?_
 refine T_srz 5 ?_
 refine T_ed 2 [] [(22, .bool (rb != 0))] ?_
 by_cases c12 : rb = 0
 ·rw [if_pos c12] at h
  refine T_cFz 22 (bne_eq_false_iff_eq.mpr c12) ?_
  refine T_kt ?_
  refine T_srz 7 ?_
  refine T_ud [8, 22] [] ?_
  obtain ⟨o, xC, p, k, j, i, xT, am, al, an, q14, h⟩ := h
  refine T_lr 25 27 q14 [7] ?_
  obtain ⟨q16, h⟩ := h
  refine T_sta 27 (DR o xC p k j i xT am al an) q16 ?_
  intro H7 e15
  replace h := h H7 e15
  refine T_pd [25] [] ?_
  refine T_ed 1 [] [(5, vi 0)] ?_
  refine S_ret (by kernel_rfl) ?_
  show At _ _ _ _ _ (Q .ret)
  obtain ⟨ae, a3, af, u, q, r, a2, az, aq, av, q17, h⟩ := h
  exact S_done (fn := Tryz.f12) [.agg (DR ae a3 af u q r a2 az aq av).toArray, vi 0] hQ (show ResOK _ _ _ [.cell 4 27, .tmp 5] _ from .cell (by kernel_rfl) (loadOK_row (fun _=>by kernel_rfl) (fun _=>by kernel_rfl) q17) (.tmp (by kernel_rfl) (.nil))) h
 rw [if_neg c12] at h
 refine T_cTz 22 (bne_iff_ne.mpr c12) ?_
 refine T_srz 6 ?_
 refine T_nd 2 [7, 8, 22] [(23, .agg (DR 0 0 false none 0 0 (ByteArray.mk #[]) none 0 0).toArray), (24, vi rb)] ?_
 obtain ⟨q19, h⟩ := h
 refine T_sta 27 (DR 0 0 false none 0 0 (ByteArray.mk #[]) none 0 0) q19 ?_
 intro H8 e18
 replace h := h H8 e18
 refine T_pd [23] [] ?_
 refine T_ed 1 [24] [(5, vi rb)] ?_
 refine S_ret (by kernel_rfl) ?_
 show At _ _ _ _ _ (Q .ret)
 obtain ⟨ab, a0, ac, s, x, z, a1, aw, au, ay, q20, h⟩ := h
 exact S_done (fn := Tryz.f12) [.agg (DR ab a0 ac s x z a1 aw au ay).toArray, vi rb] hQ (show ResOK _ _ _ [.cell 4 27, .tmp 5] _ from .cell (by kernel_rfl) (loadOK_row (fun _=>by kernel_rfl) (fun _=>by kernel_rfl) q20) (.tmp (by kernel_rfl) (.nil))) h
end build_Datum

/-! moraine/build.Heap.1 -/
namespace build_Heap_1
def K0 := Func.code Tryz.f26
def K2 := cb K0
def K3 := ca K2
def K6 := cb K3
def K7 := ca K6
def K9 := cb K7
def K11 := cb K9
def K15 := cb K11
def K17 := cb K15
def K21 := cb K17
def K23 := cb K21
def K27 := cb K23
def K29 := cb K27
def K33 := cb K29
def K35 := cb K33
def K39 := cb K35
def K41 := cb K39
def K45 := cb K41
def K47 := cb K45
def K51 := cb K47
def K53 := cb K51
def K57 := cb K53
def K58 := ca K57
def K59 := cb K57
def K61 := cb K58
def K62 := ca K61
def K65 := cb K62
def K66 := ca K65
def K67 := ca K66
def K92 := cb K59
def K93 := ca K92
def K96 := cb K93
def K97 := ca K96
def K98 := cb K96
def K99 := ca K97
def K100 := ca K99
def K111 := cb K98
def K112 := ca K111
def K115 := cb K112
def K116 := ca K115
def K117 := ca K116
def K119 := cb K117
def K124 := ca K119
def K126 := ca K124
def K128 := cb K126
def K129 := ca K128
end build_Heap_1
def build_Heap_1.pt (dKind : Int) (dC : Int) (dNNeg : Bool) (dNMagB : Option Addr) (dNMagN : Nat) (dNMagC : Nat) (dT : ByteArray) (dLB : Option Addr) (dLN : Nat) (dLC : Nat) (cap0 : Option Addr) (cap1 : Option Addr) (H : Array Obj) (R : Value → Array Obj → Prop) : Prop :=
 ∀ (b : Nat) (H1 : Array Obj), b = H.size → H1 = H.push (.cells (DR dKind dC dNNeg dNMagB dNMagN dNMagC dT dLB dLN dLC).toArray 27) →
 ∃ x : Int, hat H1 (ad b) = some (.int .i64 x) ∧
 if x = 1 then (
 R (.tuple #[.int .u64 12, .int .i64 0]) H1)
 else
 if x = 2 then (
 R (.tuple #[.int .u64 4, .int .i64 0]) H1)
 else
 if x = 9 then (
 R (.tuple #[.int .u64 36, .int .i64 0]) H1)
 else
 if x = 10 then (
 R (.tuple #[.int .u64 28, .int .i64 0]) H1)
 else
 if x = 3 then (
 ∃ df : Int, hat H1 ((ad b).add 1) = some (.int .i32 df) ∧
 word_Char.C df H1 (fun v H2 => ∃ ra rb : Int, v = .tuple #[.int .u64 ra, .int .i64 rb] ∧ 
 R (.tuple #[.int .u64 ra, .int .i64 rb]) H2))
 else
 if x = 4 then (
 ∃ c3 : Addr, cap0 = some c3 ∧
 ∃ c2 : Option Addr, hat H1 c3 = some (.pointer c2) ∧
 ∃ (ct : Bool) (bn : Option Addr) (bm bl : Nat), RowAt H1 ((ad b).add 2) 0 [.bool ct, .slice bn bm bl] ∧
 obj_Heap_Int.C c2 ct bn bm bl H1 (fun dy H3 => ∃ cu cj : Int, dy = .tuple #[.int .u64 cu, .int .i64 cj] ∧ 
 R (.tuple #[.int .u64 cu, .int .i64 cj]) H3))
 else
 if x = 5 then (
 ∃ bu : Addr, cap0 = some bu ∧
 ∃ c1 : Option Addr, hat H1 bu = some (.pointer c1) ∧
 ∃ de : ByteArray, hat H1 ((ad b).add 4) = some (.string de) ∧
 obj_Heap_String.C c1 de H1 (fun dw H4 => ∃ cs cy : Int, dw = .tuple #[.int .u64 cs, .int .i64 cy] ∧ 
 R (.tuple #[.int .u64 cs, .int .i64 cy]) H4))
 else
 if x = 6 then (
 ∃ bw : Addr, cap0 = some bw ∧
 ∃ c0 : Option Addr, hat H1 bw = some (.pointer c0) ∧
 ∃ di : ByteArray, hat H1 ((ad b).add 4) = some (.string di) ∧
 syms_Intern.C c0 di H1 (fun dv H5 => ∃ cl cw : Int, dv = .tuple #[.int .u64 cl, .int .i64 cw] ∧ 
 R (.tuple #[.int .u64 cl, .int .i64 cw]) H5))
 else
 if x = 8 then (
 ∃ (xB : Option Addr) (xN xC : Nat), hat H1 ((ad b).add 5) = some (.slice xB xN xC) ∧
 ∃ (dk : (Option Addr) → Nat → Nat → Int → Array Obj → Prop) (m68 : (Option Addr) → Nat → Nat → Int → Array Obj → Nat), dk none 0 0 0 H1 ∧ ∀ (lB : Option Addr) (lN : Nat) (lC : Nat) (s62 : Int) (H6 : Array Obj), dk lB lN lC s62 H6 →
 if s62 < (xN : Int) then (
 ∃ o : Addr, xB = some o ∧
 ((0 : Int) ≤ s62 ∧ s62 < (xN : Int)) ∧
 ∃ aw ba ax ae ac ag xT cg cf ch, RowAt H6 (o.add (Int.toNat s62 * 6)) 0 (DR aw ba ax ae ac ag xT cg cf ch) ∧
 ∀ (be : Nat) (H7 : Array Obj), be = H6.size → H7 = H6.push (.cells (DR 0 0 false none 0 0 (ByteArray.mk #[]) none 0 0).toArray 27) →
 (CanPuts H7 (ad be) 0 6) ∧ ∀ H8, H8 = hputs H7 (ad be) (DR aw ba ax ae ac ag xT cg cf ch) 0 →
 ∃ m : Addr, cap1 = some m ∧
 ∃ da : Value, hat H8 m = some (da) ∧
 ∃ a3 co az ao av ak ck b1 b0 bx, RowAt H8 (ad be) 0 (DR a3 co az ao av ak ck b1 b0 bx) ∧
 FC Tryz.prog da #[.agg (DR a3 co az ao av ak ck b1 b0 bx).toArray] H8 (fun dz H9 => ∃ xa xb : Int, dz = .tuple #[.int .u64 xa, .int .i64 xb] ∧ 
 if xb = 0 then (
 ∀ (dh : Nat) (H10 : Array Obj), dh = H9.size → H10 = H9.push (.cells #[.int .u64 xa] 35) →
 appendK 1 35 8 [.int .u64 0] lB lN lC (some (ad dh)) 1 H10 (fun ap db dm =>
 (dk ap (lN + 1) db (IntKind.wrap .i64 (s62 + 1)) dm ∧ m68 ap (lN + 1) db (IntKind.wrap .i64 (s62 + 1)) dm < m68 lB lN lC s62 H6)))
 else
 R (.tuple #[.int .u64 0, .int .i64 xb]) H9))
 else
 ∃ bs : Addr, cap0 = some bs ∧
 ∃ c7 : Option Addr, hat H6 bs = some (.pointer c7) ∧
 obj_Heap_Make.C c7 1 0 lB lN lC H6 (fun dt dq => ∃ cr ci : Int, dt = .tuple #[.int .u64 cr, .int .i64 ci] ∧ 
 R (.tuple #[.int .u64 cr, .int .i64 ci]) dq))
 else
 if x = 7 then (
 ∃ (c5 : (Option Addr) → Nat → Nat → Array Obj → Prop) (m101 : (Option Addr) → Nat → Nat → Array Obj → Nat), c5 none 0 0 H1 ∧ ∀ (f : Option Addr) (carsN : Nat) (carsC : Nat) (H13 : Array Obj), c5 f carsN carsC H13 →
 ∃ bc : Int, hat H13 (ad b) = some (.int .i64 bc) ∧
 if bc = 7 then (
 ∃ (dc : Option Addr) (b2 cp : Nat), hat H13 ((ad b).add 5) = some (.slice dc b2 cp) ∧
 ∃ bf : Addr, dc = some bf ∧
 ((0 : Int) ≤ 0 ∧ 0 < (b2 : Int)) ∧
 ∃ a1 cq a0 an aj ai cv br bq bt, RowAt H13 (bf.add (Int.toNat 0 * 6)) 0 (DR a1 cq a0 an aj ai cv br bq bt) ∧
 ∀ (dg : Nat) (H14 : Array Obj), dg = H13.size → H14 = H13.push (.cells (DR a1 cq a0 an aj ai cv br bq bt).toArray 27) →
 appendK 6 27 88 (DR 0 0 false none 0 0 (ByteArray.mk #[]) none 0 0) f carsN carsC (some (ad dg)) 1 H14 (fun a4 af dd =>
 ∃ (c9 : Option Addr) (b3 cz : Nat), hat dd ((ad b).add 5) = some (.slice c9 b3 cz) ∧
 ∃ bi : Addr, c9 = some bi ∧
 ((0 : Int) ≤ 1 ∧ 1 < (b3 : Int)) ∧
 ∃ aa bk ab q r p bh a7 a8 a6, RowAt dd (bi.add (Int.toNat 1 * 6)) 0 (DR aa bk ab q r p bh a7 a8 a6) ∧
 (CanPuts dd (ad b) 0 6) ∧ ∀ dl, dl = hputs dd (ad b) (DR aa bk ab q r p bh a7 a8 a6) 0 →
 (c5 a4 (carsN + 1) af dl ∧ m101 a4 (carsN + 1) af dl < m101 f carsN carsC H13)))
 else
 ∃ d : Addr, cap1 = some d ∧
 ∃ cc : Value, hat H13 d = some (cc) ∧
 ∃ ay cn a2 au ah am cx bz bo bp, RowAt H13 (ad b) 0 (DR ay cn a2 au ah am cx bz bo bp) ∧
 FC Tryz.prog cc #[.agg (DR ay cn a2 au ah am cx bz bo bp).toArray] H13 (fun du dr => ∃ b6 cd : Int, du = .tuple #[.int .u64 b6, .int .i64 cd] ∧ 
 ∃ (cm : Int → Int → Int → Array Obj → Prop) (m118 : Int → Int → Int → Array Obj → Nat), cm b6 cd (IntKind.wrap .i64 ((carsN : Int) - 1)) dr ∧ ∀ (wv : Int) (ev : Int) (i : Int) (H18 : Array Obj), cm wv ev i H18 →
 if ((decide (i ≥ 0)) && (ev == 0)) = true then (
 ∃ a5 : Value, hat H18 d = some (a5) ∧
 ∃ e : Addr, f = some e ∧
 ((0 : Int) ≤ i ∧ i < (carsN : Int)) ∧
 ∃ aq ce al u y z b8 bd bb a9, RowAt H18 (e.add (Int.toNat i * 6)) 0 (DR aq ce al u y z b8 bd bb a9) ∧
 FC Tryz.prog a5 #[.agg (DR aq ce al u y z b8 bd bb a9).toArray] H18 (fun dx dj => ∃ j g : Int, dx = .tuple #[.int .u64 j, .int .i64 g] ∧ 
 if g = 0 then (
 ∃ s : Addr, cap0 = some s ∧
 ∃ b4 : Option Addr, hat dj s = some (.pointer b4) ∧
 obj_Heap_Cons.C b4 j wv dj (fun dp dn => ∃ bj bg : Int, dp = .tuple #[.int .u64 bj, .int .i64 bg] ∧ 
 (cm bj bg (IntKind.wrap .i64 (i - 1)) dn ∧ m118 bj bg (IntKind.wrap .i64 (i - 1)) dn < m118 wv ev i H18)))
 else
 (cm wv g (IntKind.wrap .i64 (i - 1)) dj ∧ m118 wv g (IntKind.wrap .i64 (i - 1)) dj < m118 wv ev i H18)))
 else
 if ev = 0 then (
 R (.tuple #[.int .u64 wv, .int .i64 0]) H18)
 else
 R (.tuple #[.int .u64 0, .int .i64 ev]) H18))
 else
 R (.tuple #[.int .u64 20, .int .i64 0]) H1
namespace build_Heap_1
theorem link {dKind : Int} {dC : Int} {dNNeg : Bool} {dNMagB : Option Addr} {dNMagN : Nat} {dNMagC : Nat} {dT : ByteArray} {dLB : Option Addr} {dLN : Nat} {dLC : Nat} {cap0 : Option Addr} {cap1 : Option Addr} {H : Array Obj} {R : Value → Array Obj → Prop} (h : pt dKind dC dNNeg dNMagB dNMagN dNMagC dT dLB dLN dLC cap0 cap1 H R) : C dKind dC dNNeg dNMagB dNMagN dNMagC dT dLB dLN dLC cap0 cap1 H R := by
 refine T_en K0 140 Tryz.func26 ?_
 intro w0 Q hQ
 unfold pt at h
 refine T_su [(0, .agg (DR dKind dC dNNeg dNMagB dNMagN dNMagC dT dLB dLN dLC).toArray), (1, vp cap0), (2, vp cap1)] ?_
 refine T_srz 0 ?_
 refine T_nw (some 3) (fun b => vp (pa b)) (.cells (DR dKind dC dNNeg dNMagB dNMagN dNMagC dT dLB dLN dLC).toArray 27) ?_
 intro b H1 e1 e2
 replace h := h b H1 e1 e2
 refine T_pd [0] [(3, vp (pa b))] ?_
 refine T_ed 2 [] [] ?_
 refine T_sz ?_
 refine T_srz 1 ?_
 refine T_nd 1 [] [(16, vp (pa b))] ?_
 obtain ⟨x, q3, h⟩ := h
 refine T_l1 17 3 q3 [16] ?_
 refine T_e ?_
 refine T_bz 0 ?_
 refine T_srz 2 ?_
 refine T_ed 2 [] [(18, .bool (x == 1))] ?_
 by_cases c4 : x = 1
 ·rw [if_pos c4] at h
  refine T_cTz 18 (beq_iff_eq.mpr c4) ?_
  refine T_srz 3 ?_
  exact T_nr 2 [4, 5] [vu 12, vi 0] hQ h
 rw [if_neg c4] at h
 refine T_cFz 18 (beq_eq_false_iff_ne.mpr c4) ?_
 refine T_srz 4 ?_
 refine T_ed 2 [18] [(20, .bool (x == 2))] ?_
 by_cases c6 : x = 2
 ·rw [if_pos c6] at h
  refine T_cTz 20 (beq_iff_eq.mpr c6) ?_
  refine T_srz 5 ?_
  exact T_nr 2 [4, 5] [vu 4, vi 0] hQ h
 rw [if_neg c6] at h
 refine T_cFz 20 (beq_eq_false_iff_ne.mpr c6) ?_
 refine T_srz 6 ?_
 refine T_ed 2 [20] [(22, .bool (x == 9))] ?_
 by_cases c8 : x = 9
 ·rw [if_pos c8] at h
  refine T_cTz 22 (beq_iff_eq.mpr c8) ?_
  refine T_srz 7 ?_
  exact T_nr 2 [4, 5] [vu 36, vi 0] hQ h
 rw [if_neg c8] at h
 refine T_cFz 22 (beq_eq_false_iff_ne.mpr c8) ?_
 refine T_srz 8 ?_
 refine T_ed 2 [22] [(24, .bool (x == 10))] ?_
 by_cases c10 : x = 10
 ·rw [if_pos c10] at h
  refine T_cTz 24 (beq_iff_eq.mpr c10) ?_
  refine T_srz 9 ?_
  exact T_nr 2 [4, 5] [vu 28, vi 0] hQ h
 rw [if_neg c10] at h
 refine T_cFz 24 (beq_eq_false_iff_ne.mpr c10) ?_
 refine T_srz 10 ?_
 refine T_ed 2 [24] [(26, .bool (x == 3))] ?_
 by_cases c12 : x = 3
 ·rw [if_pos c12] at h
  refine T_cTz 26 (beq_iff_eq.mpr c12) ?_
  refine T_srz 11 ?_
  refine T_n 1 [(28, vp (some ((ad b).add 1)))] ?_
  obtain ⟨df, q14, h⟩ := h
  refine T_l1 29 21 q14 [28] ?_
  refine T_c (some 30) h ?_; clear h
  rintro v H2 ⟨ra, rb, rfl, h⟩
  refine ⟨[(30, .tuple #[vu ra, vi rb])], pk, ?_⟩
  exact T_nr 4 [4, 5] [vu ra, vi rb] hQ h
 rw [if_neg c12] at h
 refine T_cFz 26 (beq_eq_false_iff_ne.mpr c12) ?_
 refine T_srz 12 ?_
 refine T_ed 2 [26] [(33, .bool (x == 4))] ?_
 by_cases c15 : x = 4
 ·rw [if_pos c15] at h
  refine T_cTz 33 (beq_iff_eq.mpr c15) ?_
  refine T_srz 13 ?_
  refine T_ud [2, 17, 33] [] ?_
  obtain ⟨c3, rfl, h⟩ := h
  obtain ⟨c2, q17, h⟩ := h
  refine T_l1 35 30 q17 [1] ?_
  refine T_nd 1 [3] [(36, vp (some ((ad b).add 2)))] ?_
  obtain ⟨ct, bn, bm, bl, q18, h⟩ := h
  refine T_lr 37 24 q18 [36] ?_
  refine T_c (some 38) h ?_; clear h
  rintro dy H3 ⟨cu, cj, rfl, h⟩
  refine ⟨[(38, .tuple #[vu cu, vi cj])], pk, ?_⟩
  exact T_nr 4 [4, 5] [vu cu, vi cj] hQ h
 rw [if_neg c15] at h
 refine T_cFz 33 (beq_eq_false_iff_ne.mpr c15) ?_
 refine T_srz 14 ?_
 refine T_ed 2 [33] [(41, .bool (x == 5))] ?_
 by_cases c19 : x = 5
 ·rw [if_pos c19] at h
  refine T_cTz 41 (beq_iff_eq.mpr c19) ?_
  refine T_srz 15 ?_
  refine T_ud [2, 17, 41] [] ?_
  obtain ⟨bu, rfl, h⟩ := h
  obtain ⟨c1, q21, h⟩ := h
  refine T_l1 43 30 q21 [1] ?_
  refine T_nd 1 [3] [(44, vp (some ((ad b).add 4)))] ?_
  obtain ⟨de, q22, h⟩ := h
  refine T_l1 45 9 q22 [44] ?_
  refine T_c (some 46) h ?_; clear h
  rintro dw H4 ⟨cs, cy, rfl, h⟩
  refine ⟨[(46, .tuple #[vu cs, vi cy])], pk, ?_⟩
  exact T_nr 4 [4, 5] [vu cs, vi cy] hQ h
 rw [if_neg c19] at h
 refine T_cFz 41 (beq_eq_false_iff_ne.mpr c19) ?_
 refine T_srz 16 ?_
 refine T_ed 2 [41] [(49, .bool (x == 6))] ?_
 by_cases c23 : x = 6
 ·rw [if_pos c23] at h
  refine T_cTz 49 (beq_iff_eq.mpr c23) ?_
  refine T_srz 17 ?_
  refine T_ud [2, 17, 49] [] ?_
  obtain ⟨bw, rfl, h⟩ := h
  obtain ⟨c0, q25, h⟩ := h
  refine T_l1 51 30 q25 [1] ?_
  refine T_nd 1 [3] [(52, vp (some ((ad b).add 4)))] ?_
  obtain ⟨di, q26, h⟩ := h
  refine T_l1 53 9 q26 [52] ?_
  refine T_c (some 54) h ?_; clear h
  rintro dv H5 ⟨cl, cw, rfl, h⟩
  refine ⟨[(54, .tuple #[vu cl, vi cw])], pk, ?_⟩
  exact T_nr 4 [4, 5] [vu cl, vi cw] hQ h
 rw [if_neg c23] at h
 refine T_cFz 49 (beq_eq_false_iff_ne.mpr c23) ?_
 refine T_srz 18 ?_
 refine T_ed 2 [49] [(57, .bool (x == 8))] ?_
 by_cases c27 : x = 8
 ·rw [if_pos c27] at h
  refine T_cTz 57 (beq_iff_eq.mpr c27) ?_
  refine T_srz 19 ?_
  refine T_ed 1 [17, 57] [(6, vs none 0 0)] ?_
  refine T_sz ?_
  refine T_srz 20 ?_
  refine T_nd 1 [3] [(59, vp (some ((ad b).add 5)))] ?_
  obtain ⟨xB, xN, xC, q29, h⟩ := h
  refine T_l1 60 25 q29 [59] ?_
  refine T_ed 2 [] [(61, vi xN), (62, vi 0)] ?_
  refine T_bz 1 ?_
  obtain ⟨dk, m68, i30, i31⟩ := h
  refine S_loop (x := K67) (σ := (Option Addr) × Nat × Nat × Int) (fun s_ => [(1, vp cap0), (2, vp cap1), (6, vs s_.1 s_.2.1 s_.2.2.1), (60, vs xB xN xC), (61, vi xN), (62, vi s_.2.2.2)]) (fun s_ H => dk s_.1 s_.2.1 s_.2.2.1 s_.2.2.2 H) (fun s_ H => m68 s_.1 s_.2.1 s_.2.2.1 s_.2.2.2 H) ((none, 0, 0, 0) : (Option Addr) × Nat × Nat × Int) (by kernel_rfl) i30 sk ?_
  rintro ⟨lB, lN, lC, s62⟩ H6 i32
  have h := i31 lB lN lC s62 H6 i32
  refine T_su [(1, vp cap0), (2, vp cap1), (6, vs lB lN lC), (60, vs xB xN xC), (61, vi xN), (62, vi s62)] ?_
  refine T_srz 21 ?_
  refine T_ed 1 [] [(63, .bool (decide (s62 < (xN : Int))))] ?_
  refine T_sz ?_
  by_cases c33 : s62 < (xN : Int)
  ·rw [if_pos c33] at h
   refine T_cTz 63 (decide_eq_true c33) ?_
   refine T_kt ?_
   refine T_sz ?_
   refine T_bz 2 ?_
   refine T_srz 22 ?_
   refine T_ud [63] [] ?_
   obtain ⟨o, rfl, h⟩ := h
   obtain ⟨q35, h⟩ := h
   refine T_xd (some 64) 25 27 6 o xN xC .i64 s62 Tryz.underlying25 q35.1 q35.2 [60] [(60, vs (some o) xN xC), (64, vp (some (o.add (Int.toNat s62 * 6))))] ?_
   obtain ⟨aw, ba, ax, ae, ac, ag, xT, cg, cf, ch, q36, h⟩ := h
   refine T_lr 65 27 q36 [64] ?_
   refine T_nw (some 8) (fun b => vp (pa b)) (.cells (DR 0 0 false none 0 0 (ByteArray.mk #[]) none 0 0).toArray 27) ?_
   intro be H7 e37 e38
   replace h := h be H7 e37 e38
   refine T_pd [] [(8, vp (pa be))] ?_
   obtain ⟨q40, h⟩ := h
   refine T_sta 27 (DR aw ba ax ae ac ag xT cg cf ch) q40 ?_
   intro H8 e39
   replace h := h H8 e39
   refine T_pd [65] [] ?_
   refine T_e ?_
   refine T_srz 23 ?_
   obtain ⟨m, rfl, h⟩ := h
   obtain ⟨da, q41, h⟩ := h
   refine T_ld (some 67) 75 q41 [2] [(2, vp (some m)), (67, da)] ?_
   obtain ⟨a3, co, az, ao, av, ak, ck, b1, b0, bx, q42, h⟩ := h
   refine T_lr 68 27 q42 [8] ?_
   refine N_callv (some 69) da #[.agg (DR a3 co az ao av ak ck b1 b0 bx).toArray] (fun _=>by kernel_rfl) h ?_; clear h
   rintro dz H9 ⟨xa, xb, rfl, h⟩
   refine T_pd [67, 68] [(69, .tuple #[vu xa, vi xb])] ?_
   refine T_ed 5 [69] [(9, vu xa), (10, vi xb)] ?_
   refine T_sz ?_
   refine T_srz 24 ?_
   refine T_ed 2 [] [(73, .bool (xb != 0))] ?_
   by_cases c43 : xb = 0
   ·rw [if_pos c43] at h
    refine T_cFz 73 (bne_eq_false_iff_eq.mpr c43) ?_
    refine T_kt ?_
    refine T_rz 26 ?_
    refine T_nd 2 [6, 9, 10, 73] [(75, vs lB lN lC), (76, vu xa)] ?_
    refine T_nw (some 77) (fun b => vs (pa b) 1 1) (.cells #[vu xa] 35) ?_
    intro dh H10 e45 e46
    replace h := h dh H10 e45 e46
    refine T_pd [76] [(77, vs (pa dh) 1 1)] ?_
    refine N_op (some 78) (appendN #[43, 43] 43 #[vs lB lN lC, vs (pa dh) 1 1]) _ (fun _=>by kernel_rfl) (ss_append (T := 35) (sz := 1) (bytes := 8) (zero := (vu 0 : Value)) Tryz.underlying43 Tryz.underlying43 rfl (show Tryz.prog.info? 35 = some Tryz.t35 from by kernel_rfl) (by kernel_rfl) (by kernel_rfl) (by decide) (by kernel_rfl) (by first | exact h | (simpa only [Value.cells, List.toList_toArray] using h))) ?_; clear h
    rintro _ dm ⟨ap, db, rfl, h⟩
    refine T_pd [75, 77] [(78, vs ap (lN + 1) db)] ?_
    refine T_nd 1 [78] [(6, vs ap (lN + 1) db)] ?_
    refine N_end (by kernel_rfl) ?_
    refine S_blockEnd ?_
    refine S_then ?_
    refine T_rz 27 ?_
    refine T_ed 2 [62] [(62, vi (IntKind.wrap .i64 (s62 + 1)))] ?_
    exact S_round ((ap, (lN + 1), db, (IntKind.wrap .i64 (s62 + 1))) : (Option Addr) × Nat × Nat × Int) sk h
   rw [if_neg c43] at h
   refine T_cTz 73 (bne_iff_ne.mpr c43) ?_
   refine T_srz 25 ?_
   exact T_nr 3 [4, 5] [vu 0, vi xb] hQ h
  rw [if_neg c33] at h
  refine T_cFz 63 (decide_eq_false c33) ?_
  refine S_exit 1 (by kernel_rfl) ?_
  refine S_exitThen ?_
  refine S_exitThen ?_
  refine S_exitHere ?_
  refine S_then ?_
  refine T_srz 28 ?_
  refine T_ud [2, 60, 61, 62, 63] [] ?_
  obtain ⟨bs, rfl, h⟩ := h
  obtain ⟨c7, q47, h⟩ := h
  refine T_l1 80 30 q47 [1] ?_
  refine T_nd 1 [6] [(81, vs lB lN lC)] ?_
  refine T_c (some 82) h ?_; clear h
  rintro dt dq ⟨cr, ci, rfl, h⟩
  refine ⟨[(82, .tuple #[vu cr, vi ci])], pk, ?_⟩
  exact T_nr 4 [4, 5] [vu cr, vi ci] hQ h
 rw [if_neg c27] at h
 refine T_cFz 57 (beq_eq_false_iff_ne.mpr c27) ?_
 refine T_srz 29 ?_
 refine T_ed 2 [17, 57] [(85, .bool (x == 7))] ?_
 by_cases c48 : x = 7
 ·rw [if_pos c48] at h
  refine T_cTz 85 (beq_iff_eq.mpr c48) ?_
  refine T_srz 30 ?_
  refine T_ed 1 [85] [(11, vs none 0 0)] ?_
  refine T_sz ?_
  refine T_bz 3 ?_
  obtain ⟨c5, m101, i50, i51⟩ := h
  refine S_loop (x := K100) (σ := (Option Addr) × Nat × Nat) (fun s_ => [(1, vp cap0), (2, vp cap1), (3, vp (pa b)), (11, vs s_.1 s_.2.1 s_.2.2)]) (fun s_ H => c5 s_.1 s_.2.1 s_.2.2 H) (fun s_ H => m101 s_.1 s_.2.1 s_.2.2 H) ((none, 0, 0) : (Option Addr) × Nat × Nat) (by kernel_rfl) i50 sk ?_
  rintro ⟨f, carsN, carsC⟩ H13 i52
  have h := i51 f carsN carsC H13 i52
  refine T_su [(1, vp cap0), (2, vp cap1), (3, vp (pa b)), (11, vs f carsN carsC)] ?_
  refine T_sz ?_
  refine T_srz 31 ?_
  refine T_nd 1 [] [(87, vp (pa b))] ?_
  obtain ⟨bc, q53, h⟩ := h
  refine T_l1 88 3 q53 [87] ?_
  refine T_ed 1 [88] [(89, .bool (bc == 7))] ?_
  by_cases c54 : bc = 7
  ·rw [if_pos c54] at h
   refine T_cTz 89 (beq_iff_eq.mpr c54) ?_
   refine T_kt ?_
   refine T_bz 4 ?_
   refine T_srz 32 ?_
   refine T_nd 2 [11, 89] [(90, vs f carsN carsC), (91, vp (some ((ad b).add 5)))] ?_
   obtain ⟨dc, b2, cp, q56, h⟩ := h
   refine T_l1 92 25 q56 [91] ?_
   obtain ⟨bf, rfl, h⟩ := h
   obtain ⟨q57, h⟩ := h
   refine T_xd (some 93) 25 27 6 bf b2 cp .i64 0 Tryz.underlying25 q57.1 q57.2 [92] [(93, vp (some (bf.add (Int.toNat 0 * 6))))] ?_
   obtain ⟨a1, cq, a0, an, aj, ai, cv, br, bq, bt, q58, h⟩ := h
   refine T_lr 94 27 q58 [93] ?_
   refine T_nw (some 95) (fun b => vs (pa b) 1 1) (.cells (DR a1 cq a0 an aj ai cv br bq bt).toArray 27) ?_
   intro dg H14 e59 e60
   replace h := h dg H14 e59 e60
   refine T_pd [94] [(95, vs (pa dg) 1 1)] ?_
   refine N_op (some 96) (appendN #[25, 25] 25 #[vs f carsN carsC, vs (pa dg) 1 1]) _ (fun _=>by kernel_rfl) (ss_append (T := 27) (sz := 6) (bytes := 88) (zero := (.agg (DR 0 0 false none 0 0 (ByteArray.mk #[]) none 0 0).toArray : Value)) Tryz.underlying25 Tryz.underlying25 rfl (show Tryz.prog.info? 27 = some Tryz.t27 from by kernel_rfl) (by kernel_rfl) (by kernel_rfl) (by decide) (by kernel_rfl) (by first | exact h | (simpa only [Value.cells, List.toList_toArray] using h))) ?_; clear h
   rintro _ dd ⟨a4, af, rfl, h⟩
   refine T_pd [90, 95] [(96, vs a4 (carsN + 1) af)] ?_
   refine T_ed 1 [96] [(11, vs a4 (carsN + 1) af)] ?_
   refine T_rz 33 ?_
   refine T_nd 1 [] [(97, vp (some ((ad b).add 5)))] ?_
   obtain ⟨c9, b3, cz, q61, h⟩ := h
   refine T_l1 98 25 q61 [97] ?_
   obtain ⟨bi, rfl, h⟩ := h
   obtain ⟨q62, h⟩ := h
   refine T_xd (some 99) 25 27 6 bi b3 cz .i64 1 Tryz.underlying25 q62.1 q62.2 [98] [(99, vp (some (bi.add (Int.toNat 1 * 6))))] ?_
   obtain ⟨aa, bk, ab, q, r, p, bh, a7, a8, a6, q63, h⟩ := h
   refine T_lr 100 27 q63 [99] ?_
   obtain ⟨q65, h⟩ := h
   refine T_sta 27 (DR aa bk ab q r p bh a7 a8 a6) q65 ?_
   intro dl e64
   replace h := h dl e64
   refine T_pd [100] [] ?_
   refine N_end (by kernel_rfl) ?_
   refine S_blockEnd ?_
   refine S_then ?_
   exact S_round ((a4, (carsN + 1), af) : (Option Addr) × Nat × Nat) sk h
  rw [if_neg c54] at h
  refine T_cFz 89 (beq_eq_false_iff_ne.mpr c54) ?_
  refine S_exit 3 (by kernel_rfl) ?_
  refine S_exitThen ?_
  refine S_exitThen ?_
  refine S_exitHere ?_
  refine S_then ?_
  refine T_srz 34 ?_
  refine T_ud [89] [] ?_
  obtain ⟨d, rfl, h⟩ := h
  obtain ⟨cc, q66, h⟩ := h
  refine T_ld (some 102) 75 q66 [2] [(2, vp (some d)), (102, cc)] ?_
  obtain ⟨ay, cn, a2, au, ah, am, cx, bz, bo, bp, q67, h⟩ := h
  refine T_lr 103 27 q67 [3] ?_
  refine N_callv (some 104) cc #[.agg (DR ay cn a2 au ah am cx bz bo bp).toArray] (fun _=>by kernel_rfl) h ?_; clear h
  rintro du dr ⟨b6, cd, rfl, h⟩
  refine T_pd [102, 103] [(104, .tuple #[vu b6, vi cd])] ?_
  refine T_ed 5 [104] [(12, vu b6), (13, vi cd)] ?_
  refine T_sz ?_
  refine T_srz 35 ?_
  refine T_ed 4 [] [(14, vi (IntKind.wrap .i64 ((carsN : Int) - 1)))] ?_
  refine T_bz 5 ?_
  obtain ⟨cm, m118, i68, i69⟩ := h
  refine S_loop (x := K117) (σ := Int × Int × Int) (fun s_ => [(1, vp cap0), (2, vp (some d)), (11, vs f carsN carsC), (12, vu s_.1), (13, vi s_.2.1), (14, vi s_.2.2)]) (fun s_ H => cm s_.1 s_.2.1 s_.2.2 H) (fun s_ H => m118 s_.1 s_.2.1 s_.2.2 H) ((b6, cd, (IntKind.wrap .i64 ((carsN : Int) - 1))) : Int × Int × Int) (by kernel_rfl) i68 sk ?_
  rintro ⟨wv, ev, i⟩ H18 i70
  have h := i69 wv ev i H18 i70
  refine T_su [(1, vp cap0), (2, vp (some d)), (11, vs f carsN carsC), (12, vu wv), (13, vi ev), (14, vi i)] ?_
  refine T_sz ?_
  refine T_srz 36 ?_
  refine N_cut [(1, vp cap0), (2, vp (some d)), (11, vs f carsN carsC), (12, vu wv), (13, vi ev), (14, vi i), (115, .bool ((decide (i ≥ 0)) && (ev == 0)))] ?_ ?_
  ·refine S_then ?_
   by_cases c73 : ((decide (i ≥ 0)) && (ev == 0)) = true
   ·rw [if_pos c73] at h
    refine T_cTz 115 c73 ?_
    refine T_kt ?_
    refine T_sz ?_
    refine T_bz 6 ?_
    refine T_srz 38 ?_
    refine T_ne 1 [(1, vp cap0), (2, vp (some d)), (11, vs f carsN carsC), (12, vu wv), (14, vi i)] ?_
    refine T_sz ?_
    obtain ⟨a5, q75, h⟩ := h
    obtain ⟨e, rfl, h⟩ := h
    obtain ⟨q76, h⟩ := h
    obtain ⟨aq, ce, al, u, y, z, b8, bd, bb, a9, q77, h⟩ := h
    refine S_regionG 39 (Code.ops K129) [(5, d, [a5]), (5, (e.add (Int.toNat i * 6)), (DR aq ce al u y z b8 bd bb a9))] 11 (bv 11 0) (by kernel_rfl) (by kernel_rfl) (by kernel_rfl) (by kernel_rfl) (by kernel_rfl) (show FactsAt _ _ _ from ⟨⟨q75, trivial⟩, q77, trivial⟩) ?_
    refine T_g 0 (some 119) (a5) (bv 11 1) [(1, vp cap0), (2, vp (some d)), (11, vs (some e) carsN carsC), (12, vu wv), (14, vi i), (119, a5)] (loadN 75 (vp (some d))) (held_one 5 (fun _=>by kernel_rfl) (List.Mem.head _) (.inl (by kernel_rfl))) ?_
    refine T_gp1 1 120 (vs (some e) carsN carsC) (bv 11 3) [] ?_
    refine T_gp1 2 121 (vi i) (bv 11 7) [] ?_
    refine T_g1 3 122 (vp (some (e.add (Int.toNat i * 6)))) (bv 11 15) [120, 121] (indexAtN 25 (vs (some e) carsN carsC) (vi i)) (fun _ w _ _ _ => indexAt_run (P := Tryz.prog) (t := 25) (elem := 27) (sz := 6) (a := e) (len := carsN) (cap := carsC) (k := .i64) (i := i) Tryz.underlying25 (fun _=>by kernel_rfl) q76.1 q76.2 w) ?_
    refine T_g1 4 123 (.agg (DR aq ce al u y z b8 bd bb a9).toArray) (bv 11 31) [122] (loadN 27 (vp (some (e.add (Int.toNat i * 6))))) (held_row 5 (fun _=>by kernel_rfl) (fun _=>by kernel_rfl) (List.Mem.tail _ (List.Mem.head _)) (.inl (by kernel_rfl))) ?_
    refine G_callv 5 (some 124) (bv 11 63) a5 #[.agg (DR aq ce al u y z b8 bd bb a9).toArray] (by kernel_rfl) (fun _=>by kernel_rfl) h (by kernel_rfl) ?_; clear h
    rintro dx dj ⟨j, g, rfl, h⟩
    refine ⟨[(1, vp cap0), (2, vp (some d)), (11, vs (some e) carsN carsC), (12, vu wv), (14, vi i), (124, .tuple #[vu j, vi g])], pk, (show FactsAt _ _ _ from ⟨trivial, trivial, trivial⟩), ?_⟩
    refine T_g 6 (some 118) (.tuple #[vu j, vi g]) (bv 11 127) [(1, vp cap0), (2, vp (some d)), (11, vs (some e) carsN carsC), (12, vu wv), (14, vi i), (118, .tuple #[vu j, vi g])] (pure (.value (.tuple #[vu j, vi g])) : Sem Next) (fun _ _ _ _ _ => rfl) ?_
    refine T_g1 7 125 (vu j) (bv 11 255) [] (pure (.value (vu j)) : Sem Next) (fun _ _ _ _ _ => rfl) ?_
    refine T_g1 8 126 (vi g) (bv 11 511) [118] (pure (.value (vi g)) : Sem Next) (fun _ _ _ _ _ => rfl) ?_
    refine T_g1 9 15 (vu j) (bv 11 1023) [125] (pure (.value (vu j)) : Sem Next) (fun _ _ _ _ _ => rfl) ?_
    refine T_g1 10 13 (vi g) (bv 11 2047) [126] (pure (.value (vi g)) : Sem Next) (fun _ _ _ _ _ => rfl) ?_
    refine G_sub [(1, vp cap0), (2, vp (some d)), (11, vs (some e) carsN carsC), (12, vu wv), (13, vi g), (14, vi i), (15, vu j)] sk ?_
    refine G_end (by kernel_rfl) ?_
    refine S_then ?_
    refine T_srz 40 ?_
    refine T_ne 2 [(1, vp cap0), (2, vp (some d)), (11, vs (some e) carsN carsC), (12, vu wv), (13, vi g), (14, vi i), (15, vu j), (128, .bool (g == 0))] ?_
    by_cases c78 : g = 0
    ·rw [if_pos c78] at h
     refine T_cTz 128 (beq_iff_eq.mpr c78) ?_
     refine T_rz 41 ?_
     refine T_ud [13, 128] [] ?_
     obtain ⟨s, rfl, h⟩ := h
     obtain ⟨b4, q80, h⟩ := h
     refine T_ld (some 130) 30 q80 [1] [(1, vp (some s)), (130, vp b4)] ?_
     refine T_nd 2 [12, 15] [(131, vu j), (132, vu wv)] ?_
     refine T_c (some 133) h ?_; clear h
     rintro dp dn ⟨bj, bg, rfl, h⟩
     refine T_pd [130, 131, 132] [(133, .tuple #[vu bj, vi bg])] ?_
     refine T_nd 5 [133] [(12, vu bj), (13, vi bg)] ?_
     refine N_end (by kernel_rfl) ?_
     refine S_blockEnd ?_
     refine S_then ?_
     refine T_rz 37 ?_
     refine T_ed 3 [14] [(14, vi (IntKind.wrap .i64 (i - 1)))] ?_
     exact S_round ((bj, bg, (IntKind.wrap .i64 (i - 1))) : Int × Int × Int) sk h
    rw [if_neg c78] at h
    refine T_cFz 128 (beq_eq_false_iff_ne.mpr c78) ?_
    refine T_k ?_
    refine S_blockEnd ?_
    refine S_then ?_
    refine T_rz 37 ?_
    refine T_ed 3 [14, 15, 128] [(14, vi (IntKind.wrap .i64 (i - 1)))] ?_
    exact S_round ((wv, g, (IntKind.wrap .i64 (i - 1))) : Int × Int × Int) sk h
   rw [if_neg c73] at h
   refine T_cFz 115 (eq_false_of_ne_true c73) ?_
   refine S_exit 5 (by kernel_rfl) ?_
   refine S_exitThen ?_
   refine S_exitThen ?_
   refine S_exitHere ?_
   refine S_then ?_
   refine T_sz ?_
   refine T_srz 42 ?_
   refine T_ne 2 [(12, vu wv), (13, vi ev), (137, .bool (ev != 0))] ?_
   by_cases c81 : ev = 0
   ·rw [if_pos c81] at h
    refine T_cFz 137 (bne_eq_false_iff_eq.mpr c81) ?_
    refine T_kt ?_
    refine T_srz 44 ?_
    exact T_nr 3 [4, 5] [vu wv, vi 0] hQ h
   rw [if_neg c81] at h
   refine T_cTz 137 (bne_iff_ne.mpr c81) ?_
   refine T_srz 43 ?_
   exact T_nr 3 [4, 5] [vu 0, vi ev] hQ h
  intro hk
  refine T_n 3 [(1, vp cap0), (2, vp (some d)), (11, vs f carsN carsC), (12, vu wv), (13, vi ev), (14, vi i), (112, .bool (decide (i ≥ 0)))] ?_
  by_cases c71 : i ≥ 0
  ·have b72 : (decide (i ≥ 0)) = true := decide_eq_true c71
   refine N_env [(1, vp cap0), (2, vp (some d)), (11, vs f carsN carsC), (12, vu wv), (13, vi ev), (14, vi i), (112, .bool true)] (by rw [b72]) ?_
   refine T_nd 3 [112] [(115, .bool (ev == 0))] ?_
   refine N_end (by kernel_rfl) ?_
   refine S_bd 115 (b := (ev == 0)) (v := ((decide (i ≥ 0)) && (ev == 0))) (by simp only [b72, BL]) ?_
   exact hk
  have b72 : (decide (i ≥ 0)) = false := decide_eq_false c71
  refine N_env [(1, vp cap0), (2, vp (some d)), (11, vs f carsN carsC), (12, vu wv), (13, vi ev), (14, vi i), (112, .bool false)] (by rw [b72]) ?_
  refine T_nd 3 [112] [(115, .bool false)] ?_
  refine N_end (by kernel_rfl) ?_
  refine S_bd 115 (b := false) (v := ((decide (i ≥ 0)) && (ev == 0))) (by simp only [b72, BL]) ?_
  exact hk
 rw [if_neg c48] at h
 refine T_cFz 85 (beq_eq_false_iff_ne.mpr c48) ?_
 refine T_k ?_
 refine S_blockEnd ?_
 refine S_then ?_
 refine T_srz 45 ?_
 exact T_nr 2 [4, 5] [vu 20, vi 0] hQ h
end build_Heap_1

/-! (*moraine/build.reader).datum -/
namespace build_reader_datum
def K0 := Func.code Tryz.f34
end build_reader_datum
def build_reader_datum.pt (r : Option Addr) (wv : Int) (deep : Int) (H : Array Obj) (R : Value → Array Obj → Prop) : Prop :=
 ∀ (b : Nat) (H1 : Array Obj), b = H.size → H1 = H.push (.cells (DR 0 0 false none 0 0 (ByteArray.mk #[]) none 0 0).toArray 27) →
 build_reader_one.C r H1 (fun v H2 => ∃ x : Int, v = .int .i64 x ∧ 
 if x = 0 then (
 build_constant.C wv H2 (fun e0 H3 => ∃ (y cp : Int) (u : Bool) (q : Option Addr) (s t : Nat) (cm : ByteArray) (a5 : Option Addr) (a3 bw : Nat) (rb : Bool), e0 = .tuple #[.agg (DR y cp u q s t cm a5 a3 bw).toArray, .bool rb] ∧ 
 ∀ (an : Nat) (H4 : Array Obj), an = H3.size → H4 = H3.push (.cells (DR 0 0 false none 0 0 (ByteArray.mk #[]) none 0 0).toArray 27) →
 (CanPuts H4 (ad an) 0 6) ∧ ∀ H5, H5 = hputs H4 (ad an) (DR y cp u q s t cm a5 a3 bw) 0 →
 if rb = true then (
 ∃ ay xC az af ac ak xT cr cq ct, RowAt H5 (ad an) 0 (DR ay xC az af ac ak xT cr cq ct) ∧
 (CanPuts H5 (ad b) 0 6) ∧ ∀ H6, H6 = hputs H5 (ad b) (DR ay xC az af ac ak xT cr cq ct) 0 →
 ∃ c7 rC dh co cn cl rT en ep el, RowAt H6 (ad b) 0 (DR c7 rC dh co cn cl rT en ep el) ∧
 R (.tuple #[.agg (DR c7 rC dh co cn cl rT en ep el).toArray, .int .i64 0]) H6)
 else
 ∃ rA : Addr, r = some rA ∧
 ∃ dp : Option Addr, hat H5 rA = some (.pointer dp) ∧
 obj_Heap_Num.C dp wv H5 (fun ey H7 => ∃ (av : Bool) (ab : Option Addr) (z aa : Nat) (am : Int), ey = .tuple #[.agg #[.bool av, .slice ab z aa], .int .i64 am] ∧ 
 ∀ (ao : Nat) (H8 : Array Obj), ao = H7.size → H8 = H7.push (.cells #[.bool false, .slice none 0 0] 24) →
 (CanPuts H8 (ad ao) 0 2) ∧ ∀ H9, H9 = hputs H8 (ad ao) [.bool av, .slice ab z aa] 0 →
 if am = 0 then (
 ∃ (bh : Bool) (au : Option Addr) (aq ap : Nat), RowAt H9 (ad ao) 0 [.bool bh, .slice au aq ap] ∧
 (CanPuts H9 (ad b) 0 6) ∧ ∀ ec, ec = hputs H9 (ad b) (DR 4 0 bh au aq ap (ByteArray.mk #[]) none 0 0) 0 →
 ∃ cc d5 b8 a8 bp a7 dx da c1 c4, RowAt ec (ad b) 0 (DR cc d5 b8 a8 bp a7 dx da c1 c4) ∧
 R (.tuple #[.agg (DR cc d5 b8 a8 bp a7 dx da c1 c4).toArray, .int .i64 0]) ec)
 else
 ∃ dt : Option Addr, hat H9 rA = some (.pointer dt) ∧
 obj_Heap_Type.C dt wv H9 (fun ex dq => ∃ j : Int, ex = .int .i64 j ∧ 
 if j = 2 then (
 ∃ dn : Option Addr, hat dq rA = some (.pointer dn) ∧
 obj_Heap_Text.C dn wv dq (fun e3 em => ∃ (ra : ByteArray) (bu : Int), e3 = .tuple #[.string ra, .int .i64 bu] ∧ 
 (CanPuts em (ad b) 0 6) ∧ ∀ ei, ei = hputs em (ad b) (DR 5 0 false none 0 0 ra none 0 0) 0 →
 ∃ ch d0 cd bs ba bb d2 cw c2 cy, RowAt ei (ad b) 0 (DR ch d0 cd bs ba bb d2 cw c2 cy) ∧
 R (.tuple #[.agg (DR ch d0 cd bs ba bb d2 cw c2 cy).toArray, .int .i64 bu]) ei))
 else
 if j = 4 then (
 ∃ dm : Option Addr, hat dq rA = some (.pointer dm) ∧
 syms_Name.C dm wv dq (fun ev eo => ∃ (bj : ByteArray) (bm : Int), ev = .tuple #[.string bj, .int .i64 bm] ∧ 
 (CanPuts eo (ad b) 0 6) ∧ ∀ eb, eb = hputs eo (ad b) (DR 6 0 false none 0 0 bj none 0 0) 0 →
 ∃ ci d8 b1 bq a9 a6 d4 cv c6 dg, RowAt eb (ad b) 0 (DR ci d8 b1 bq a9 a6 d4 cv c6 dg) ∧
 R (.tuple #[.agg (DR ci d8 b1 bq a9 a6 d4 cv c6 dg).toArray, .int .i64 bm]) eb))
 else
 if j = 1 then (
 build_reader_vector.C (some rA) wv deep dq (fun ew es => ∃ (k aw : Int) (m : Bool) (f : Option Addr) (d e : Nat) (a0 : ByteArray) (ae : Option Addr) (aj ai : Nat) (bz : Int), ew = .tuple #[.agg (DR k aw m f d e a0 ae aj ai).toArray, .int .i64 bz] ∧ 
 (CanPuts es (ad b) 0 6) ∧ ∀ ef, ef = hputs es (ad b) (DR k aw m f d e a0 ae aj ai) 0 →
 ∃ cj d3 b9 bg bl bc d9 cx di df, RowAt ef (ad b) 0 (DR cj d3 b9 bg bl bc d9 cx di df) ∧
 R (.tuple #[.agg (DR cj d3 b9 bg bl bc d9 cx di df).toArray, .int .i64 bz]) ef))
 else
 word_Tag.C wv dq (fun ez du => ∃ cs : Int, ez = .int .i64 cs ∧ 
 if cs = 1 then (
 ∃ dr : Option Addr, hat du rA = some (.pointer dr) ∧
 obj_Heap_Pair.C dr wv du (fun eu eg => ∃ ck : Bool, eu = .bool ck ∧ 
 if ck = true then (
 build_reader_pairs.C (some rA) wv deep eg (fun et er => ∃ (o a1 : Int) (p : Bool) (g : Option Addr) (a i : Nat) (ax : ByteArray) (ag : Option Addr) (al ah : Nat) (b0 : Int), et = .tuple #[.agg (DR o a1 p g a i ax ag al ah).toArray, .int .i64 b0] ∧ 
 (CanPuts er (ad b) 0 6) ∧ ∀ eh, eh = hputs er (ad b) (DR o a1 p g a i ax ag al ah) 0 →
 ∃ b5 d6 cg bk bf bn dz c5 dk db, RowAt eh (ad b) 0 (DR b5 d6 cg bk bf bn dz c5 dk db) ∧
 R (.tuple #[.agg (DR b5 d6 cg bk bf bn dz c5 dk db).toArray, .int .i64 b0]) eh))
 else
 (CanPuts eg (ad b) 0 6) ∧ ∀ ek, ek = hputs eg (ad b) (DR 0 0 false none 0 0 (ByteArray.mk #[]) none 0 0) 0 →
 ∃ cf dv b3 bi bo bt ea c8 c0 cu, RowAt ek (ad b) 0 (DR cf dv b3 bi bo bt ea c8 c0 cu) ∧
 R (.tuple #[.agg (DR cf dv b3 bi bo bt ea c8 c0 cu).toArray, .int .i64 3]) ek))
 else
 (CanPuts du (ad b) 0 6) ∧ ∀ ee, ee = hputs du (ad b) (DR 0 0 false none 0 0 (ByteArray.mk #[]) none 0 0) 0 →
 ∃ b6 d1 b7 br bd be dw dc dl de, RowAt ee (ad b) 0 (DR b6 d1 b7 br bd be dw dc dl de) ∧
 R (.tuple #[.agg (DR b6 d1 b7 br bd be dw dc dl de).toArray, .int .i64 3]) ee)))))
 else
 (CanPuts H2 (ad b) 0 6) ∧ ∀ ej, ej = hputs H2 (ad b) (DR 0 0 false none 0 0 (ByteArray.mk #[]) none 0 0) 0 →
 ∃ ce dy b2 bx a2 a4 d7 cz dj dd, RowAt ej (ad b) 0 (DR ce dy b2 bx a2 a4 d7 cz dj dd) ∧
 R (.tuple #[.agg (DR ce dy b2 bx a2 a4 d7 cz dj dd).toArray, .int .i64 x]) ej)
namespace build_reader_datum
theorem link {r : Option Addr} {wv : Int} {deep : Int} {H : Array Obj} {R : Value → Array Obj → Prop} (h : pt r wv deep H R) : C r wv deep H R := by
 refine T_en K0 104 Tryz.func34 ?_
 intro w0 Q hQ
 unfold pt at h
 refine T_su [(0, vp r), (1, vu wv), (2, vi deep)] ?_
 refine T_srz 0 ?_
 refine T_nw (some 6) (fun b => vp (pa b)) (.cells (DR 0 0 false none 0 0 (ByteArray.mk #[]) none 0 0).toArray 27) ?_
 intro b H1 e1 e2
 replace h := h b H1 e1 e2
 refine T_pd [] [(6, vp (pa b))] ?_
 refine T_ed 1 [] [] ?_
 refine T_sz ?_
 refine T_srz 1 ?_
 refine T_nd 1 [] [(17, vp r)] ?_
 refine T_c (some 18) h ?_; clear h
 rintro v H2 ⟨x, rfl, h⟩
 refine T_pd [17] [(18, vi x)] ?_
 refine T_ed 1 [18] [(8, vi x)] ?_
 refine T_srz 2 ?_
 refine T_ed 2 [] [(20, .bool (x != 0))] ?_
 by_cases c3 : x = 0
 ·rw [if_pos c3] at h
  refine T_cFz 20 (bne_eq_false_iff_eq.mpr c3) ?_
  refine T_kt ?_
  refine T_sz ?_
  refine T_srz 4 ?_
  refine T_nd 1 [8, 20] [(24, vu wv)] ?_
  refine T_c (some 25) h ?_; clear h
  rintro e0 H3 ⟨y, cp, u, q, s, t, cm, a5, a3, bw, rb, rfl, h⟩
  refine T_pd [24] [(25, .tuple #[.agg (DR y cp u q s t cm a5 a3 bw).toArray, .bool rb])] ?_
  refine T_nd 3 [25] [(26, .agg (DR y cp u q s t cm a5 a3 bw).toArray), (27, .bool rb)] ?_
  refine T_nw (some 9) (fun b => vp (pa b)) (.cells (DR 0 0 false none 0 0 (ByteArray.mk #[]) none 0 0).toArray 27) ?_
  intro an H4 e5 e6
  replace h := h an H4 e5 e6
  refine T_pd [] [(9, vp (pa an))] ?_
  obtain ⟨q8, h⟩ := h
  refine T_sta 27 (DR y cp u q s t cm a5 a3 bw) q8 ?_
  intro H5 e7
  replace h := h H5 e7
  refine T_pd [26] [] ?_
  refine T_ed 1 [27] [(10, .bool rb)] ?_
  refine T_srz 5 ?_
  refine T_ed 1 [10] [(28, .bool rb)] ?_
  by_cases c9 : rb = true
  ·rw [if_pos c9] at h
   refine T_cTz 28 c9 ?_
   refine T_srz 6 ?_
   refine T_ud [0, 1, 2, 28] [] ?_
   obtain ⟨ay, xC, az, af, ac, ak, xT, cr, cq, ct, q11, h⟩ := h
   refine T_lr 29 27 q11 [9] ?_
   obtain ⟨q13, h⟩ := h
   refine T_sta 27 (DR ay xC az af ac ak xT cr cq ct) q13 ?_
   intro H6 e12
   replace h := h H6 e12
   refine T_pd [29] [] ?_
   refine T_ed 1 [] [(7, vi 0)] ?_
   refine S_ret (by kernel_rfl) ?_
   show At _ _ _ _ _ (Q .ret)
   obtain ⟨c7, rC, dh, co, cn, cl, rT, en, ep, el, q14, h⟩ := h
   exact S_done (fn := Tryz.f34) [.agg (DR c7 rC dh co cn cl rT en ep el).toArray, vi 0] hQ (show ResOK _ _ _ [.cell 6 27, .tmp 7] _ from .cell (by kernel_rfl) (loadOK_row (fun _=>by kernel_rfl) (fun _=>by kernel_rfl) q14) (.tmp (by kernel_rfl) (.nil))) h
  rw [if_neg c9] at h
  refine T_cFz 28 (eq_false_of_ne_true c9) ?_
  refine T_kt ?_
  refine T_sz ?_
  refine T_srz 7 ?_
  refine T_nd 1 [9, 28] [(31, vp r)] ?_
  obtain ⟨rA, rfl, h⟩ := h
  refine T_nd 2 [0, 31] [(0, vp (some rA)), (33, vp (some rA))] ?_
  obtain ⟨dp, q15, h⟩ := h
  refine T_l1 34 30 q15 [33] ?_
  refine T_nd 1 [] [(35, vu wv)] ?_
  refine T_c (some 36) h ?_; clear h
  rintro ey H7 ⟨av, ab, z, aa, am, rfl, h⟩
  refine T_pd [34, 35] [(36, .tuple #[.agg #[.bool av, vs ab z aa], vi am])] ?_
  refine T_nd 3 [36] [(37, .agg #[.bool av, vs ab z aa]), (38, vi am)] ?_
  refine T_nw (some 11) (fun b => vp (pa b)) (.cells #[.bool false, vs none 0 0] 24) ?_
  intro ao H8 e16 e17
  replace h := h ao H8 e16 e17
  refine T_pd [] [(11, vp (pa ao))] ?_
  obtain ⟨q19, h⟩ := h
  refine T_sta 24 [.bool av, vs ab z aa] q19 ?_
  intro H9 e18
  replace h := h H9 e18
  refine T_pd [37] [] ?_
  refine T_ed 1 [38] [(12, vi am)] ?_
  refine T_srz 8 ?_
  refine T_ed 2 [12] [(40, .bool (am == 0))] ?_
  by_cases c20 : am = 0
  ·rw [if_pos c20] at h
   refine T_cTz 40 (beq_iff_eq.mpr c20) ?_
   refine T_srz 9 ?_
   refine T_ud [0, 1, 2, 40] [] ?_
   obtain ⟨bh, au, aq, ap, q22, h⟩ := h
   refine T_lr 41 24 q22 [11] ?_
   refine T_nd 1 [41] [(42, .agg (DR 4 0 bh au aq ap (ByteArray.mk #[]) none 0 0).toArray)] ?_
   obtain ⟨q24, h⟩ := h
   refine T_sta 27 (DR 4 0 bh au aq ap (ByteArray.mk #[]) none 0 0) q24 ?_
   intro ec e23
   replace h := h ec e23
   refine T_pd [42] [] ?_
   refine T_ed 1 [] [(7, vi 0)] ?_
   refine S_ret (by kernel_rfl) ?_
   show At _ _ _ _ _ (Q .ret)
   obtain ⟨cc, d5, b8, a8, bp, a7, dx, da, c1, c4, q25, h⟩ := h
   exact S_done (fn := Tryz.f34) [.agg (DR cc d5 b8 a8 bp a7 dx da c1 c4).toArray, vi 0] hQ (show ResOK _ _ _ [.cell 6 27, .tmp 7] _ from .cell (by kernel_rfl) (loadOK_row (fun _=>by kernel_rfl) (fun _=>by kernel_rfl) q25) (.tmp (by kernel_rfl) (.nil))) h
  rw [if_neg c20] at h
  refine T_cFz 40 (beq_eq_false_iff_ne.mpr c20) ?_
  refine T_kt ?_
  refine T_sz ?_
  refine T_srz 10 ?_
  refine T_nd 3 [11, 40] [(45, vp (some rA))] ?_
  obtain ⟨dt, q26, h⟩ := h
  refine T_l1 46 30 q26 [45] ?_
  refine T_nd 1 [] [(47, vu wv)] ?_
  refine T_c (some 48) h ?_; clear h
  rintro ex dq ⟨j, rfl, h⟩
  refine T_pd [46, 47] [(48, vi j)] ?_
  refine T_e ?_
  refine T_bz 0 ?_
  refine T_srz 11 ?_
  refine T_ed 2 [] [(49, .bool (j == 2))] ?_
  by_cases c27 : j = 2
  ·rw [if_pos c27] at h
   refine T_cTz 49 (beq_iff_eq.mpr c27) ?_
   refine T_srz 12 ?_
   refine T_nd 3 [0, 2, 48, 49] [(54, vp (some rA))] ?_
   obtain ⟨dn, q29, h⟩ := h
   refine T_l1 55 30 q29 [54] ?_
   refine T_nd 1 [1] [(56, vu wv)] ?_
   refine T_c (some 57) h ?_; clear h
   rintro e3 em ⟨ra, bu, rfl, h⟩
   refine T_pd [55, 56] [(57, .tuple #[.string ra, vi bu])] ?_
   refine T_ed 5 [57] [(13, .string ra), (14, vi bu)] ?_
   refine T_srz 13 ?_
   refine T_nd 3 [13, 14] [(61, .agg (DR 5 0 false none 0 0 ra none 0 0).toArray), (62, vi bu)] ?_
   obtain ⟨q31, h⟩ := h
   refine T_sta 27 (DR 5 0 false none 0 0 ra none 0 0) q31 ?_
   intro ei e30
   replace h := h ei e30
   refine T_pd [61] [] ?_
   refine T_ed 1 [62] [(7, vi bu)] ?_
   refine S_ret (by kernel_rfl) ?_
   show At _ _ _ _ _ (Q .ret)
   obtain ⟨ch, d0, cd, bs, ba, bb, d2, cw, c2, cy, q32, h⟩ := h
   exact S_done (fn := Tryz.f34) [.agg (DR ch d0 cd bs ba bb d2 cw c2 cy).toArray, vi bu] hQ (show ResOK _ _ _ [.cell 6 27, .tmp 7] _ from .cell (by kernel_rfl) (loadOK_row (fun _=>by kernel_rfl) (fun _=>by kernel_rfl) q32) (.tmp (by kernel_rfl) (.nil))) h
  rw [if_neg c27] at h
  refine T_cFz 49 (beq_eq_false_iff_ne.mpr c27) ?_
  refine T_srz 14 ?_
  refine T_ed 2 [49] [(63, .bool (j == 4))] ?_
  by_cases c33 : j = 4
  ·rw [if_pos c33] at h
   refine T_cTz 63 (beq_iff_eq.mpr c33) ?_
   refine T_srz 15 ?_
   refine T_nd 3 [0, 2, 48, 63] [(68, vp (some rA))] ?_
   obtain ⟨dm, q35, h⟩ := h
   refine T_l1 69 30 q35 [68] ?_
   refine T_nd 1 [1] [(70, vu wv)] ?_
   refine T_c (some 71) h ?_; clear h
   rintro ev eo ⟨bj, bm, rfl, h⟩
   refine T_pd [69, 70] [(71, .tuple #[.string bj, vi bm])] ?_
   refine T_ed 5 [71] [(15, .string bj), (16, vi bm)] ?_
   refine T_srz 16 ?_
   refine T_nd 3 [15, 16] [(75, .agg (DR 6 0 false none 0 0 bj none 0 0).toArray), (76, vi bm)] ?_
   obtain ⟨q37, h⟩ := h
   refine T_sta 27 (DR 6 0 false none 0 0 bj none 0 0) q37 ?_
   intro eb e36
   replace h := h eb e36
   refine T_pd [75] [] ?_
   refine T_ed 1 [76] [(7, vi bm)] ?_
   refine S_ret (by kernel_rfl) ?_
   show At _ _ _ _ _ (Q .ret)
   obtain ⟨ci, d8, b1, bq, a9, a6, d4, cv, c6, dg, q38, h⟩ := h
   exact S_done (fn := Tryz.f34) [.agg (DR ci d8 b1 bq a9 a6 d4 cv c6 dg).toArray, vi bm] hQ (show ResOK _ _ _ [.cell 6 27, .tmp 7] _ from .cell (by kernel_rfl) (loadOK_row (fun _=>by kernel_rfl) (fun _=>by kernel_rfl) q38) (.tmp (by kernel_rfl) (.nil))) h
  rw [if_neg c33] at h
  refine T_cFz 63 (beq_eq_false_iff_ne.mpr c33) ?_
  refine T_srz 17 ?_
  refine T_ed 2 [48, 63] [(77, .bool (j == 1))] ?_
  by_cases c39 : j = 1
  ·rw [if_pos c39] at h
   refine T_cTz 77 (beq_iff_eq.mpr c39) ?_
   refine T_srz 18 ?_
   refine T_n 3 [(6, vp (pa b)), (79, vp (some rA)), (80, vu wv), (81, vi deep)] ?_
   refine T_c (some 82) h ?_; clear h
   rintro ew es ⟨k, aw, m, f, d, e, a0, ae, aj, ai, bz, rfl, h⟩
   refine T_pd [79, 80, 81] [(82, .tuple #[.agg (DR k aw m f d e a0 ae aj ai).toArray, vi bz])] ?_
   refine T_nd 2 [82] [(83, .agg (DR k aw m f d e a0 ae aj ai).toArray), (84, vi bz)] ?_
   obtain ⟨q42, h⟩ := h
   refine T_sta 27 (DR k aw m f d e a0 ae aj ai) q42 ?_
   intro ef e41
   replace h := h ef e41
   refine T_pd [83] [] ?_
   refine T_ed 1 [84] [(7, vi bz)] ?_
   refine S_ret (by kernel_rfl) ?_
   show At _ _ _ _ _ (Q .ret)
   obtain ⟨cj, d3, b9, bg, bl, bc, d9, cx, di, df, q43, h⟩ := h
   exact S_done (fn := Tryz.f34) [.agg (DR cj d3 b9 bg bl bc d9 cx di df).toArray, vi bz] hQ (show ResOK _ _ _ [.cell 6 27, .tmp 7] _ from .cell (by kernel_rfl) (loadOK_row (fun _=>by kernel_rfl) (fun _=>by kernel_rfl) q43) (.tmp (by kernel_rfl) (.nil))) h
  rw [if_neg c39] at h
  refine T_cFz 77 (beq_eq_false_iff_ne.mpr c39) ?_
  refine T_k ?_
  refine S_blockEnd ?_
  refine S_then ?_
  refine T_sz ?_
  refine T_srz 19 ?_
  refine T_nd 1 [77] [(85, vu wv)] ?_
  refine T_c (some 86) h ?_; clear h
  rintro ez du ⟨cs, rfl, h⟩
  refine T_pd [85] [(86, vi cs)] ?_
  refine T_nd 2 [86] [(88, .bool (cs != 1))] ?_
  by_cases c44 : cs = 1
  ·rw [if_pos c44] at h
   refine N_bd 88 (bne_eq_false_iff_eq.mpr c44) ?_
   refine T_nd 3 [] [(91, vp (some rA))] ?_
   obtain ⟨dr, q46, h⟩ := h
   refine T_l1 92 30 q46 [91] ?_
   refine T_nd 1 [] [(93, vu wv)] ?_
   refine T_c (some 94) h ?_; clear h
   rintro eu eg ⟨ck, rfl, h⟩
   refine T_pd [92, 93] [(94, .bool ck)] ?_
   refine T_ed 2 [88, 94] [(96, .bool (!ck))] ?_
   by_cases c47 : ck = true
   ·rw [if_pos c47] at h
    refine T_cFz 96 (congrArg Bool.not (c47)) ?_
    refine T_kt ?_
    refine T_srz 21 ?_
    refine T_n 3 [(6, vp (pa b)), (98, vp (some rA)), (99, vu wv), (100, vi deep)] ?_
    refine T_c (some 101) h ?_; clear h
    rintro et er ⟨o, a1, p, g, a, i, ax, ag, al, ah, b0, rfl, h⟩
    refine ⟨[(6, vp (pa b)), (101, .tuple #[.agg (DR o a1 p g a i ax ag al ah).toArray, vi b0])], pk, ?_⟩
    refine T_nd 2 [101] [(102, .agg (DR o a1 p g a i ax ag al ah).toArray), (103, vi b0)] ?_
    obtain ⟨q50, h⟩ := h
    refine T_sta 27 (DR o a1 p g a i ax ag al ah) q50 ?_
    intro eh e49
    replace h := h eh e49
    refine T_pd [102] [] ?_
    refine T_ed 1 [103] [(7, vi b0)] ?_
    refine S_ret (by kernel_rfl) ?_
    show At _ _ _ _ _ (Q .ret)
    obtain ⟨b5, d6, cg, bk, bf, bn, dz, c5, dk, db, q51, h⟩ := h
    exact S_done (fn := Tryz.f34) [.agg (DR b5 d6 cg bk bf bn dz c5 dk db).toArray, vi b0] hQ (show ResOK _ _ _ [.cell 6 27, .tmp 7] _ from .cell (by kernel_rfl) (loadOK_row (fun _=>by kernel_rfl) (fun _=>by kernel_rfl) q51) (.tmp (by kernel_rfl) (.nil))) h
   rw [if_neg c47] at h
   refine T_cTz 96 (congrArg Bool.not (eq_false_of_ne_true c47)) ?_
   refine T_srz 20 ?_
   refine T_n 1 [(6, vp (pa b)), (97, .agg (DR 0 0 false none 0 0 (ByteArray.mk #[]) none 0 0).toArray)] ?_
   obtain ⟨q53, h⟩ := h
   refine T_sta 27 (DR 0 0 false none 0 0 (ByteArray.mk #[]) none 0 0) q53 ?_
   intro ek e52
   replace h := h ek e52
   refine T_pd [97] [] ?_
   refine T_ed 1 [] [(7, vi 3)] ?_
   refine S_ret (by kernel_rfl) ?_
   show At _ _ _ _ _ (Q .ret)
   obtain ⟨cf, dv, b3, bi, bo, bt, ea, c8, c0, cu, q54, h⟩ := h
   exact S_done (fn := Tryz.f34) [.agg (DR cf dv b3 bi bo bt ea c8 c0 cu).toArray, vi 3] hQ (show ResOK _ _ _ [.cell 6 27, .tmp 7] _ from .cell (by kernel_rfl) (loadOK_row (fun _=>by kernel_rfl) (fun _=>by kernel_rfl) q54) (.tmp (by kernel_rfl) (.nil))) h
  rw [if_neg c44] at h
  refine N_bd 88 (bne_iff_ne.mpr c44) ?_
  refine T_ed 8 [88] [(96, .bool true)] ?_
  refine T_tz 96 ?_
  refine T_srz 20 ?_
  refine T_n 1 [(6, vp (pa b)), (97, .agg (DR 0 0 false none 0 0 (ByteArray.mk #[]) none 0 0).toArray)] ?_
  obtain ⟨q56, h⟩ := h
  refine T_sta 27 (DR 0 0 false none 0 0 (ByteArray.mk #[]) none 0 0) q56 ?_
  intro ee e55
  replace h := h ee e55
  refine T_pd [97] [] ?_
  refine T_ed 1 [] [(7, vi 3)] ?_
  refine S_ret (by kernel_rfl) ?_
  show At _ _ _ _ _ (Q .ret)
  obtain ⟨b6, d1, b7, br, bd, be, dw, dc, dl, de, q57, h⟩ := h
  exact S_done (fn := Tryz.f34) [.agg (DR b6 d1 b7 br bd be dw dc dl de).toArray, vi 3] hQ (show ResOK _ _ _ [.cell 6 27, .tmp 7] _ from .cell (by kernel_rfl) (loadOK_row (fun _=>by kernel_rfl) (fun _=>by kernel_rfl) q57) (.tmp (by kernel_rfl) (.nil))) h
 rw [if_neg c3] at h
 refine T_cTz 20 (bne_iff_ne.mpr c3) ?_
 refine T_srz 3 ?_
 refine T_n 2 [(6, vp (pa b)), (21, .agg (DR 0 0 false none 0 0 (ByteArray.mk #[]) none 0 0).toArray), (22, vi x)] ?_
 obtain ⟨q59, h⟩ := h
 refine T_sta 27 (DR 0 0 false none 0 0 (ByteArray.mk #[]) none 0 0) q59 ?_
 intro ej e58
 replace h := h ej e58
 refine T_pd [21] [] ?_
 refine T_ed 1 [22] [(7, vi x)] ?_
 refine S_ret (by kernel_rfl) ?_
 show At _ _ _ _ _ (Q .ret)
 obtain ⟨ce, dy, b2, bx, a2, a4, d7, cz, dj, dd, q60, h⟩ := h
 exact S_done (fn := Tryz.f34) [.agg (DR ce dy b2 bx a2 a4 d7 cz dj dd).toArray, vi x] hQ (show ResOK _ _ _ [.cell 6 27, .tmp 7] _ from .cell (by kernel_rfl) (loadOK_row (fun _=>by kernel_rfl) (fun _=>by kernel_rfl) q60) (.tmp (by kernel_rfl) (.nil))) h
end build_reader_datum

/-! (*moraine/build.reader).one -/
namespace build_reader_one
def K0 := Func.code Tryz.f63
end build_reader_one
def build_reader_one.pt (r : Option Addr) (H : Array Obj) (R : Value → Array Obj → Prop) : Prop :=
 ∃ rA : Addr, r = some rA ∧
 ∃ x : Int, hat H (rA.add 1) = some (.int .i64 x) ∧
 (CanPuts H (rA.add 1) 0 1) ∧ ∀ H1, H1 = hputs H (rA.add 1) [.int .i64 (IntKind.wrap .i64 (x + 1))] 0 →
 ∃ a : Int, hat H1 (rA.add 1) = some (.int .i64 a) ∧
 if a > 4096 then (
 R (.int .i64 6) H1)
 else
 R (.int .i64 0) H1
namespace build_reader_one
theorem link {r : Option Addr} {H : Array Obj} {R : Value → Array Obj → Prop} (h : pt r H R) : C r H R := by
 refine T_en K0 15 Tryz.func63 ?_
 intro w0 Q hQ
 unfold pt at h
 refine T_su [(0, vp r)] ?_
 refine T_srz 0 ?_
 refine T_ed 1 [] [] ?_
 refine T_srz 1 ?_
 refine T_nd 1 [] [(3, vp r)] ?_
 obtain ⟨rA, rfl, h⟩ := h
 refine T_n 2 [(0, vp (some rA)), (3, vp (some rA)), (5, vp (some (rA.add 1)))] ?_
 obtain ⟨x, q1, h⟩ := h
 refine T_l1 6 3 q1 [5] ?_
 refine T_nd 3 [3, 6] [(7, vi (IntKind.wrap .i64 (x + 1))), (9, vp (some (rA.add 1)))] ?_
 obtain ⟨q3, h⟩ := h
 refine T_st1 3 (vi (IntKind.wrap .i64 (x + 1))) q3 ?_
 intro H1 e2
 replace h := h H1 e2
 refine T_pd [7, 9] [] ?_
 refine T_e ?_
 refine T_sz ?_
 refine T_srz 2 ?_
 refine T_n 3 [(12, vp (some (rA.add 1)))] ?_
 obtain ⟨a, q4, h⟩ := h
 refine T_l1 13 3 q4 [12] ?_
 refine T_ne 1 [(14, .bool (decide (a > 4096)))] ?_
 by_cases c5 : a > 4096
 ·rw [if_pos c5] at h
  refine T_cTz 14 (decide_eq_true c5) ?_
  refine T_srz 3 ?_
  exact T_nr 1 [2] [vi 6] hQ h
 rw [if_neg c5] at h
 refine T_cFz 14 (decide_eq_false c5) ?_
 refine T_kt ?_
 refine T_srz 4 ?_
 exact T_nr 1 [2] [vi 0] hQ h
end build_reader_one

end Go.Proofs.YtdgejifkcfgliaaGreatDoor
