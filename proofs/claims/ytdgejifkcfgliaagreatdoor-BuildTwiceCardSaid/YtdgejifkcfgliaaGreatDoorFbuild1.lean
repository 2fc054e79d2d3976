/- Printed: what each function asks, and that it is sound. -/
import Derived.Test.YtdgejifkcfgliaaGreatDoorFnsC
set_option linter.unusedSimpArgs false
set_option linter.unusedVariables false
set_option maxRecDepth 100000
set_option maxHeartbeats 1000000
noncomputable section
namespace Go.Proofs.YtdgejifkcfgliaaGreatDoor
open Go
/-! moraine/build.constant -/
namespace build_constant
def K0 := Func.code Tryz.f64
end build_constant
def build_constant.pt (wv : Int) (H : Array Obj) (R : Value → Array Obj → Prop) : Prop :=
 ∀ (b : Nat) (H1 : Array Obj), b = H.size → H1 = H.push (.cells (DR 0 0 false none 0 0 (ByteArray.mk #[]) none 0 0).toArray 27) →
 ∀ (a : Nat) (H2 : Array Obj), a = H1.size → H2 = H1.push (.cells (DR 0 0 false none 0 0 (ByteArray.mk #[]) none 0 0).toArray 27) →
 (CanPuts H2 (ad a) 0 6) ∧ ∀ H3, H3 = hputs H2 (ad a) (DR 0 0 false none 0 0 (ByteArray.mk #[]) none 0 0) 0 →
 if wv = 12 then (
 (CanPuts H3 (ad a) 0 1) ∧ ∀ H4, H4 = hputs H3 (ad a) [.int .i64 1] 0 →
 ∃ a2 xC a6 ao an ap xT cs cr ct, RowAt H4 (ad a) 0 (DR a2 xC a6 ao an ap xT cs cr ct) ∧
 (CanPuts H4 (ad b) 0 6) ∧ ∀ H5, H5 = hputs H4 (ad b) (DR a2 xC a6 ao an ap xT cs cr ct) 0 →
 ∃ c6 rC dd cq cp co rT d2 d3 d1, RowAt H5 (ad b) 0 (DR c6 rC dd cq cp co rT d2 d3 d1) ∧
 R (.tuple #[.agg (DR c6 rC dd cq cp co rT d2 d3 d1).toArray, .bool true]) H5)
 else
 if wv = 4 then (
 (CanPuts H3 (ad a) 0 1) ∧ ∀ H6, H6 = hputs H3 (ad a) [.int .i64 2] 0 →
 ∃ al b2 ab m x i bw bb ba a5, RowAt H6 (ad a) 0 (DR al b2 ab m x i bw bb ba a5) ∧
 (CanPuts H6 (ad b) 0 6) ∧ ∀ H7, H7 = hputs H6 (ad b) (DR al b2 ab m x i bw bb ba a5) 0 →
 ∃ ch dr cf bf br be dk c9 c1 c3, RowAt H7 (ad b) 0 (DR ch dr cf bf br be dk c9 c1 c3) ∧
 R (.tuple #[.agg (DR ch dr cf bf br be dk c9 c1 c3).toArray, .bool true]) H7)
 else
 if wv = 36 then (
 (CanPuts H3 (ad a) 0 1) ∧ ∀ H8, H8 = hputs H3 (ad a) [.int .i64 9] 0 →
 ∃ ai bz ah k g f b4 a0 az a1, RowAt H8 (ad a) 0 (DR ai bz ah k g f b4 a0 az a1) ∧
 (CanPuts H8 (ad b) 0 6) ∧ ∀ H9, H9 = hputs H8 (ad b) (DR ai bz ah k g f b4 a0 az a1) 0 →
 ∃ cl dm ci bt bh bi dn cx c2 cz, RowAt H9 (ad b) 0 (DR cl dm ci bt bh bi dn cx c2 cz) ∧
 R (.tuple #[.agg (DR cl dm ci bt bh bi dn cx c2 cz).toArray, .bool true]) H9)
 else
 if wv = 28 then (
 (CanPuts H3 (ad a) 0 1) ∧ ∀ dh, dh = hputs H3 (ad a) [.int .i64 10] 0 →
 ∃ ac b0 ag q y o bx a4 a9 av, RowAt dh (ad a) 0 (DR ac b0 ag q y o bx a4 a9 av) ∧
 (CanPuts dh (ad b) 0 6) ∧ ∀ dx, dx = hputs dh (ad b) (DR ac b0 ag q y o bx a4 a9 av) 0 →
 ∃ cm du cc bs bg bd dq cw c5 dc, RowAt dx (ad b) 0 (DR cm du cc bs bg bd dq cw c5 dc) ∧
 R (.tuple #[.agg (DR cm du cc bs bg bd dq cw c5 dc).toArray, .bool true]) dx)
 else
 if wv = 20 then (
 ∃ aa b1 aj s e j b6 a8 aw ax, RowAt H3 (ad a) 0 (DR aa b1 aj s e j b6 a8 aw ax) ∧
 (CanPuts H3 (ad b) 0 6) ∧ ∀ dy, dy = hputs H3 (ad b) (DR aa b1 aj s e j b6 a8 aw ax) 0 →
 ∃ cn dp cg bl bo bj dv cy de db, RowAt dy (ad b) 0 (DR cn dp cg bl bo bj dv cy de db) ∧
 R (.tuple #[.agg (DR cn dp cg bl bo bj dv cy de db).toArray, .bool true]) dy)
 else
 word_Rune.C wv H3 (fun v cu => ∃ (ra : Int) (rb : Bool), v = .tuple #[.int .i32 ra, .bool rb] ∧ 
 if rb = true then (
 (CanPuts cu (ad a) 0 1) ∧ ∀ di, di = hputs cu (ad a) [.int .i64 3] 0 →
 (CanPuts di ((ad a).add 1) 0 1) ∧ ∀ dg, dg = hputs di ((ad a).add 1) [.int .i32 ra] 0 →
 ∃ ak b9 ae p r t b3 bc a7 au, RowAt dg (ad a) 0 (DR ak b9 ae p r t b3 bc a7 au) ∧
 (CanPuts dg (ad b) 0 6) ∧ ∀ d0, d0 = hputs dg (ad b) (DR ak b9 ae p r t b3 bc a7 au) 0 →
 ∃ ce dt ck bn bk bp dl c4 df da, RowAt d0 (ad b) 0 (DR ce dt ck bn bk bp dl c4 df da) ∧
 R (.tuple #[.agg (DR ce dt ck bn bk bp dl c4 df da).toArray, .bool true]) d0)
 else
 ∃ af b7 am z d u b5 ay aq a3, RowAt cu (ad a) 0 (DR af b7 am z d u b5 ay aq a3) ∧
 (CanPuts cu (ad b) 0 6) ∧ ∀ dz, dz = hputs cu (ad b) (DR af b7 am z d u b5 ay aq a3) 0 →
 ∃ cj dj cd bm bq bu dw c8 c0 cv, RowAt dz (ad b) 0 (DR cj dj cd bm bq bu dw c8 c0 cv) ∧
 R (.tuple #[.agg (DR cj dj cd bm bq bu dw c8 c0 cv).toArray, .bool false]) dz)
namespace build_constant
theorem link {wv : Int} {H : Array Obj} {R : Value → Array Obj → Prop} (h : pt wv H R) : C wv H R := by
 refine T_en K0 35 Tryz.func64 ?_
 intro w0 Q hQ
 unfold pt at h
 refine T_su [(0, vu wv)] ?_
 refine T_srz 0 ?_
 refine T_nw (some 2) (fun b => vp (pa b)) (.cells (DR 0 0 false none 0 0 (ByteArray.mk #[]) none 0 0).toArray 27) ?_
 intro b H1 e1 e2
 replace h := h b H1 e1 e2
 refine T_pd [] [(2, vp (pa b))] ?_
 refine T_ed 1 [] [] ?_
 refine T_srz 1 ?_
 refine T_nd 1 [] [(7, .agg (DR 0 0 false none 0 0 (ByteArray.mk #[]) none 0 0).toArray)] ?_
 refine T_nw (some 4) (fun b => vp (pa b)) (.cells (DR 0 0 false none 0 0 (ByteArray.mk #[]) none 0 0).toArray 27) ?_
 intro a H2 e3 e4
 replace h := h a H2 e3 e4
 refine T_pd [] [(4, vp (pa a))] ?_
 obtain ⟨q6, h⟩ := h
 refine T_sta 27 (DR 0 0 false none 0 0 (ByteArray.mk #[]) none 0 0) q6 ?_
 intro H3 e5
 replace h := h H3 e5
 refine T_pd [7] [] ?_
 refine T_e ?_
 refine T_sz ?_
 refine T_srz 2 ?_
 refine T_ed 1 [] [(8, vu wv)] ?_
 refine T_bz 0 ?_
 refine T_srz 7 ?_
 refine T_ed 2 [] [(20, .bool (wv == 12))] ?_
 by_cases c7 : wv = 12
 ·rw [if_pos c7] at h
  refine T_cTz 20 (beq_iff_eq.mpr c7) ?_
  refine T_rz 8 ?_
  refine T_nd 1 [0, 8, 20] [(22, vp (pa a))] ?_
  obtain ⟨q10, h⟩ := h
  refine T_st1 3 (vi 1) q10 ?_
  intro H4 e9
  replace h := h H4 e9
  refine T_pd [22] [] ?_
  refine N_end (by kernel_rfl) ?_
  refine S_blockEnd ?_
  refine S_then ?_
  refine T_srz 16 ?_
  obtain ⟨a2, xC, a6, ao, an, ap, xT, cs, cr, ct, q11, h⟩ := h
  refine T_lr 34 27 q11 [4] ?_
  obtain ⟨q13, h⟩ := h
  refine T_sta 27 (DR a2 xC a6 ao an ap xT cs cr ct) q13 ?_
  intro H5 e12
  replace h := h H5 e12
  refine T_pd [34] [] ?_
  refine T_ed 1 [] [(3, .bool true)] ?_
  refine S_ret (by kernel_rfl) ?_
  show At _ _ _ _ _ (Q .ret)
  obtain ⟨c6, rC, dd, cq, cp, co, rT, d2, d3, d1, q14, h⟩ := h
  exact S_done (fn := Tryz.f64) [.agg (DR c6 rC dd cq cp co rT d2 d3 d1).toArray, .bool true] hQ (show ResOK _ _ _ [.cell 2 27, .tmp 3] _ from .cell (by kernel_rfl) (loadOK_row (fun _=>by kernel_rfl) (fun _=>by kernel_rfl) q14) (.tmp (by kernel_rfl) (.nil))) h
 rw [if_neg c7] at h
 refine T_cFz 20 (beq_eq_false_iff_ne.mpr c7) ?_
 refine T_srz 9 ?_
 refine T_ed 2 [20] [(23, .bool (wv == 4))] ?_
 by_cases c15 : wv = 4
 ·rw [if_pos c15] at h
  refine T_cTz 23 (beq_iff_eq.mpr c15) ?_
  refine T_rz 10 ?_
  refine T_nd 1 [0, 8, 23] [(25, vp (pa a))] ?_
  obtain ⟨q18, h⟩ := h
  refine T_st1 3 (vi 2) q18 ?_
  intro H6 e17
  replace h := h H6 e17
  refine T_pd [25] [] ?_
  refine N_end (by kernel_rfl) ?_
  refine S_blockEnd ?_
  refine S_then ?_
  refine T_srz 16 ?_
  obtain ⟨al, b2, ab, m, x, i, bw, bb, ba, a5, q19, h⟩ := h
  refine T_lr 34 27 q19 [4] ?_
  obtain ⟨q21, h⟩ := h
  refine T_sta 27 (DR al b2 ab m x i bw bb ba a5) q21 ?_
  intro H7 e20
  replace h := h H7 e20
  refine T_pd [34] [] ?_
  refine T_ed 1 [] [(3, .bool true)] ?_
  refine S_ret (by kernel_rfl) ?_
  show At _ _ _ _ _ (Q .ret)
  obtain ⟨ch, dr, cf, bf, br, be, dk, c9, c1, c3, q22, h⟩ := h
  exact S_done (fn := Tryz.f64) [.agg (DR ch dr cf bf br be dk c9 c1 c3).toArray, .bool true] hQ (show ResOK _ _ _ [.cell 2 27, .tmp 3] _ from .cell (by kernel_rfl) (loadOK_row (fun _=>by kernel_rfl) (fun _=>by kernel_rfl) q22) (.tmp (by kernel_rfl) (.nil))) h
 rw [if_neg c15] at h
 refine T_cFz 23 (beq_eq_false_iff_ne.mpr c15) ?_
 refine T_srz 11 ?_
 refine T_ed 2 [23] [(26, .bool (wv == 36))] ?_
 by_cases c23 : wv = 36
 ·rw [if_pos c23] at h
  refine T_cTz 26 (beq_iff_eq.mpr c23) ?_
  refine T_rz 12 ?_
  refine T_nd 1 [0, 8, 26] [(28, vp (pa a))] ?_
  obtain ⟨q26, h⟩ := h
  refine T_st1 3 (vi 9) q26 ?_
  intro H8 e25
  replace h := h H8 e25
  refine T_pd [28] [] ?_
  refine N_end (by kernel_rfl) ?_
  refine S_blockEnd ?_
  refine S_then ?_
  refine T_srz 16 ?_
  obtain ⟨ai, bz, ah, k, g, f, b4, a0, az, a1, q27, h⟩ := h
  refine T_lr 34 27 q27 [4] ?_
  obtain ⟨q29, h⟩ := h
  refine T_sta 27 (DR ai bz ah k g f b4 a0 az a1) q29 ?_
  intro H9 e28
  replace h := h H9 e28
  refine T_pd [34] [] ?_
  refine T_ed 1 [] [(3, .bool true)] ?_
  refine S_ret (by kernel_rfl) ?_
  show At _ _ _ _ _ (Q .ret)
  obtain ⟨cl, dm, ci, bt, bh, bi, dn, cx, c2, cz, q30, h⟩ := h
  exact S_done (fn := Tryz.f64) [.agg (DR cl dm ci bt bh bi dn cx c2 cz).toArray, .bool true] hQ (show ResOK _ _ _ [.cell 2 27, .tmp 3] _ from .cell (by kernel_rfl) (loadOK_row (fun _=>by kernel_rfl) (fun _=>by kernel_rfl) q30) (.tmp (by kernel_rfl) (.nil))) h
 rw [if_neg c23] at h
 refine T_cFz 26 (beq_eq_false_iff_ne.mpr c23) ?_
 refine T_srz 13 ?_
 refine T_ed 2 [26] [(29, .bool (wv == 28))] ?_
 by_cases c31 : wv = 28
 ·rw [if_pos c31] at h
  refine T_cTz 29 (beq_iff_eq.mpr c31) ?_
  refine T_rz 14 ?_
  refine T_nd 1 [0, 8, 29] [(31, vp (pa a))] ?_
  obtain ⟨q34, h⟩ := h
  refine T_st1 3 (vi 10) q34 ?_
  intro dh e33
  replace h := h dh e33
  refine T_pd [31] [] ?_
  refine N_end (by kernel_rfl) ?_
  refine S_blockEnd ?_
  refine S_then ?_
  refine T_srz 16 ?_
  obtain ⟨ac, b0, ag, q, y, o, bx, a4, a9, av, q35, h⟩ := h
  refine T_lr 34 27 q35 [4] ?_
  obtain ⟨q37, h⟩ := h
  refine T_sta 27 (DR ac b0 ag q y o bx a4 a9 av) q37 ?_
  intro dx e36
  replace h := h dx e36
  refine T_pd [34] [] ?_
  refine T_ed 1 [] [(3, .bool true)] ?_
  refine S_ret (by kernel_rfl) ?_
  show At _ _ _ _ _ (Q .ret)
  obtain ⟨cm, du, cc, bs, bg, bd, dq, cw, c5, dc, q38, h⟩ := h
  exact S_done (fn := Tryz.f64) [.agg (DR cm du cc bs bg bd dq cw c5 dc).toArray, .bool true] hQ (show ResOK _ _ _ [.cell 2 27, .tmp 3] _ from .cell (by kernel_rfl) (loadOK_row (fun _=>by kernel_rfl) (fun _=>by kernel_rfl) q38) (.tmp (by kernel_rfl) (.nil))) h
 rw [if_neg c31] at h
 refine T_cFz 29 (beq_eq_false_iff_ne.mpr c31) ?_
 refine T_srz 15 ?_
 refine T_ed 2 [8, 29] [(32, .bool (wv == 20))] ?_
 by_cases c39 : wv = 20
 ·rw [if_pos c39] at h
  refine T_cTz 32 (beq_iff_eq.mpr c39) ?_
  refine T_k ?_
  refine S_blockEnd ?_
  refine S_then ?_
  refine T_srz 16 ?_
  refine T_ud [0, 32] [] ?_
  obtain ⟨aa, b1, aj, s, e, j, b6, a8, aw, ax, q41, h⟩ := h
  refine T_lr 34 27 q41 [4] ?_
  obtain ⟨q43, h⟩ := h
  refine T_sta 27 (DR aa b1 aj s e j b6 a8 aw ax) q43 ?_
  intro dy e42
  replace h := h dy e42
  refine T_pd [34] [] ?_
  refine T_ed 1 [] [(3, .bool true)] ?_
  refine S_ret (by kernel_rfl) ?_
  show At _ _ _ _ _ (Q .ret)
  obtain ⟨cn, dp, cg, bl, bo, bj, dv, cy, de, db, q44, h⟩ := h
  exact S_done (fn := Tryz.f64) [.agg (DR cn dp cg bl bo bj dv cy de db).toArray, .bool true] hQ (show ResOK _ _ _ [.cell 2 27, .tmp 3] _ from .cell (by kernel_rfl) (loadOK_row (fun _=>by kernel_rfl) (fun _=>by kernel_rfl) q44) (.tmp (by kernel_rfl) (.nil))) h
 rw [if_neg c39] at h
 refine T_cFz 32 (beq_eq_false_iff_ne.mpr c39) ?_
 refine T_srz 3 ?_
 refine T_nd 1 [0, 32] [(10, vu wv)] ?_
 refine T_c (some 11) h ?_; clear h
 rintro v cu ⟨ra, rb, rfl, h⟩
 refine T_pd [10] [(11, .tuple #[.int .i32 ra, .bool rb])] ?_
 refine T_ed 5 [11] [(5, .int .i32 ra), (6, .bool rb)] ?_
 refine T_sz ?_
 refine T_srz 4 ?_
 refine T_ed 2 [6] [(15, .bool (!rb))] ?_
 by_cases c45 : rb = true
 ·rw [if_pos c45] at h
  refine T_cFz 15 (congrArg Bool.not (c45)) ?_
  refine T_kt ?_
  refine T_rz 6 ?_
  refine T_nd 2 [5, 15] [(17, .int .i32 ra), (18, vp (pa a))] ?_
  obtain ⟨q48, h⟩ := h
  refine T_st1 3 (vi 3) q48 ?_
  intro di e47
  replace h := h di e47
  refine T_pd [18] [] ?_
  refine T_nd 1 [] [(19, vp (some ((ad a).add 1)))] ?_
  obtain ⟨q50, h⟩ := h
  refine T_st1 21 (.int .i32 ra) q50 ?_
  intro dg e49
  replace h := h dg e49
  refine T_pd [17, 19] [] ?_
  refine N_end (by kernel_rfl) ?_
  refine S_blockEnd ?_
  refine S_then ?_
  refine T_srz 16 ?_
  obtain ⟨ak, b9, ae, p, r, t, b3, bc, a7, au, q51, h⟩ := h
  refine T_lr 34 27 q51 [4] ?_
  obtain ⟨q53, h⟩ := h
  refine T_sta 27 (DR ak b9 ae p r t b3 bc a7 au) q53 ?_
  intro d0 e52
  replace h := h d0 e52
  refine T_pd [34] [] ?_
  refine T_ed 1 [] [(3, .bool true)] ?_
  refine S_ret (by kernel_rfl) ?_
  show At _ _ _ _ _ (Q .ret)
  obtain ⟨ce, dt, ck, bn, bk, bp, dl, c4, df, da, q54, h⟩ := h
  exact S_done (fn := Tryz.f64) [.agg (DR ce dt ck bn bk bp dl c4 df da).toArray, .bool true] hQ (show ResOK _ _ _ [.cell 2 27, .tmp 3] _ from .cell (by kernel_rfl) (loadOK_row (fun _=>by kernel_rfl) (fun _=>by kernel_rfl) q54) (.tmp (by kernel_rfl) (.nil))) h
 rw [if_neg c45] at h
 refine T_cTz 15 (congrArg Bool.not (eq_false_of_ne_true c45)) ?_
 refine T_srz 5 ?_
 refine T_ud [5, 15] [] ?_
 obtain ⟨af, b7, am, z, d, u, b5, ay, aq, a3, q55, h⟩ := h
 refine T_lr 16 27 q55 [4] ?_
 obtain ⟨q57, h⟩ := h
 refine T_sta 27 (DR af b7 am z d u b5 ay aq a3) q57 ?_
 intro dz e56
 replace h := h dz e56
 refine T_pd [16] [] ?_
 refine T_ed 1 [] [(3, .bool false)] ?_
 refine S_ret (by kernel_rfl) ?_
 show At _ _ _ _ _ (Q .ret)
 obtain ⟨cj, dj, cd, bm, bq, bu, dw, c8, c0, cv, q58, h⟩ := h
 exact S_done (fn := Tryz.f64) [.agg (DR cj dj cd bm bq bu dw c8 c0 cv).toArray, .bool false] hQ (show ResOK _ _ _ [.cell 2 27, .tmp 3] _ from .cell (by kernel_rfl) (loadOK_row (fun _=>by kernel_rfl) (fun _=>by kernel_rfl) q58) (.tmp (by kernel_rfl) (.nil))) h
end build_constant

/-! (*moraine/build.reader).vector -/
namespace build_reader_vector
def K0 := Func.code Tryz.f69
def K2 := cb K0
def K4 := cb K2
def K6 := cb K4
def K13 := ca K6
def K16 := cb K13
def K17 := ca K16
def K18 := ca K17
end build_reader_vector
def build_reader_vector.pt (r : Option Addr) (wv : Int) (deep : Int) (H : Array Obj) (R : Value → Array Obj → Prop) : Prop :=
 ∀ (b : Nat) (H1 : Array Obj), b = H.size → H1 = H.push (.cells (DR 0 0 false none 0 0 (ByteArray.mk #[]) none 0 0).toArray 27) →
 ∀ (a : Nat) (H2 : Array Obj), a = H1.size → H2 = H1.push (.cells (DR 0 0 false none 0 0 (ByteArray.mk #[]) none 0 0).toArray 27) →
 (CanPuts H2 (ad a) 0 6) ∧ ∀ H3, H3 = hputs H2 (ad a) (DR 8 0 false none 0 0 (ByteArray.mk #[]) none 0 0) 0 →
 if deep = 64 then (
 ∃ au xC aw ah ag aj xT bs br bt, RowAt H3 (ad a) 0 (DR au xC aw ah ag aj xT bs br bt) ∧
 (CanPuts H3 (ad b) 0 6) ∧ ∀ H4, H4 = hputs H3 (ad b) (DR au xC aw ah ag aj xT bs br bt) 0 →
 ∃ b1 rC b3 bn bm bk rT ck cl ci, RowAt H4 (ad b) 0 (DR b1 rC b3 bn bm bk rT ck cl ci) ∧
 R (.tuple #[.agg (DR b1 rC b3 bn bm bk rT ck cl ci).toArray, .int .i64 10]) H4)
 else
 ∃ rA : Addr, r = some rA ∧
 ∃ x : Option Addr, hat H3 rA = some (.pointer x) ∧
 obj_Heap_Len.C x wv H3 (fun v H5 => ∃ e : Int, v = .int .i64 e ∧ 
 ∃ (cf : Int → Array Obj → Prop) (m19 : Int → Array Obj → Nat), cf 0 H5 ∧ ∀ (d : Int) (H6 : Array Obj), cf d H6 →
 if d < e then (
 ∃ b5 : Option Addr, hat H6 rA = some (.pointer b5) ∧
 obj_Heap_Get.C b5 wv 1 d H6 (fun cn H7 => ∃ ra rb : Int, cn = .tuple #[.int .u64 ra, .int .i64 rb] ∧ 
 build_reader_datum.C (some rA) ra (IntKind.wrap .i64 (deep + 1)) H7 (fun cm H8 => ∃ (ab bo : Int) (aa : Bool) (p : Option Addr) (q s : Nat) (bl : ByteArray) (az : Option Addr) (ay a8 : Nat) (f : Int), cm = .tuple #[.agg (DR ab bo aa p q s bl az ay a8).toArray, .int .i64 f] ∧ 
 ∀ (ai : Nat) (H9 : Array Obj), ai = H8.size → H9 = H8.push (.cells (DR 0 0 false none 0 0 (ByteArray.mk #[]) none 0 0).toArray 27) →
 (CanPuts H9 (ad ai) 0 6) ∧ ∀ ba, ba = hputs H9 (ad ai) (DR ab bo aa p q s bl az ay a8) 0 →
 if f = 0 then (
 ∃ (xB : Option Addr) (xN bc : Nat), hat ba ((ad a).add 5) = some (.slice xB xN bc) ∧
 ∃ ao bq an ae af ac bp bj bi bg, RowAt ba (ad ai) 0 (DR ao bq an ae af ac bp bj bi bg) ∧
 ∀ (b6 : Nat) (H11 : Array Obj), b6 = ba.size → H11 = ba.push (.cells (DR ao bq an ae af ac bp bj bi bg).toArray 27) →
 appendK 6 27 88 (DR 0 0 false none 0 0 (ByteArray.mk #[]) none 0 0) xB xN bc (some (ad b6)) 1 H11 (fun ap b4 cj =>
 (CanPuts cj ((ad a).add 5) 0 1) ∧ ∀ ch, ch = hputs cj ((ad a).add 5) [.slice ap (xN + 1) b4] 0 →
 (cf (IntKind.wrap .i64 (d + 1)) ch ∧ m19 (IntKind.wrap .i64 (d + 1)) ch < m19 d H6)))
 else
 ∃ u a4 t j i g a5 al ak am, RowAt ba (ad a) 0 (DR u a4 t j i g a5 al ak am) ∧
 (CanPuts ba (ad b) 0 6) ∧ ∀ cg, cg = hputs ba (ad b) (DR u a4 t j i g a5 al ak am) 0 →
 ∃ be cd bd a1 a6 a0 b7 b2 bx b0, RowAt cg (ad b) 0 (DR be cd bd a1 a6 a0 b7 b2 bx b0) ∧
 R (.tuple #[.agg (DR be cd bd a1 a6 a0 b7 b2 bx b0).toArray, .int .i64 f]) cg)))
 else
 ∃ y bb z m o k a9 av ax aq, RowAt H6 (ad a) 0 (DR y bb z m o k a9 av ax aq) ∧
 (CanPuts H6 (ad b) 0 6) ∧ ∀ ce, ce = hputs H6 (ad b) (DR y bb z m o k a9 av ax aq) 0 →
 ∃ bh b9 bf a7 a2 a3 cc bu bz bw, RowAt ce (ad b) 0 (DR bh b9 bf a7 a2 a3 cc bu bz bw) ∧
 R (.tuple #[.agg (DR bh b9 bf a7 a2 a3 cc bu bz bw).toArray, .int .i64 0]) ce)
namespace build_reader_vector
theorem link {r : Option Addr} {wv : Int} {deep : Int} {H : Array Obj} {R : Value → Array Obj → Prop} (h : pt r wv deep H R) : C r wv deep H R := by
 refine T_en K0 57 Tryz.func69 ?_
 intro w0 Q hQ
 unfold pt at h
 refine T_su [(0, vp r), (1, vu wv), (2, vi deep)] ?_
 refine T_srz 0 ?_
 refine T_nw (some 6) (fun b => vp (pa b)) (.cells (DR 0 0 false none 0 0 (ByteArray.mk #[]) none 0 0).toArray 27) ?_
 intro b H1 e1 e2
 replace h := h b H1 e1 e2
 refine T_pd [] [(6, vp (pa b))] ?_
 refine T_ed 1 [] [] ?_
 refine T_srz 1 ?_
 refine T_nd 1 [] [(14, .agg (DR 8 0 false none 0 0 (ByteArray.mk #[]) none 0 0).toArray)] ?_
 refine T_nw (some 8) (fun b => vp (pa b)) (.cells (DR 0 0 false none 0 0 (ByteArray.mk #[]) none 0 0).toArray 27) ?_
 intro a H2 e3 e4
 replace h := h a H2 e3 e4
 refine T_pd [] [(8, vp (pa a))] ?_
 obtain ⟨q6, h⟩ := h
 refine T_sta 27 (DR 8 0 false none 0 0 (ByteArray.mk #[]) none 0 0) q6 ?_
 intro H3 e5
 replace h := h H3 e5
 refine T_pd [14] [] ?_
 refine T_e ?_
 refine T_sz ?_
 refine T_srz 2 ?_
 refine T_ed 2 [] [(16, .bool (deep == 64))] ?_
 by_cases c7 : deep = 64
 ·rw [if_pos c7] at h
  refine T_cTz 16 (beq_iff_eq.mpr c7) ?_
  refine T_srz 3 ?_
  refine T_ud [0, 1, 2, 16] [] ?_
  obtain ⟨au, xC, aw, ah, ag, aj, xT, bs, br, bt, q9, h⟩ := h
  refine T_lr 17 27 q9 [8] ?_
  obtain ⟨q11, h⟩ := h
  refine T_sta 27 (DR au xC aw ah ag aj xT bs br bt) q11 ?_
  intro H4 e10
  replace h := h H4 e10
  refine T_pd [17] [] ?_
  refine T_ed 1 [] [(7, vi 10)] ?_
  refine S_ret (by kernel_rfl) ?_
  show At _ _ _ _ _ (Q .ret)
  obtain ⟨b1, rC, b3, bn, bm, bk, rT, ck, cl, ci, q12, h⟩ := h
  exact S_done (fn := Tryz.f69) [.agg (DR b1 rC b3 bn bm bk rT ck cl ci).toArray, vi 10] hQ (show ResOK _ _ _ [.cell 6 27, .tmp 7] _ from .cell (by kernel_rfl) (loadOK_row (fun _=>by kernel_rfl) (fun _=>by kernel_rfl) q12) (.tmp (by kernel_rfl) (.nil))) h
 rw [if_neg c7] at h
 refine T_cFz 16 (beq_eq_false_iff_ne.mpr c7) ?_
 refine T_kt ?_
 refine T_sz ?_
 refine T_srz 4 ?_
 refine T_nd 1 [16] [(18, vp r)] ?_
 obtain ⟨rA, rfl, h⟩ := h
 refine T_nd 2 [0, 18] [(0, vp (some rA)), (20, vp (some rA))] ?_
 obtain ⟨x, q13, h⟩ := h
 refine T_l1 21 30 q13 [20] ?_
 refine T_nd 1 [] [(22, vu wv)] ?_
 refine T_c (some 23) h ?_; clear h
 rintro v H5 ⟨e, rfl, h⟩
 refine T_pd [21, 22] [(23, vi e)] ?_
 refine T_ed 1 [] [(24, vi 0)] ?_
 refine T_bz 0 ?_
 obtain ⟨cf, m19, i14, i15⟩ := h
 refine S_loop (x := K18) (σ := Int) (fun s_ => [(0, vp (some rA)), (1, vu wv), (2, vi deep), (6, vp (pa b)), (8, vp (pa a)), (23, vi e), (24, vi s_)]) (fun s_ H => cf s_ H) (fun s_ H => m19 s_ H) (0 : Int) (by kernel_rfl) i14 sk ?_
 rintro d H6 i16
 have h := i15 d H6 i16
 refine T_su [(0, vp (some rA)), (1, vu wv), (2, vi deep), (6, vp (pa b)), (8, vp (pa a)), (23, vi e), (24, vi d)] ?_
 refine T_srz 5 ?_
 refine T_ed 1 [] [(25, .bool (decide (d < e)))] ?_
 refine T_sz ?_
 by_cases c17 : d < e
 ·rw [if_pos c17] at h
  refine T_cTz 25 (decide_eq_true c17) ?_
  refine T_kt ?_
  refine T_sz ?_
  refine T_bz 1 ?_
  refine T_srz 6 ?_
  refine T_ed 2 [25] [(9, vi d)] ?_
  refine T_srz 7 ?_
  refine T_nd 3 [] [(30, vp (some rA))] ?_
  obtain ⟨b5, q19, h⟩ := h
  refine T_l1 31 30 q19 [30] ?_
  refine T_nd 2 [9] [(32, vu wv), (33, vi d)] ?_
  refine T_c (some 34) h ?_; clear h
  rintro cn H7 ⟨ra, rb, rfl, h⟩
  refine T_pd [31, 32, 33] [(34, .tuple #[vu ra, vi rb])] ?_
  refine T_ed 5 [34] [(10, vu ra)] ?_
  refine T_srz 8 ?_
  refine T_nd 4 [10] [(38, vp (some rA)), (39, vu ra), (41, vi (IntKind.wrap .i64 (deep + 1)))] ?_
  refine T_c (some 42) h ?_; clear h
  rintro cm H8 ⟨ab, bo, aa, p, q, s, bl, az, ay, a8, f, rfl, h⟩
  refine T_pd [38, 39, 41] [(42, .tuple #[.agg (DR ab bo aa p q s bl az ay a8).toArray, vi f])] ?_
  refine T_nd 3 [42] [(43, .agg (DR ab bo aa p q s bl az ay a8).toArray), (44, vi f)] ?_
  refine T_nw (some 12) (fun b => vp (pa b)) (.cells (DR 0 0 false none 0 0 (ByteArray.mk #[]) none 0 0).toArray 27) ?_
  intro ai H9 e20 e21
  replace h := h ai H9 e20 e21
  refine T_pd [] [(12, vp (pa ai))] ?_
  obtain ⟨q23, h⟩ := h
  refine T_sta 27 (DR ab bo aa p q s bl az ay a8) q23 ?_
  intro ba e22
  replace h := h ba e22
  refine T_pd [43] [] ?_
  refine T_ed 1 [44] [(13, vi f)] ?_
  refine T_sz ?_
  refine T_srz 9 ?_
  refine T_ed 2 [] [(46, .bool (f != 0))] ?_
  by_cases c24 : f = 0
  ·rw [if_pos c24] at h
   refine T_cFz 46 (bne_eq_false_iff_eq.mpr c24) ?_
   refine T_kt ?_
   refine T_rz 11 ?_
   refine T_nd 1 [13, 46] [(49, vp (some ((ad a).add 5)))] ?_
   obtain ⟨xB, xN, bc, q26, h⟩ := h
   refine T_l1 50 25 q26 [49] ?_
   obtain ⟨ao, bq, an, ae, af, ac, bp, bj, bi, bg, q27, h⟩ := h
   refine T_lr 51 27 q27 [12] ?_
   refine T_nw (some 52) (fun b => vs (pa b) 1 1) (.cells (DR ao bq an ae af ac bp bj bi bg).toArray 27) ?_
   intro b6 H11 e28 e29
   replace h := h b6 H11 e28 e29
   refine T_pd [51] [(52, vs (pa b6) 1 1)] ?_
   refine N_op (some 53) (appendN #[25, 25] 25 #[vs xB xN bc, vs (pa b6) 1 1]) _ (fun _=>by kernel_rfl) (ss_append (T := 27) (sz := 6) (bytes := 88) (zero := (.agg (DR 0 0 false none 0 0 (ByteArray.mk #[]) none 0 0).toArray : Value)) Tryz.underlying25 Tryz.underlying25 rfl (show Tryz.prog.info? 27 = some Tryz.t27 from by kernel_rfl) (by kernel_rfl) (by kernel_rfl) (by decide) (by kernel_rfl) (by first | exact h | (simpa only [Value.cells, List.toList_toArray] using h))) ?_; clear h
   rintro _ cj ⟨ap, b4, rfl, h⟩
   refine T_pd [50, 52] [(53, vs ap (xN + 1) b4)] ?_
   refine T_nd 1 [] [(54, vp (some ((ad a).add 5)))] ?_
   obtain ⟨q31, h⟩ := h
   refine T_st1 25 (vs ap (xN + 1) b4) q31 ?_
   intro ch e30
   replace h := h ch e30
   refine T_pd [53, 54] [] ?_
   refine N_end (by kernel_rfl) ?_
   refine S_blockEnd ?_
   refine S_then ?_
   refine T_rz 12 ?_
   refine T_ed 2 [24] [(24, vi (IntKind.wrap .i64 (d + 1)))] ?_
   exact S_round ((IntKind.wrap .i64 (d + 1)) : Int) sk h
  rw [if_neg c24] at h
  refine T_cTz 46 (bne_iff_ne.mpr c24) ?_
  refine T_srz 10 ?_
  refine T_ud [0, 1, 2, 12, 23, 24, 46] [] ?_
  obtain ⟨u, a4, t, j, i, g, a5, al, ak, am, q32, h⟩ := h
  refine T_lr 47 27 q32 [8] ?_
  refine T_nd 1 [13] [(48, vi f)] ?_
  obtain ⟨q34, h⟩ := h
  refine T_sta 27 (DR u a4 t j i g a5 al ak am) q34 ?_
  intro cg e33
  replace h := h cg e33
  refine T_pd [47] [] ?_
  refine T_ed 1 [48] [(7, vi f)] ?_
  refine S_ret (by kernel_rfl) ?_
  show At _ _ _ _ _ (Q .ret)
  obtain ⟨be, cd, bd, a1, a6, a0, b7, b2, bx, b0, q35, h⟩ := h
  exact S_done (fn := Tryz.f69) [.agg (DR be cd bd a1 a6 a0 b7 b2 bx b0).toArray, vi f] hQ (show ResOK _ _ _ [.cell 6 27, .tmp 7] _ from .cell (by kernel_rfl) (loadOK_row (fun _=>by kernel_rfl) (fun _=>by kernel_rfl) q35) (.tmp (by kernel_rfl) (.nil))) h
 rw [if_neg c17] at h
 refine T_cFz 25 (decide_eq_false c17) ?_
 refine S_exit 0 (by kernel_rfl) ?_
 refine S_exitThen ?_
 refine S_exitThen ?_
 refine S_exitHere ?_
 refine S_then ?_
 refine T_srz 13 ?_
 refine T_ud [0, 1, 2, 23, 24, 25] [] ?_
 obtain ⟨y, bb, z, m, o, k, a9, av, ax, aq, q36, h⟩ := h
 refine T_lr 56 27 q36 [8] ?_
 obtain ⟨q38, h⟩ := h
 refine T_sta 27 (DR y bb z m o k a9 av ax aq) q38 ?_
 intro ce e37
 replace h := h ce e37
 refine T_pd [56] [] ?_
 refine T_ed 1 [] [(7, vi 0)] ?_
 refine S_ret (by kernel_rfl) ?_
 show At _ _ _ _ _ (Q .ret)
 obtain ⟨bh, b9, bf, a7, a2, a3, cc, bu, bz, bw, q39, h⟩ := h
 exact S_done (fn := Tryz.f69) [.agg (DR bh b9 bf a7 a2 a3 cc bu bz bw).toArray, vi 0] hQ (show ResOK _ _ _ [.cell 6 27, .tmp 7] _ from .cell (by kernel_rfl) (loadOK_row (fun _=>by kernel_rfl) (fun _=>by kernel_rfl) q39) (.tmp (by kernel_rfl) (.nil))) h
end build_reader_vector

/-! (*moraine/build.reader).pairs -/
namespace build_reader_pairs
def K0 := Func.code Tryz.f72
def K2 := cb K0
def K4 := cb K2
def K12 := cb K4
def K13 := ca K12
def K14 := cb K12
def K15 := ca K13
def K16 := ca K15
def K39 := cb K14
def K40 := ca K39
def K43 := cb K40
def K44 := ca K43
def K45 := ca K44
def K47 := cb K45
def K52 := ca K47
def K54 := ca K52
end build_reader_pairs
def build_reader_pairs.pt (r : Option Addr) (wv : Int) (deep : Int) (H : Array Obj) (R : Value → Array Obj → Prop) : Prop :=
 ∀ (b : Nat) (H1 : Array Obj), b = H.size → H1 = H.push (.cells (DR 0 0 false none 0 0 (ByteArray.mk #[]) none 0 0).toArray 27) →
 if deep = 64 then (
 (CanPuts H1 (ad b) 0 6) ∧ ∀ H2, H2 = hputs H1 (ad b) (DR 0 0 false none 0 0 (ByteArray.mk #[]) none 0 0) 0 →
 ∃ cr rC cu cg cf cd rT dj dl dh, RowAt H2 (ad b) 0 (DR cr rC cu cg cf cd rT dj dl dh) ∧
 R (.tuple #[.agg (DR cr rC cu cg cf cd rT dj dl dh).toArray, .int .i64 10]) H2)
 else
 ∃ (df : Int → (Option Addr) → Nat → Nat → Array Obj → Prop) (m17 : Int → (Option Addr) → Nat → Nat → Array Obj → Nat), df wv none 0 0 H1 ∧ ∀ (f : Int) (carsB : Option Addr) (carsN : Nat) (carsC : Nat) (H3 : Array Obj), df f carsB carsN carsC H3 →
 ∃ rA : Addr, r = some rA ∧
 ∃ x : Option Addr, hat H3 rA = some (.pointer x) ∧
 obj_Heap_Car.C x f H3 (fun v H4 => ∃ ra rb : Int, v = .tuple #[.int .u64 ra, .int .i64 rb] ∧ 
 build_reader_datum.C (some rA) ra (IntKind.wrap .i64 (deep + 1)) H4 (fun du H5 => ∃ (av ch : Int) (au : Bool) (ag : Option Addr) (ah aj : Nat) (ce : ByteArray) (bg : Option Addr) (be bu : Nat) (q : Int), du = .tuple #[.agg (DR av ch au ag ah aj ce bg be bu).toArray, .int .i64 q] ∧ 
 ∀ (a2 : Nat) (H6 : Array Obj), a2 = H5.size → H6 = H5.push (.cells (DR 0 0 false none 0 0 (ByteArray.mk #[]) none 0 0).toArray 27) →
 (CanPuts H6 (ad a2) 0 6) ∧ ∀ H7, H7 = hputs H6 (ad a2) (DR av ch au ag ah aj ce bg be bu) 0 →
 if q = 0 then (
 ∃ b3 xC b6 bc bb bd xT cz cy c2, RowAt H7 (ad a2) 0 (DR b3 xC b6 bc bb bd xT cz cy c2) ∧
 ∀ (c1 : Nat) (H8 : Array Obj), c1 = H7.size → H8 = H7.push (.cells (DR b3 xC b6 bc bb bd xT cz cy c2).toArray 27) →
 appendK 6 27 88 (DR 0 0 false none 0 0 (ByteArray.mk #[]) none 0 0) carsB carsN carsC (some (ad c1)) 1 H8 (fun ap d H9 =>
 ∃ cw : Option Addr, hat H9 rA = some (.pointer cw) ∧
 obj_Heap_Cdr.C cw f H9 (fun dt dn => ∃ e dg : Int, dt = .tuple #[.int .u64 e, .int .i64 dg] ∧ 
 ∃ J : Bool → Array Obj → Prop, (
 word_Tag.C e dn (fun dp di => ∃ ci : Int, dp = .int .i64 ci ∧ 
 if ci = 1 then (
 ∃ cv : Option Addr, hat di rA = some (.pointer cv) ∧
 obj_Heap_Pair.C cv e di (fun dq dv => ∃ cx : Bool, dq = .bool cx ∧ 
 J (!cx) dv))
 else
 J true di)) ∧ ∀ (cj : Bool) (H11 : Array Obj), J cj H11 →
 if cj = true then (
 build_reader_datum.C (some rA) e (IntKind.wrap .i64 (deep + 1)) H11 (fun dr dm => ∃ (s a3 : Int) (u : Bool) (p : Option Addr) (m o : Nat) (a6 : ByteArray) (aw : Option Addr) (ay ax : Nat) (g : Int), dr = .tuple #[.agg (DR s a3 u p m o a6 aw ay ax).toArray, .int .i64 g] ∧ 
 ∀ (j : Nat) (H13 : Array Obj), j = dm.size → H13 = dm.push (.cells (DR 0 0 false none 0 0 (ByteArray.mk #[]) none 0 0).toArray 27) →
 (CanPuts H13 (ad j) 0 6) ∧ ∀ dk, dk = hputs H13 (ad j) (DR s a3 u p m o a6 aw ay ax) 0 →
 ∃ (da : Int → Array Obj → Prop) (m46 : Int → Array Obj → Nat), da (IntKind.wrap .i64 (((carsN + 1) : Int) - 1)) dk ∧ ∀ (i : Int) (H15 : Array Obj), da i H15 →
 if i ≥ 0 then (
 ∃ ae : Addr, ap = some ae ∧
 ((0 : Int) ≤ i ∧ i < ((carsN + 1) : Int)) ∧
 ∃ aq bz ao ac af ab bx ba a9 a8, RowAt H15 (ae.add (Int.toNat i * 6)) 0 (DR aq bz ao ac af ab bx ba a9 a8) ∧
 ∃ a0 b9 az an am al cc bo bn bp, RowAt H15 (ad j) 0 (DR a0 b9 az an am al cc bo bn bp) ∧
 ∀ (bw : Nat) (H16 : Array Obj), bw = H15.size → H16 = H15.push (.cells #[.int .i64 aq, .int .i32 bz, .bool ao, .slice ac af ab, .string bx, .slice ba a9 a8, .int .i64 a0, .int .i32 b9, .bool az, .slice an am al, .string cc, .slice bo bn bp] 27) → 
 (CanPuts H16 (ad j) 0 6) ∧ ∀ dc, dc = hputs H16 (ad j) (DR 7 0 false none 0 0 (ByteArray.mk #[]) (some (ad bw)) 2 2) 0 → 
 (da (IntKind.wrap .i64 (i - 1)) dc ∧ m46 (IntKind.wrap .i64 (i - 1)) dc < m46 i H15))
 else
 ∃ ai bq ak z aa y bf a5 a7 a4, RowAt H15 (ad j) 0 (DR ai bq ak z aa y bf a5 a7 a4) ∧
 (CanPuts H15 (ad b) 0 6) ∧ ∀ dd, dd = hputs H15 (ad b) (DR ai bq ak z aa y bf a5 a7 a4) 0 →
 ∃ b2 c8 b1 bj br bi c4 cs cn cp, RowAt dd (ad b) 0 (DR b2 c8 b1 bj br bi c4 cs cn cp) ∧
 R (.tuple #[.agg (DR b2 c8 b1 bj br bi c4 cs cn cp).toArray, .int .i64 g]) dd))
 else
 build_reader_one.C (some rA) H11 (fun dw c0 => ∃ a1 : Int, dw = .int .i64 a1 ∧ 
 if a1 = 0 then (
 (df e ap (carsN + 1) d c0 ∧ m17 e ap (carsN + 1) d c0 < m17 f carsB carsN carsC H3))
 else
 (CanPuts c0 (ad b) 0 6) ∧ ∀ de, de = hputs c0 (ad b) (DR 0 0 false none 0 0 (ByteArray.mk #[]) none 0 0) 0 →
 ∃ b7 c5 b5 bt bl bm c6 cl co cm, RowAt de (ad b) 0 (DR b7 c5 b5 bt bl bm c6 cl co cm) ∧
 R (.tuple #[.agg (DR b7 c5 b5 bt bl bm c6 cl co cm).toArray, .int .i64 a1]) de))))
 else
 (CanPuts H7 (ad b) 0 6) ∧ ∀ db, db = hputs H7 (ad b) (DR 0 0 false none 0 0 (ByteArray.mk #[]) none 0 0) 0 →
 ∃ b8 c9 b0 bs bk bh c7 ck cq ct, RowAt db (ad b) 0 (DR b8 c9 b0 bs bk bh c7 ck cq ct) ∧
 R (.tuple #[.agg (DR b8 c9 b0 bs bk bh c7 ck cq ct).toArray, .int .i64 q]) db))
namespace build_reader_pairs
theorem link {r : Option Addr} {wv : Int} {deep : Int} {H : Array Obj} {R : Value → Array Obj → Prop} (h : pt r wv deep H R) : C r wv deep H R := by
 refine T_en K0 96 Tryz.func72 ?_
 intro w0 Q hQ
 unfold pt at h
 refine T_su [(0, vp r), (1, vu wv), (2, vi deep)] ?_
 refine T_srz 0 ?_
 refine T_nw (some 6) (fun b => vp (pa b)) (.cells (DR 0 0 false none 0 0 (ByteArray.mk #[]) none 0 0).toArray 27) ?_
 intro b H1 e1 e2
 replace h := h b H1 e1 e2
 refine T_pd [] [(6, vp (pa b))] ?_
 refine T_ed 1 [] [] ?_
 refine T_sz ?_
 refine T_srz 1 ?_
 refine T_ed 2 [] [(18, .bool (deep == 64))] ?_
 by_cases c3 : deep = 64
 ·rw [if_pos c3] at h
  refine T_cTz 18 (beq_iff_eq.mpr c3) ?_
  refine T_srz 2 ?_
  refine T_n 1 [(6, vp (pa b)), (19, .agg (DR 0 0 false none 0 0 (ByteArray.mk #[]) none 0 0).toArray)] ?_
  obtain ⟨q6, h⟩ := h
  refine T_sta 27 (DR 0 0 false none 0 0 (ByteArray.mk #[]) none 0 0) q6 ?_
  intro H2 e5
  replace h := h H2 e5
  refine T_pd [19] [] ?_
  refine T_ed 1 [] [(7, vi 10)] ?_
  refine S_ret (by kernel_rfl) ?_
  show At _ _ _ _ _ (Q .ret)
  obtain ⟨cr, rC, cu, cg, cf, cd, rT, dj, dl, dh, q7, h⟩ := h
  exact S_done (fn := Tryz.f72) [.agg (DR cr rC cu cg cf cd rT dj dl dh).toArray, vi 10] hQ (show ResOK _ _ _ [.cell 6 27, .tmp 7] _ from .cell (by kernel_rfl) (loadOK_row (fun _=>by kernel_rfl) (fun _=>by kernel_rfl) q7) (.tmp (by kernel_rfl) (.nil))) h
 rw [if_neg c3] at h
 refine T_cFz 18 (beq_eq_false_iff_ne.mpr c3) ?_
 refine T_kt ?_
 refine T_srz 3 ?_
 refine T_ed 1 [18] [(8, vs none 0 0)] ?_
 refine T_sz ?_
 refine T_bz 0 ?_
 obtain ⟨df, m17, i8, i9⟩ := h
 refine S_loop (x := K16) (σ := Int × (Option Addr) × Nat × Nat) (fun s_ => [(0, vp r), (1, vu s_.1), (2, vi deep), (6, vp (pa b)), (8, vs s_.2.1 s_.2.2.1 s_.2.2.2)]) (fun s_ H => df s_.1 s_.2.1 s_.2.2.1 s_.2.2.2 H) (fun s_ H => m17 s_.1 s_.2.1 s_.2.2.1 s_.2.2.2 H) ((wv, none, 0, 0) : Int × (Option Addr) × Nat × Nat) (by kernel_rfl) i8 sk ?_
 rintro ⟨f, carsB, carsN, carsC⟩ H3 i10
 have h := i9 f carsB carsN carsC H3 i10
 refine T_su [(0, vp r), (1, vu f), (2, vi deep), (6, vp (pa b)), (8, vs carsB carsN carsC)] ?_
 refine T_bz 1 ?_
 refine T_srz 4 ?_
 refine T_nd 1 [] [(21, vp r)] ?_
 obtain ⟨rA, rfl, h⟩ := h
 refine T_nd 2 [0, 21] [(0, vp (some rA)), (23, vp (some rA))] ?_
 obtain ⟨x, q11, h⟩ := h
 refine T_l1 24 30 q11 [23] ?_
 refine T_nd 1 [] [(25, vu f)] ?_
 refine T_c (some 26) h ?_; clear h
 rintro v H4 ⟨ra, rb, rfl, h⟩
 refine T_pd [24, 25] [(26, .tuple #[vu ra, vi rb])] ?_
 refine T_ed 5 [26] [(9, vu ra)] ?_
 refine T_srz 5 ?_
 refine T_nd 4 [9] [(30, vp (some rA)), (31, vu ra), (33, vi (IntKind.wrap .i64 (deep + 1)))] ?_
 refine T_c (some 34) h ?_; clear h
 rintro du H5 ⟨av, ch, au, ag, ah, aj, ce, bg, be, bu, q, rfl, h⟩
 refine T_pd [30, 31, 33] [(34, .tuple #[.agg (DR av ch au ag ah aj ce bg be bu).toArray, vi q])] ?_
 refine T_nd 3 [34] [(35, .agg (DR av ch au ag ah aj ce bg be bu).toArray), (36, vi q)] ?_
 refine T_nw (some 11) (fun b => vp (pa b)) (.cells (DR 0 0 false none 0 0 (ByteArray.mk #[]) none 0 0).toArray 27) ?_
 intro a2 H6 e12 e13
 replace h := h a2 H6 e12 e13
 refine T_pd [] [(11, vp (pa a2))] ?_
 obtain ⟨q15, h⟩ := h
 refine T_sta 27 (DR av ch au ag ah aj ce bg be bu) q15 ?_
 intro H7 e14
 replace h := h H7 e14
 refine T_pd [35] [] ?_
 refine T_ed 1 [36] [(12, vi q)] ?_
 refine T_sz ?_
 refine T_srz 6 ?_
 refine T_ed 2 [] [(38, .bool (q != 0))] ?_
 by_cases c16 : q = 0
 ·rw [if_pos c16] at h
  refine T_cFz 38 (bne_eq_false_iff_eq.mpr c16) ?_
  refine T_kt ?_
  refine T_srz 8 ?_
  refine T_nd 1 [8, 12, 38] [(41, vs carsB carsN carsC)] ?_
  obtain ⟨b3, xC, b6, bc, bb, bd, xT, cz, cy, c2, q18, h⟩ := h
  refine T_lr 42 27 q18 [11] ?_
  refine T_nw (some 43) (fun b => vs (pa b) 1 1) (.cells (DR b3 xC b6 bc bb bd xT cz cy c2).toArray 27) ?_
  intro c1 H8 e19 e20
  replace h := h c1 H8 e19 e20
  refine T_pd [42] [(43, vs (pa c1) 1 1)] ?_
  refine N_op (some 44) (appendN #[25, 25] 25 #[vs carsB carsN carsC, vs (pa c1) 1 1]) _ (fun _=>by kernel_rfl) (ss_append (T := 27) (sz := 6) (bytes := 88) (zero := (.agg (DR 0 0 false none 0 0 (ByteArray.mk #[]) none 0 0).toArray : Value)) Tryz.underlying25 Tryz.underlying25 rfl (show Tryz.prog.info? 27 = some Tryz.t27 from by kernel_rfl) (by kernel_rfl) (by kernel_rfl) (by decide) (by kernel_rfl) (by first | exact h | (simpa only [Value.cells, List.toList_toArray] using h))) ?_; clear h
  rintro _ H9 ⟨ap, d, rfl, h⟩
  refine T_pd [41, 43] [(44, vs ap (carsN + 1) d)] ?_
  refine T_ed 1 [44] [(8, vs ap (carsN + 1) d)] ?_
  refine T_srz 9 ?_
  refine T_nd 3 [] [(48, vp (some rA))] ?_
  obtain ⟨cw, q21, h⟩ := h
  refine T_l1 49 30 q21 [48] ?_
  refine T_nd 1 [1] [(50, vu f)] ?_
  refine T_c (some 51) h ?_; clear h
  rintro dt dn ⟨e, dg, rfl, h⟩
  refine T_pd [49, 50] [(51, .tuple #[vu e, vi dg])] ?_
  refine T_ne 4 [(0, vp (some rA)), (1, vu e), (2, vi deep), (6, vp (pa b)), (8, vs ap (carsN + 1) d)] ?_
  refine T_sz ?_
  refine T_sz ?_
  obtain ⟨J, h, j23⟩ := h
  refine S_join (σ := Bool) (fun s_ => [(0, vp (some rA)), (1, vu e), (2, vi deep), (6, vp (pa b)), (8, vs ap (carsN + 1) d), (65, .bool s_)]) (fun s_ H => J s_ H) ?_ ?_
  ·rintro cj H11 j24
   replace h := j23 cj H11 j24
   refine T_su [(0, vp (some rA)), (1, vu e), (2, vi deep), (6, vp (pa b)), (8, vs ap (carsN + 1) d), (65, .bool cj)] ?_
   refine S_then ?_
   by_cases c25 : cj = true
   ·rw [if_pos c25] at h
    have b26 : cj = true := c25
    refine S_env [(0, vp (some rA)), (1, vu e), (2, vi deep), (6, vp (pa b)), (8, vs ap (carsN + 1) d), (65, .bool true)] (by rw [b26]) ?_
    clear b26
    refine T_tz 65 ?_
    refine S_exit 0 (by kernel_rfl) ?_
    refine S_exitThen ?_
    refine S_exitPast (by kernel_rfl) ?_
    refine S_exitThen ?_
    refine S_exitHere ?_
    refine S_then ?_
    refine T_srz 14 ?_
    refine T_nd 4 [0, 1, 2, 65] [(73, vp (some rA)), (74, vu e), (76, vi (IntKind.wrap .i64 (deep + 1)))] ?_
    refine T_c (some 77) h ?_; clear h
    rintro dr dm ⟨s, a3, u, p, m, o, a6, aw, ay, ax, g, rfl, h⟩
    refine T_pd [73, 74, 76] [(77, .tuple #[.agg (DR s a3 u p m o a6 aw ay ax).toArray, vi g])] ?_
    refine T_nd 3 [77] [(78, .agg (DR s a3 u p m o a6 aw ay ax).toArray), (79, vi g)] ?_
    refine T_nw (some 14) (fun b => vp (pa b)) (.cells (DR 0 0 false none 0 0 (ByteArray.mk #[]) none 0 0).toArray 27) ?_
    intro j H13 e27 e28
    replace h := h j H13 e27 e28
    refine T_pd [] [(14, vp (pa j))] ?_
    obtain ⟨q30, h⟩ := h
    refine T_sta 27 (DR s a3 u p m o a6 aw ay ax) q30 ?_
    intro dk e29
    replace h := h dk e29
    refine T_pd [78] [] ?_
    refine T_ed 1 [79] [(15, vi g)] ?_
    refine T_sz ?_
    refine T_srz 15 ?_
    refine T_ed 4 [] [(16, vi (IntKind.wrap .i64 (((carsN + 1) : Int) - 1)))] ?_
    refine T_bz 2 ?_
    obtain ⟨da, m46, i31, i32⟩ := h
    refine S_loop (x := K45) (σ := Int) (fun s_ => [(6, vp (pa b)), (8, vs ap (carsN + 1) d), (14, vp (pa j)), (15, vi g), (16, vi s_)]) (fun s_ H => da s_ H) (fun s_ H => m46 s_ H) ((IntKind.wrap .i64 (((carsN + 1) : Int) - 1)) : Int) (by kernel_rfl) i31 sk ?_
    rintro i H15 i33
    have h := i32 i H15 i33
    refine T_su [(6, vp (pa b)), (8, vs ap (carsN + 1) d), (14, vp (pa j)), (15, vi g), (16, vi i)] ?_
    refine T_sz ?_
    refine T_srz 16 ?_
    refine T_ed 2 [] [(84, .bool (decide (i ≥ 0)))] ?_
    by_cases c34 : i ≥ 0
    ·rw [if_pos c34] at h
     refine T_cTz 84 (decide_eq_true c34) ?_
     refine T_kt ?_
     refine T_sz ?_
     refine T_bz 3 ?_
     obtain ⟨ae, rfl, h⟩ := h
     obtain ⟨q36, h⟩ := h
     obtain ⟨aq, bz, ao, ac, af, ab, bx, ba, a9, a8, q37, h⟩ := h
     obtain ⟨a0, b9, az, an, am, al, cc, bo, bn, bp, q38, h⟩ := h
     refine S_regionG 18 (Code.ops K54) [(5, (ae.add (Int.toNat i * 6)), (DR aq bz ao ac af ab bx ba a9 a8)), (5, (ad j), (DR a0 b9 az an am al cc bo bn bp))] 8 (bv 8 0) (by kernel_rfl) (by kernel_rfl) (by kernel_rfl) (by kernel_rfl) (by kernel_rfl) (show FactsAt _ _ _ from ⟨q37, q38, trivial⟩) ?_
     refine T_gp 0 (some 87) (vs (some ae) (carsN + 1) d) (bv 8 1) [(6, vp (pa b)), (8, vs (some ae) (carsN + 1) d), (14, vp (pa j)), (15, vi g), (16, vi i), (87, vs (some ae) (carsN + 1) d)] ?_
     refine T_gp1 1 88 (vi i) (bv 8 3) [] ?_
     refine T_g1 2 89 (vp (some (ae.add (Int.toNat i * 6)))) (bv 8 7) [87, 88] (indexAtN 25 (vs (some ae) (carsN + 1) d) (vi i)) (fun _ w _ _ _ => indexAt_run (P := Tryz.prog) (t := 25) (elem := 27) (sz := 6) (a := ae) (len := (carsN + 1)) (cap := d) (k := .i64) (i := i) Tryz.underlying25 (fun _=>by kernel_rfl) q36.1 q36.2 w) ?_
     refine T_g1 3 90 (.agg (DR aq bz ao ac af ab bx ba a9 a8).toArray) (bv 8 15) [89] (loadN 27 (vp (some (ae.add (Int.toNat i * 6))))) (held_row 5 (fun _=>by kernel_rfl) (fun _=>by kernel_rfl) (List.Mem.head _) (.inl (by kernel_rfl))) ?_
     refine T_g1 4 91 (.agg (DR a0 b9 az an am al cc bo bn bp).toArray) (bv 8 31) [] (loadN 27 (vp (pa j))) (held_row 5 (fun _=>by kernel_rfl) (fun _=>by kernel_rfl) (List.Mem.tail _ (List.Mem.head _)) (.inl (by kernel_rfl))) ?_
     refine G_new 5 (some 92) (bv 8 63) (fun b => vs (pa b) 2 2) (.cells #[vi aq, .int .i32 bz, .bool ao, vs ac af ab, .string bx, vs ba a9 a8, vi a0, .int .i32 b9, .bool az, vs an am al, .string cc, vs bo bn bp] 27) (by kernel_rfl) (fun _=>by kernel_rfl) (by kernel_rfl) ?_
     intro bw H16 e39 e40
     replace h := h bw H16 e39 e40
     refine ⟨[(6, vp (pa b)), (8, vs (some ae) (carsN + 1) d), (14, vp (pa j)), (15, vi g), (16, vi i), (92, vs (pa bw) 2 2)], pk, (show FactsAt _ _ _ from ⟨trivial, trivial, trivial⟩), ?_⟩
     refine T_g 6 (some 93) (.agg (DR 7 0 false none 0 0 (ByteArray.mk #[]) (pa bw) 2 2).toArray) (bv 8 127) [(6, vp (pa b)), (8, vs (some ae) (carsN + 1) d), (14, vp (pa j)), (15, vi g), (16, vi i), (93, .agg (DR 7 0 false none 0 0 (ByteArray.mk #[]) (pa bw) 2 2).toArray)] (pure (.value (.agg (DR 7 0 false none 0 0 (ByteArray.mk #[]) (pa bw) 2 2).toArray)) : Sem Next) (fun _ _ _ _ _ => rfl) ?_
     obtain ⟨q42, h⟩ := h
     refine G_onlyskip 7 none (bv 8 255) (storeN 27 (vp (pa j)) (.agg (DR 7 0 false none 0 0 (ByteArray.mk #[]) (pa bw) 2 2).toArray)) (fun Hz => Hz = hputs H16 (ad j) (DR 7 0 false none 0 0 (ByteArray.mk #[]) (pa bw) 2 2) 0) (by kernel_rfl) (fun _=>by kernel_rfl) (ss_store (DR 7 0 false none 0 0 (ByteArray.mk #[]) (pa bw) 2 2) 6 (by kernel_rfl) (by kernel_rfl) (fun _=>by kernel_rfl) (by kernel_rfl) q42) (by kernel_rfl) ?_
     intro dc e41
     replace h := h dc e41
     refine ⟨[(6, vp (pa b)), (8, vs (some ae) (carsN + 1) d), (14, vp (pa j)), (15, vi g), (16, vi i)], pk, (show FactsAt _ _ _ from ⟨trivial, trivial, trivial⟩), ?_⟩
     refine G_sub [(6, vp (pa b)), (8, vs (some ae) (carsN + 1) d), (14, vp (pa j)), (15, vi g), (16, vi i)] sk ?_
     refine G_end (by kernel_rfl) ?_
     refine S_blockEnd ?_
     refine S_then ?_
     refine T_rz 17 ?_
     refine T_ne 3 [(6, vp (pa b)), (8, vs (some ae) (carsN + 1) d), (14, vp (pa j)), (15, vi g), (16, vi (IntKind.wrap .i64 (i - 1)))] ?_
     exact S_round ((IntKind.wrap .i64 (i - 1)) : Int) sk h
    rw [if_neg c34] at h
    refine T_cFz 84 (decide_eq_false c34) ?_
    refine S_exit 2 (by kernel_rfl) ?_
    refine S_exitThen ?_
    refine S_exitThen ?_
    refine S_exitHere ?_
    refine S_then ?_
    refine T_srz 19 ?_
    refine T_ud [8, 16, 84] [] ?_
    obtain ⟨ai, bq, ak, z, aa, y, bf, a5, a7, a4, q43, h⟩ := h
    refine T_lr 94 27 q43 [14] ?_
    refine T_nd 1 [15] [(95, vi g)] ?_
    obtain ⟨q45, h⟩ := h
    refine T_sta 27 (DR ai bq ak z aa y bf a5 a7 a4) q45 ?_
    intro dd e44
    replace h := h dd e44
    refine T_pd [94] [] ?_
    refine T_ed 1 [95] [(7, vi g)] ?_
    refine S_ret (by kernel_rfl) ?_
    show At _ _ _ _ _ (Q .ret)
    obtain ⟨b2, c8, b1, bj, br, bi, c4, cs, cn, cp, q46, h⟩ := h
    exact S_done (fn := Tryz.f72) [.agg (DR b2 c8 b1 bj br bi c4 cs cn cp).toArray, vi g] hQ (show ResOK _ _ _ [.cell 6 27, .tmp 7] _ from .cell (by kernel_rfl) (loadOK_row (fun _=>by kernel_rfl) (fun _=>by kernel_rfl) q46) (.tmp (by kernel_rfl) (.nil))) h
   rw [if_neg c25] at h
   have b26 : cj = false := eq_false_of_ne_true c25
   refine S_env [(0, vp (some rA)), (1, vu e), (2, vi deep), (6, vp (pa b)), (8, vs ap (carsN + 1) d), (65, .bool false)] (by rw [b26]) ?_
   clear b26
   refine T_fz 65 ?_
   refine T_kt ?_
   refine T_srz 11 ?_
   refine T_nd 1 [65] [(66, vp (some rA))] ?_
   refine T_c (some 67) h ?_; clear h
   rintro dw c0 ⟨a1, rfl, h⟩
   refine T_pd [66] [(67, vi a1)] ?_
   refine T_ed 1 [67] [(13, vi a1)] ?_
   refine T_srz 12 ?_
   refine T_ed 2 [] [(69, .bool (a1 != 0))] ?_
   by_cases c47 : a1 = 0
   ·rw [if_pos c47] at h
    refine T_cFz 69 (bne_eq_false_iff_eq.mpr c47) ?_
    refine T_k ?_
    refine S_blockEnd ?_
    refine S_then ?_
    exact S_round ((e, ap, (carsN + 1), d) : Int × (Option Addr) × Nat × Nat) sk h
   rw [if_neg c47] at h
   refine T_cTz 69 (bne_iff_ne.mpr c47) ?_
   refine T_srz 13 ?_
   refine T_n 2 [(6, vp (pa b)), (70, .agg (DR 0 0 false none 0 0 (ByteArray.mk #[]) none 0 0).toArray), (71, vi a1)] ?_
   obtain ⟨q50, h⟩ := h
   refine T_sta 27 (DR 0 0 false none 0 0 (ByteArray.mk #[]) none 0 0) q50 ?_
   intro de e49
   replace h := h de e49
   refine T_pd [70] [] ?_
   refine T_ed 1 [71] [(7, vi a1)] ?_
   refine S_ret (by kernel_rfl) ?_
   show At _ _ _ _ _ (Q .ret)
   obtain ⟨b7, c5, b5, bt, bl, bm, c6, cl, co, cm, q51, h⟩ := h
   exact S_done (fn := Tryz.f72) [.agg (DR b7 c5 b5 bt bl bm c6 cl co cm).toArray, vi a1] hQ (show ResOK _ _ _ [.cell 6 27, .tmp 7] _ from .cell (by kernel_rfl) (loadOK_row (fun _=>by kernel_rfl) (fun _=>by kernel_rfl) q51) (.tmp (by kernel_rfl) (.nil))) h
  refine T_rz 10 ?_
  refine T_n 1 [(0, vp (some rA)), (1, vu e), (2, vi deep), (6, vp (pa b)), (8, vs ap (carsN + 1) d), (54, vu e)] ?_
  refine T_c (some 55) h ?_; clear h
  rintro dp di ⟨ci, rfl, h⟩
  refine T_pd [54] [(55, vi ci)] ?_
  refine T_nd 2 [55] [(57, .bool (ci != 1))] ?_
  by_cases c52 : ci = 1
  ·rw [if_pos c52] at h
   refine N_bd 57 (bne_eq_false_iff_eq.mpr c52) ?_
   refine T_nd 3 [] [(60, vp (some rA))] ?_
   obtain ⟨cv, q54, h⟩ := h
   refine T_l1 61 30 q54 [60] ?_
   refine T_nd 1 [] [(62, vu e)] ?_
   refine T_c (some 63) h ?_; clear h
   rintro dq dv ⟨cx, rfl, h⟩
   refine T_pd [61, 62] [(63, .bool cx)] ?_
   refine T_ed 2 [57, 63] [(65, .bool (!cx))] ?_
   exact S_meet ((!cx) : Bool) sk h
  rw [if_neg c52] at h
  refine N_bd 57 (bne_iff_ne.mpr c52) ?_
  refine T_ed 8 [57] [(65, .bool true)] ?_
  exact S_meet (true : Bool) sk h
 rw [if_neg c16] at h
 refine T_cTz 38 (bne_iff_ne.mpr c16) ?_
 refine T_srz 7 ?_
 refine T_n 2 [(6, vp (pa b)), (39, .agg (DR 0 0 false none 0 0 (ByteArray.mk #[]) none 0 0).toArray), (40, vi q)] ?_
 obtain ⟨q56, h⟩ := h
 refine T_sta 27 (DR 0 0 false none 0 0 (ByteArray.mk #[]) none 0 0) q56 ?_
 intro db e55
 replace h := h db e55
 refine T_pd [39] [] ?_
 refine T_ed 1 [40] [(7, vi q)] ?_
 refine S_ret (by kernel_rfl) ?_
 show At _ _ _ _ _ (Q .ret)
 obtain ⟨b8, c9, b0, bs, bk, bh, c7, ck, cq, ct, q57, h⟩ := h
 exact S_done (fn := Tryz.f72) [.agg (DR b8 c9 b0 bs bk bh c7 ck cq ct).toArray, vi q] hQ (show ResOK _ _ _ [.cell 6 27, .tmp 7] _ from .cell (by kernel_rfl) (loadOK_row (fun _=>by kernel_rfl) (fun _=>by kernel_rfl) q57) (.tmp (by kernel_rfl) (.nil))) h
end build_reader_pairs

end Go.Proofs.YtdgejifkcfgliaaGreatDoor
