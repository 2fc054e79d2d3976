/- The law ListsBack of morainelaw22 holds: called with any arguments it answers true and leaves what it was handed as it was. No condition. -/
import Derived.Test.YthlohokmnajpoaaLaws22
import Derived.Test.YthlohokmnajpoaaL22ListsBack
set_option linter.unusedVariables false
set_option linter.unusedSimpArgs false
namespace Go.Proofs.Ythlohokmnajpoaa.listsBack
open Go Go.Proofs.Ythlohokmnajpoaa
open Go.ChangeShapes Go.WideShapes Go.ChangeAt Go.RowKit

theorem wordAt_append {last : Int} {l' : List (Int × Int)} : ∀ {l : List (Int × Int)}, wordAt last (l ++ l') l.length = wordAt last l' 0
  | [] => rfl
  | _ :: l => wordAt_append (l := l)
theorem wordAt_chain {m : Mem} {w last : Int} {l : List (Int × Int)} (h : Chain m w l last) : wordAt last l 0 = w := by
  cases l with
  | nil => exact h.1.symm
  | cons pa l => exact h.1.symm

theorem law (aB : Option Addr) (aN aC : Nat) (xs : List Int) (bB : Option Addr) (bN bC : Nat) (ys : List Int) (H : Array Obj) (A : Nums H .i32 aB aN xs) (_ : aN ≤ maxLen) (B : Nums H .i32 bB bN ys) (_ : bN ≤ maxLen) :
    morainelaw22_ListsBack.C aB aN aC bB bN bC H (fun v H' => v = .bool true ∧ Ext H H') := by
  refine HC.via fun R hR => morainelaw22_ListsBack.link ?_
  unfold morainelaw22_ListsBack.pt
  refine HC.mono (obj_New_c ⟨by decide, by decide⟩) ?_
  rintro _ H1 (⟨hn, _⟩ | ⟨_, b, x, rfl, V1, hx, e1, hy⟩)
  · exact absurd ⟨by decide, by decide⟩ hn
  have L1 : Live H H1 b x := ⟨V1.inv.2.1, V1.inv.2.2, e1, hy⟩
  have hc : x.sp.mem.count = 0 := by subst hx; rfl
  have hv : x.sp.mem.Even := by subst hx; exact even_fresh _
  have hr : x.sp.room = 12800 := by subst hx; exact fresh_room 400
  clear hx V1
  refine ⟨_, _, rfl, ?_⟩
  by_cases hbig : 500 < aN ∨ 500 < bN
  · rw [if_pos (by
      rcases hbig with h | h
      · rw [decide_eq_true (show (aN : Int) > 500 by omega)]; simp
      · rw [decide_eq_true (show (bN : Int) > 500 by omega)]; simp)]
    refine ⟨fun q A => q = true ∧ Ext H A, ?_, ?_⟩
    · rw [if_pos rfl]
      refine HC.mono awake22_c ?_
      rintro _ H3 ⟨rfl, e3⟩
      exact ⟨_, rfl, rfl, e1.trans e3⟩
    rintro _ H2 ⟨rfl, e2⟩
    exact hR _ _ ⟨rfl, e2⟩
  rw [if_neg (by
    rw [decide_eq_false (show ¬ (aN : Int) > 500 by omega), decide_eq_false (show ¬ (bN : Int) > 500 by omega)]; simp)]
  have hAl := A.len
  have hBl := B.len
  refine HC.mono (fixes_c (H0 := H) (A.ext e1) (by omega)) ?_
  rintro _ H4 ⟨X1, c4, rfl, oX, hX1, e4⟩
  refine ⟨_, _, _, rfl, HC.mono (fixes_c (H0 := H) (B.ext (e1.trans e4)) (by omega)) ?_⟩
  rintro _ H5 ⟨Y1, c5, rfl, oY, hY1, e5⟩
  have sX := L1.new hX1
  have L5 := (L1.grow e4).grow e5
  have sY := (L1.grow e4).new hY1
  have qX := oX.src.ext e5
  have qY := oY.src
  clear oX oY
  generalize hXd : xs.map fx = X at qX
  generalize hYd : ys.map fx = Y at qY
  have wX : ∀ w ∈ X, IsWord w := by rw [← hXd]; exact fxs_word xs
  have wY : ∀ w ∈ Y, IsWord w := by rw [← hYd]; exact fxs_word ys
  have nX : X.length = aN := by rw [← hXd]; simpa using hAl
  have nY : Y.length = bN := by rw [← hYd]; simpa using hBl
  clear hXd hYd
  refine ⟨_, _, _, rfl, HC.mono (of22_c L5 hv qX nX.symm sX wX (by omega) (by omega) (by omega)) ?_⟩
  rintro _ H6 ⟨p, x6, lp, rfl, L6, R6, m6, f6⟩
  have n6 := R6.len m6
  have r6 := R6.room
  have k6 := R6.count
  refine ⟨_, _, rfl, HC.mono (of22_c L6 R6.even (qY.keep f6 sY) nY.symm sY wY (by omega) (by omega) (by omega)) ?_⟩
  rintro _ H7 ⟨q, x7, lq, rfl, L7, R7, m7, f7⟩
  have n7 := R7.len m7
  have r7 := R7.room
  have k7 := R7.count
  have cp7 := R6.chain.keep R7.keep nil_noPair
  have wq : IsWord q := R7.chain.word
  have qX7 := (qX.keep f6 sX).keep f7 sX
  have qY7 := (qY.keep f6 sY).keep f7 sY
  refine ⟨_, _, rfl, ?_⟩
  rw [if_neg (by decide)]
  intro b8 H8 hb8 hH8
  have e8 : Ext H7 H8 := Ext.push' hH8
  refine HC.mono (apply_reverse (L7.grow e8) R7.even (push_get hb8 hH8) cp7 (by omega) (by omega) (by omega)) ?_
  rintro _ H9 ⟨r, x9, lr, rfl, L9, R9, m9, f9⟩
  have n9 := R9.len m9
  rw [m6] at m9
  simp only [List.length_reverse, List.length_map] at n9
  have r9 := R9.room
  have k9 := R9.count
  refine ⟨_, _, rfl, fun b10 H10 hb10 hH10 => ?_⟩
  have e10 : Ext H9 H10 := Ext.push' hH10
  refine HC.mono (apply_reverse (L9.grow e10) R9.even (push_get hb10 hH10) R9.chain (by omega) (by omega) (by omega)) ?_
  rintro _ H11 ⟨s, x11, ls, rfl, L11, R11, m11, f11⟩
  have n11 := R11.len m11
  rw [m9, List.reverse_reverse] at m11
  simp only [List.length_reverse, List.length_map] at n11
  have r11 := R11.room
  have k11 := R11.count
  have kp11 := R9.keep.trans R11.keep
  refine ⟨_, _, rfl, fun b12 H12 hb12 hH12 => ?_⟩
  have e12 : Ext H11 H12 := Ext.push' hH12
  refine HC.mono (apply_append (L11.grow e12) R11.even (push_get hb12 hH12) wq (cp7.keep kp11 nil_noPair) (by omega) (by omega) (by omega)) ?_
  rintro _ H13 ⟨t, x13, lt, rfl, L13, R13, m13, f13⟩
  have n13 := R13.len m13
  rw [m6] at m13
  simp only [List.length_map] at n13
  have cq13 : Chain x13.sp.mem q lq 20 := (R7.chain.keep kp11 nil_noPair).keep R13.keep nil_noPair
  have ct13 : Chain x13.sp.mem t (lt ++ lq) 20 := Links.chain cq13 R13.links
  have nt : (lt ++ lq).length = aN + bN := by simp; omega
  refine ⟨_, _, rfl, fun b14 H14 hb14 hH14 => ?_⟩
  have e14 : Ext H13 H14 := Ext.push' hH14
  refine HC.mono (apply_length (L13.grow e14) (push_get hb14 hH14) ct13 (by omega)) ?_
  rintro _ H15 ⟨rfl, e15⟩
  have L15 := (L13.grow e14).grow e15
  have qX15 := ((((((((qX7.ext e8).keep f9 sX).ext e10).keep f11 sX).ext e12).keep f13 sX).ext e14).ext e15)
  have qY15 := ((((((((qY7.ext e8).keep f9 sY).ext e10).keep f11 sY).ext e12).keep f13 sY).ext e14).ext e15)
  have cr15 := (R9.chain.keep R11.keep nil_noPair).keep R13.keep nil_noPair
  have cs15 := R11.chain.keep R13.keep nil_noPair
  refine ⟨_, _, rfl, ?_⟩
  have hfx : ishl .u64 (IntKind.wrap .u64 (IntKind.wrap .i64 ((aN : Int) + (bN : Int)))) 3 = ((lt ++ lq).length : Int) * 8 := by
    rw [w64 (n := (aN : Int) + bN) (by omega), nt]
    have := fx_nat (k := (aN : Int) + bN) (by omega)
    unfold fx at this
    rw [this]; omega
  rw [hfx, if_neg (by simp)]
  refine HC.mono (lists_List_c L15.view cr15 (by omega)) ?_
  rintro _ H16 ⟨e16, ⟨h20, _⟩ | ⟨_, B16, c16, rfl, o16, _⟩⟩
  · exact absurd rfl h20
  have L16 := L15.grow e16
  have qX16 := qX15.ext e16
  have qY16 := qY15.ext e16
  rw [m9] at o16
  refine ⟨_, _, _, _, rfl, fun k A' => (0 ≤ k ∧ k ≤ lr.length) ∧ A' = H16, fun k _ => ((lr.length : Int) - k).toNat, ⟨by omega, rfl⟩, ?_⟩
  rintro k _ ⟨hk, rfl⟩
  by_cases hlt : k < (lr.length : Int)
  · rw [if_pos hlt]
    obtain ⟨a1, rfl, g1⟩ := src_word o16.src (i := k.toNat) (by simp; omega)
    obtain ⟨a2, rfl, g2⟩ := src_word qX16 (i := aN - 1 - k.toNat) (by omega)
    have hidx : IntKind.wrap .i64 (IntKind.wrap .i64 ((aN : Int) - 1) - k) = ((aN - 1 - k.toNat : Nat) : Int) := by
      rw [w64 (n := (aN : Int) - 1) (by omega), w64 (by omega)]; omega
    refine ⟨a1, rfl, ⟨hk.1, hlt⟩, _, g1, a2, rfl, ⟨by rw [hidx]; omega, by rw [hidx]; omega⟩, X[aN - 1 - k.toNat]'(by omega), by rw [hidx, show Int.toNat ((aN - 1 - k.toNat : Nat) : Int) = aN - 1 - k.toNat by omega]; exact g2, ?_⟩
    have hrev : (X.reverse)[k.toNat]'(by simp; omega) = X[aN - 1 - k.toNat]'(by omega) := by
      rw [List.getElem_reverse]; congr 1; omega
    rw [if_pos hrev, w64 (n := k + 1) (by omega)]
    exact ⟨⟨by omega, rfl⟩, by show ((lr.length : Int) - (k + 1)).toNat < ((lr.length : Int) - k).toNat; omega⟩
  rw [if_neg hlt]
  refine HC.mono (lists_List_c L16.view cs15 (by omega)) ?_
  rintro _ H18 ⟨e18, ⟨h20, _⟩ | ⟨_, B18, c18, rfl, o18, _⟩⟩
  · exact absurd rfl h20
  have L18 := L16.grow e18
  refine ⟨_, _, _, _, rfl, HC.mono (lists_List_c L18.view ct13 (by omega)) ?_⟩
  rintro _ H19 ⟨e19, ⟨h20, _⟩ | ⟨_, B19, c19, rfl, o19, _⟩⟩
  · exact absurd rfl h20
  have L19 := L18.grow e19
  refine ⟨_, _, _, _, rfl, ?_⟩
  rw [if_pos (by omega)]
  have qX19 := (qX16.ext e18).ext e19
  have qY19 := (qY16.ext e18).ext e19
  rw [m11] at o18
  refine HC.mono (same22_c (o18.src.ext e19) qX19 (by omega) nX.symm (by omega)) ?_
  rintro _ H20 ⟨rfl, rfl⟩
  refine ⟨_, rfl, ?_⟩
  rw [decide_eq_true rfl, if_pos rfl]
  intro b21 H21 hb21 hH21
  have e21 : Ext H20 H21 := Ext.push' hH21
  have o21 : Own H21 31 1 (some ⟨b21, 0, none⟩) 0 0 [] := ⟨rfl, _, push_get hb21 hH21, rfl, Nat.le_refl _, rfl, fun j hj => by omega⟩
  refine own_append o21 (qX19.ext e21) (by simp [wvs]; omega) (allOne_wvs _) rfl (by omega) ?_
  intro p22 c22 H22 o22 f22 hn22
  have e22 : Ext H20 H22 := e21.fr_trans f22 (fun i hi => by simp at hi; omega)
  refine own_append o22 (qY19.ext e22) (by simp [wvs]; omega) (allOne_wvs _) rfl (by omega) ?_
  intro p23 c23 H23 o23 f23 hn23
  have e23 : Ext H20 H23 := e22.fr_trans f23 (fun i hi => by
    rcases hn22 i hi with h | h
    · simp at h; omega
    · have := e21.size; omega)
  have L23 := L19.grow e23
  have hcars : (lt ++ lq).map (·.2) = X ++ Y := by rw [List.map_append, m13, m7]
  rw [hcars] at o19
  refine HC.mono (same22_c (xs := X ++ Y) (ys := X ++ Y) (o19.src.ext e23) (by have := o23.src; simpa [wvs] using this) (by simp; omega) (by simp; omega) (by simp; omega)) ?_
  rintro _ H24 ⟨rfl, rfl⟩
  refine ⟨_, rfl, ?_⟩
  rw [decide_eq_true rfl, if_pos rfl]
  have qX23 := qX19.ext e23
  refine ⟨fun k A' => (0 ≤ k ∧ k ≤ aN) ∧ Ext H24 A', fun k _ => ((aN : Int) - k).toNat, ⟨by omega, Ext.refl _⟩, ?_⟩
  rintro k A' ⟨hk, eA⟩
  have LA := L23.grow eA
  by_cases hlt : k < (aN : Int)
  · rw [if_pos hlt]
    intro b26 H26 hb26 hH26
    have e26 : Ext A' H26 := Ext.push' hH26
    have hj : k.toNat < (lt ++ lq).length := by omega
    refine HC.mono (apply_ref (j := k.toNat) (LA.grow e26) (push_get hb26 hH26) ct13 (by omega) (by have := fx_nat (k := k) (by omega); unfold fx at this; rw [this]; omega) hj) ?_
    rintro _ H27 ⟨rfl, e27⟩
    refine ⟨_, _, rfl, ?_⟩
    rw [if_pos rfl]
    obtain ⟨a2, ha2, g2⟩ := src_word ((qX23.ext eA).ext (e26.trans e27)) (i := k.toNat) (by omega)
    have hval : (lt ++ lq)[k.toNat].2 = X[k.toNat]'(by omega) := by
      have h1 : ((lt ++ lq).map (·.2))[k.toNat]? = (X ++ Y)[k.toNat]? := by rw [hcars]
      rw [List.getElem?_map, List.getElem?_eq_getElem hj, List.getElem?_append_left (by omega), List.getElem?_eq_getElem (by omega)] at h1
      simpa using h1
    refine ⟨a2, ha2, hk.1 |> fun h => ⟨h, hlt⟩, _, g2, ?_⟩
    rw [if_pos hval, w64 (n := k + 1) (by omega)]
    exact ⟨⟨by omega, (eA.trans e26).trans e27⟩, by show ((aN : Int) - (k + 1)).toNat < ((aN : Int) - k).toNat; omega⟩
  rw [if_neg hlt]
  intro b28 H28 hb28 hH28
  have e28 : Ext A' H28 := Ext.push' hH28
  refine HC.mono (apply_tail (j := aN) (LA.grow e28) (push_get hb28 hH28) ct13 (by omega) (by have := fx_nat (k := (aN : Int)) (by omega); unfold fx at this; rw [this]) (by omega)) ?_
  rintro _ H29 ⟨rfl, e29⟩
  refine ⟨_, _, rfl, ?_⟩
  have hw : wordAt 20 (lt ++ lq) aN = q := by
    rw [show aN = lt.length by omega, wordAt_append, wordAt_chain cq13]
  rw [if_pos rfl, if_pos hw]
  refine HC.mono awake22_c ?_
  rintro _ H30 ⟨rfl, e30⟩
  exact ⟨_, rfl, hR _ _ ⟨rfl, ((LA.grow e28).grow e29).ext.trans e30⟩⟩

set_option maxRecDepth 100000 in
theorem lifted (os : Os) (started : os.Started) (H : Type) (enc : TypeId × Value → H) :
    ReturnsInHanded {} Try.checked os 3 .any (Rows.listsBackSpec.pre6 enc Try.prog Try.f3 Rows.listsBackRow.domain false) (Rows.listsBackSpec.post enc Try.prog Try.f3 false true false false) := by
  refine law_lifted (tb := 4) started (by kernel_rfl) Try.func3
    (ChangeSpec.witness6 (enc := enc) (C := Try.checked) false ⟨#[], #[.slice none 0 0, .slice none 0 0], []⟩ 8 (by kernel_rfl) (by kernel_rfl) (by kernel_rfl) (by kernel_rfl))
    rfl (by kernel_rfl) rfl Try.underlying4 (fun ds hds => ?_) ?_
  · match ds, hds with
    | [d0, d1], _ => rfl
  intro W base args ds p hval hA _
  rw [Try.params3] at hA hval
  obtain ⟨v0, vs0, d0, ds0, p0, q0, hargs, rfl, rfl, h0, r0⟩ := trodAll_cons hA
  obtain ⟨v1, vs1, d1, ds1, p1, q1, rfl, rfl, rfl, h1, r1⟩ := trodAll_cons r0
  obtain ⟨rfl, rfl, rfl⟩ := trodAll_nil r1
  obtain rfl : args = #[v0, v1] := by cases args; simp_all
  obtain ⟨p0, n0, c0, x0, rfl, w0, u0⟩ := open_nums Try.underlying22 Try.underlying21 (by kernel_rfl) (B := maxLen) (.inl rfl) (hval 0 22 v0 rfl rfl) h0
  obtain ⟨p1, n1, c1, x1, rfl, w1, u1⟩ := open_nums Try.underlying22 Try.underlying21 (by kernel_rfl) (B := maxLen) (.inl rfl) (hval 1 22 v1 rfl rfl) h1
  exact law p0 n0 c0 x0 p1 n1 c1 x1 W.heap w0 u0 w1 u1

theorem over : Rows.listsBackRow.holds Try.pinned (OpenSpec.ofChange Rows.listsBackSpec) :=
  OpenClaim.holds_of_wide 3 Try.f3 rfl rfl rfl rfl rfl rfl rfl ⟨rfl, rfl, rfl, rfl, rfl⟩ rfl rfl rfl rfl rfl (by kernel_rfl) Try.func3 (by kernel_rfl)
    (of_decide_eq_true (by kernel_rfl)) (by unfold Func.isWrapper; first | (rw [if_pos (by decide +kernel)]; kernel_rfl) | (rw [if_neg (by decide +kernel)]; exact ⟨rfl, rfl⟩))
    (fun os started H enc _ => lifted os started H enc)

theorem proved : Rows.ListsBackSaid :=
  over
#print axioms proved
end Go.Proofs.Ythlohokmnajpoaa.listsBack
