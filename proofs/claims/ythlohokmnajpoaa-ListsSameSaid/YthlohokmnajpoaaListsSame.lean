/- The law ListsSame of morainelaw22 holds: called with any arguments it answers true and leaves what it was handed as it was. No condition. -/
import Derived.Test.YthlohokmnajpoaaLaws22
import Derived.Test.YthlohokmnajpoaaL22ListsSame
set_option linter.unusedVariables false
set_option linter.unusedSimpArgs false
namespace Go.Proofs.Ythlohokmnajpoaa.listsSame
open Go Go.Proofs.Ythlohokmnajpoaa
open Go.ChangeShapes Go.WideShapes Go.ChangeAt Go.RowKit

theorem law (aB : Option Addr) (aN aC : Nat) (xs : List Int) (bB : Option Addr) (bN bC : Nat) (ys : List Int) (z : Int) (H : Array Obj) (A : Nums H .i32 aB aN xs) (hac : aN ≤ maxLen ∧ aN ≤ aC) (B : Nums H .i32 bB bN ys) (_ : bN ≤ maxLen) (hz : -2147483648 ≤ z ∧ z ≤ 2147483647) :
    morainelaw22_ListsSame.C aB aN aC bB bN bC z H (fun v H' => v = .bool true ∧ Ext H H') := by
  refine HC.via fun R hR => morainelaw22_ListsSame.link ?_
  unfold morainelaw22_ListsSame.pt
  refine HC.mono (obj_New_c ⟨by decide, by decide⟩) ?_
  rintro _ H1 (⟨hn, _⟩ | ⟨_, b, x, rfl, V1, hx, e1, hy⟩)
  · exact absurd ⟨by decide, by decide⟩ hn
  have L1 : Live H H1 b x := ⟨V1.inv.2.1, V1.inv.2.2, e1, hy⟩
  have hc : x.sp.mem.count = 0 := by subst hx; rfl
  have hv : x.sp.mem.Even := by subst hx; exact even_fresh _
  have hr : x.sp.room = 12800 := by subst hx; exact fresh_room 400
  clear hx V1
  refine ⟨_, _, rfl, ?_⟩
  by_cases hbig : 300 < aN ∨ 300 < bN
  · rw [if_pos (by
      rcases hbig with h | h
      · rw [decide_eq_true (show (aN : Int) > 300 by omega)]; simp
      · rw [decide_eq_true (show (bN : Int) > 300 by omega)]; simp)]
    refine ⟨fun q A => q = true ∧ Ext H A, ?_, ?_⟩
    · rw [if_pos rfl]
      refine HC.mono awake22_c ?_
      rintro _ H3 ⟨rfl, e3⟩
      exact ⟨_, rfl, rfl, e1.trans e3⟩
    rintro _ H2 ⟨rfl, e2⟩
    exact hR _ _ ⟨rfl, e2⟩
  rw [if_neg (by
    rw [decide_eq_false (show ¬ (aN : Int) > 300 by omega), decide_eq_false (show ¬ (bN : Int) > 300 by omega)]; simp)]
  have hAl := A.len
  have hBl := B.len
  have hx32 : ∀ k ∈ xs, -2147483648 ≤ k ∧ k ≤ 2147483647 := fun k hk => wf_i32 (A.wf k hk)
  have hy32 : ∀ k ∈ ys, -2147483648 ≤ k ∧ k ≤ 2147483647 := fun k hk => wf_i32 (B.wf k hk)
  have wX : ∀ w ∈ xs.map fx, IsWord w := fxs_word xs
  have wY : ∀ w ∈ ys.map fx, IsWord w := fxs_word ys
  have tX : ∀ w ∈ xs.map fx, w % 8 = 0 ∧ IsWord w := fun w hw => by
    obtain ⟨u, _, rfl⟩ := List.mem_map.1 hw; exact ⟨fx_tag u, fx_word u⟩
  have tY : ∀ w ∈ ys.map fx, w % 8 = 0 ∧ IsWord w := fun w hw => by
    obtain ⟨u, _, rfl⟩ := List.mem_map.1 hw; exact ⟨fx_tag u, fx_word u⟩
  have nX : (xs.map fx).length = aN := by simpa using hAl
  have nY : (ys.map fx).length = bN := by simpa using hBl
  refine HC.mono (fixes_c (H0 := H) (A.ext e1) (by omega)) ?_
  rintro _ H4 ⟨X1, c4, rfl, oX, hX1, e4⟩
  refine ⟨_, _, _, rfl, HC.mono (of22_c (L1.grow e4) hv oX.src nX.symm (L1.new hX1) wX (by omega) (by omega) (by omega)) ?_⟩
  rintro _ H5 ⟨p, x5, lp, rfl, L5, R5, m5, f5⟩
  have n5 := R5.len m5
  have r5 := R5.room
  have k5 := R5.count
  refine ⟨_, _, rfl, HC.mono (fixes_c (H0 := H) (B.ext L5.ext) (by omega)) ?_⟩
  rintro _ H6 ⟨Y1, c6, rfl, oY, hY1, e6⟩
  refine ⟨_, _, _, rfl, HC.mono (of22_c (L5.grow e6) R5.even oY.src nY.symm (L5.new hY1) wY (by omega) (by omega) (by omega)) ?_⟩
  rintro _ H7 ⟨q, x7, lq, rfl, L7, R7, m7, f7⟩
  have n7 := R7.len m7
  have r7 := R7.room
  have k7 := R7.count
  refine ⟨_, _, rfl, HC.mono (fixes_c (H0 := H) (A.ext L7.ext) (by omega)) ?_⟩
  rintro _ H8 ⟨X2, c8, rfl, oX2, hX2, e8⟩
  refine ⟨_, _, _, rfl, HC.mono (of22_c (L7.grow e8) R7.even oX2.src nX.symm (L7.new hX2) wX (by omega) (by omega) (by omega)) ?_⟩
  rintro _ H9 ⟨r, x9, lr, rfl, L9, R9, m9, f9⟩
  have n9 := R9.len m9
  have cp : Chain x9.sp.mem p lp 20 := (R5.chain.keep R7.keep nil_noPair).keep R9.keep nil_noPair
  have cq : Chain x9.sp.mem q lq 20 := R7.chain.keep R9.keep nil_noPair
  have cr : Chain x9.sp.mem r lr 20 := R9.chain
  refine ⟨_, _, rfl, ?_⟩
  rw [if_neg (by decide)]
  intro b10 H10 hb10 hH10
  have L10 := L9.grow (Ext.push' hH10)
  refine HC.mono (apply_same (.inl rfl) L10 (push_get hb10 hH10) cp.word cq.word (by rw [cp.typ]; decide)) ?_
  rintro _ H11 ⟨rfl, e11⟩
  have L11 := L10.grow e11
  refine ⟨_, _, rfl, fun b12 H12 hb12 hH12 => ?_⟩
  have L12 := L11.grow (Ext.push' hH12)
  refine HC.mono (apply_same (.inr rfl) L12 (push_get hb12 hH12) cp.word cq.word (by rw [cp.typ]; decide)) ?_
  rintro _ H13 ⟨rfl, e13⟩
  have L13 := L12.grow e13
  obtain ⟨ne1, hn1, E1⟩ := chain_eqs cp cq (by rw [m5]; exact tX) (by rw [m7]; exact wY)
  obtain ⟨ne2, hn2, E2⟩ := chain_eqs cq cp (by rw [m7]; exact tY) (by rw [m5]; exact wX)
  obtain ⟨ne3, hn3, E3⟩ := chain_eqs cp cr (by rw [m5]; exact tX) (by rw [m9]; exact wX)
  rw [m5, m7] at E1
  rw [m7, m5] at E2
  rw [m5, m9, decide_eq_true rfl] at E3
  refine ⟨_, _, rfl, HC.mono (lists_Equal_c L13.view E1 ⟨cp.word, cq.word⟩ (by omega)) ?_⟩
  rintro _ H14 ⟨rfl, e14⟩
  have L14 := L13.grow e14
  refine ⟨_, _, rfl, HC.mono (lists_Equal_c L14.view E2 ⟨cq.word, cp.word⟩ (by omega)) ?_⟩
  rintro _ H15 ⟨rfl, e15⟩
  have L15 := L14.grow e15
  refine ⟨_, _, rfl, HC.mono (lists_Equal_c L15.view E3 ⟨cp.word, cr.word⟩ (by omega)) ?_⟩
  rintro _ H16 ⟨rfl, e16⟩
  have L16 := L15.grow e16
  refine ⟨_, _, rfl, ?_⟩
  rw [if_pos rfl, if_pos rfl, if_pos rfl, if_pos (by
    by_cases h : xs.map fx = ys.map fx
    · rw [decide_eq_true h, decide_eq_true h.symm]
    · rw [decide_eq_false h, decide_eq_false (fun h' => h h'.symm)]), if_pos rfl]
  refine HC.mono (fixes_c (H0 := H) (A.ext L16.ext) (by omega)) ?_
  rintro _ H17 ⟨X3, c17, rfl, oX3, hX3, e17⟩
  have L17 := L16.grow e17
  refine ⟨_, _, _, rfl, HC.mono (fixes_c (H0 := H) (B.ext L17.ext) (by omega)) ?_⟩
  rintro _ H18 ⟨Y3, c18, rfl, oY3, hY3, e18⟩
  refine ⟨_, _, _, rfl, HC.mono (same22_c (oX3.src.ext e18) oY3.src nX.symm nY.symm (by omega)) ?_⟩
  rintro _ H19 ⟨rfl, rfl⟩
  have L19 := L17.grow e18
  refine ⟨_, rfl, ?_⟩
  rw [if_pos rfl]
  have hcond : ¬ (((((if (p == q) = true then (12 : Int) else 4) == 12) && ((if (p == q) = true then (12 : Int) else 4) != 12)) || (((if (p == q) = true then (12 : Int) else 4) == 12) && (!(decide (xs.map fx = ys.map fx))))) = true) := by
    by_cases hpq : p = q
    · have : xs.map fx = ys.map fx := by
        subst hpq
        rw [← m5, ← m7, Chain.det cp cq]
      rw [decide_eq_true this]
      simp [hpq]
    · simp [hpq]
  rw [if_neg hcond]
  intro b20 H20 hb20 hH20
  have e20 : Ext H19 H20 := Ext.push' hH20
  have L20 := L19.grow e20
  refine HC.mono (apply_mem (n := 20) (.inr rfl) L20 (push_get hb20 hH20) (fx_word z) cp (by omega) (fun p hp => plain_fix (fx_tag z))) ?_
  rintro _ H21 ⟨rfl, e21⟩
  have L21 := L20.grow e21
  refine ⟨_, _, rfl, ?_⟩
  rw [if_pos rfl]
  have hkn : (keysOf lp).length = lp.length := by simp [keysOf]
  have hlx : ∀ j (h : j < lp.length), lp[j].2 = fx (xs[j]'(by omega)) := fun j h => by
    have h1 : (lp.map (·.2))[j]? = (xs.map fx)[j]? := by rw [m5]
    rw [List.getElem?_map, List.getElem?_eq_getElem h, List.getElem?_map, List.getElem?_eq_getElem (by omega)] at h1
    simpa using h1
  have hkk : ∀ j (h : j < (keysOf lp).length), (keysOf lp)[j] = (fx (xs[j]'(by omega)), (lp[j]'(by omega)).1) := fun j h => by
    rw [← hlx j (by omega)]; simp [keysOf]
  refine ⟨fun atv i A' => (-1 ≤ i ∧ i < aN) ∧ (atv < 0 → ∀ j (h : j < xs.length), i < j → xs[j] ≠ z) ∧ (0 ≤ atv → i < atv ∧ ∃ h : atv.toNat < xs.length, xs[atv.toNat] = z ∧ ∀ j (h : j < xs.length), i < j → j < atv → xs[j] ≠ z) ∧ (atv < aN) ∧ A' = H21,
    fun _ i _ => (i + 1).toNat, ⟨by rw [w64 (by omega)]; omega, fun _ j h hj => by rw [w64 (by omega)] at hj; omega, fun h => absurd h (by decide), by omega, rfl⟩, ?_⟩
  rintro atv i _ ⟨hi, hn1', hp1, hatl, rfl⟩
  by_cases hge : i ≥ 0
  · rw [if_pos hge]
    have hiN : i.toNat < xs.length := by omega
    obtain ⟨a, rfl, ga⟩ := (A.ext L21.ext).at hiN
    refine ⟨a, rfl, ⟨hge, by omega⟩, _, ga, ?_⟩
    rw [w64 (n := i - 1) (by omega)]
    by_cases hxz : xs[i.toNat] = z
    · rw [if_pos hxz]
      refine ⟨⟨by omega, fun h => by omega, fun _ => ⟨by omega, hiN, hxz, fun j h h1 h2 => by omega⟩, by omega, rfl⟩, by show (i - 1 + 1).toNat < (i + 1).toNat; omega⟩
    · rw [if_neg hxz]
      have hj0 : ∀ j (h : j < xs.length), i - 1 < (j : Int) → ¬ i < (j : Int) → xs[j] ≠ z := fun j h h1 h2 => by
        have : j = i.toNat := by omega
        subst this; exact hxz
      refine ⟨⟨by omega, fun h j hj h1 => ?_, fun h => ?_, hatl, rfl⟩, by show (i - 1 + 1).toNat < (i + 1).toNat; omega⟩
      · by_cases h2 : i < (j : Int)
        · exact hn1' h j hj h2
        · exact hj0 j hj h1 h2
      · obtain ⟨h1, h2, h3, h4⟩ := hp1 h
        refine ⟨by omega, h2, h3, fun j hj h5 h6 => ?_⟩
        by_cases h7 : i < (j : Int)
        · exact h4 j hj h7 h6
        · exact hj0 j hj h5 h7
  rw [if_neg hge]
  by_cases hneg : atv < 0
  · rw [if_pos hneg]
    have hfk : findK (fx z) (keysOf lp) = 4 := findK_none fun pr hpr e => by
      obtain ⟨j, hj, rfl⟩ := List.mem_iff_getElem.1 hpr
      rw [hkk j hj] at e
      exact hn1' hneg j (by omega) (by omega) (fx_inj hz (hx32 _ (List.getElem_mem _)) e).symm
    rw [if_pos (show findK (ishl .u64 (IntKind.wrap .u64 z) 3) (keysOf lp) = 4 from hfk)]
    refine HC.mono awake22_c ?_
    rintro _ H23 ⟨rfl, e23⟩
    exact ⟨_, rfl, hR _ _ ⟨rfl, L21.ext.trans e23⟩⟩
  rw [if_neg hneg]
  obtain ⟨h1, h2, h3, h4⟩ := hp1 (by omega)
  have hat : atv.toNat < lp.length := by omega
  have hfk : findK (ishl .u64 (IntKind.wrap .u64 z) 3) (keysOf lp) = lp[atv.toNat].1 := by
    show findK (fx z) (keysOf lp) = _
    rw [findK_at (i := atv.toNat) (by omega) (by rw [hkk _ (by omega), h3]) (fun j hj e => by
      rw [hkk j (by omega)] at e
      exact h4 j (by omega) (by omega) (by omega) (fx_inj hz (hx32 _ (List.getElem_mem _)) e).symm), hkk _ (by omega)]
  rw [hfk]
  refine HC.mono (lists_List_c L21.view (Chain.drop hat cp) (by simp; omega)) ?_
  rintro _ H24 ⟨e24, ⟨h20, _⟩ | ⟨_, B24, c24, rfl, o24, _⟩⟩
  · exact absurd rfl h20
  have L24 := L21.grow e24
  have hdrop : ((lp.drop atv.toNat).map (·.2)) = (xs.drop atv.toNat).map fx := by rw [List.map_drop, m5, List.map_drop]
  rw [hdrop] at o24
  refine ⟨_, _, _, _, rfl, ?_⟩
  rw [if_pos rfl]
  refine ⟨atv.toNat, aN, by omega, rfl, by omega, by omega, fun sl hsl => ?_⟩
  rw [if_neg (by omega)] at hsl
  have hsl' : Nums H24 .i32 sl (aN - atv.toNat) (xs.drop atv.toNat) := by
    have hN := A.ext L24.ext
    refine ⟨by simp; omega, ?_, fun u hu => A.wf u (List.mem_of_mem_drop hu)⟩
    obtain ⟨a, rfl, _⟩ := hN.at h2
    rw [hsl, Option.map_some, SrcAt_some, Nat.mul_one]
    have h := hN.src
    rw [SrcAt_some] at h
    exact RowAt.sub atv.toNat h (by simp [List.map_drop]; exact List.take_of_length_le (by simp))
  refine HC.mono (fixes_c (H0 := H) hsl' (by omega)) ?_
  rintro _ H25 ⟨X4, c25, rfl, oX4, hX4, e25⟩
  refine ⟨_, _, _, rfl, HC.mono (same22_c (o24.src.ext e25) oX4.src (by simp; omega) (by simp; omega) (by simp; omega)) ?_⟩
  rintro _ H26 ⟨rfl, rfl⟩
  refine ⟨_, rfl, ?_⟩
  rw [decide_eq_true rfl, if_pos rfl]
  refine HC.mono awake22_c ?_
  rintro _ H27 ⟨rfl, e27⟩
  exact ⟨_, rfl, hR _ _ ⟨rfl, (L24.grow e25).ext.trans e27⟩⟩

set_option maxRecDepth 100000 in
theorem lifted (os : Os) (started : os.Started) (H : Type) (enc : TypeId × Value → H) :
    ReturnsInHanded {} Try.checked os 5 .any (Rows.listsSameSpec.pre6 enc Try.prog Try.f5 Rows.listsSameRow.domain false) (Rows.listsSameSpec.post enc Try.prog Try.f5 false true false false) := by
  refine law_lifted (tb := 4) started (by kernel_rfl) Try.func5
    (ChangeSpec.witness6 (enc := enc) (C := Try.checked) false ⟨#[], #[.slice none 0 0, .slice none 0 0, .int .i32 0], []⟩ 8 (by kernel_rfl) (by kernel_rfl) (by kernel_rfl) (by kernel_rfl))
    rfl (by kernel_rfl) rfl Try.underlying4 (fun ds hds => ?_) ?_
  · match ds, hds with
    | [d0, d1, d2], _ => rfl
  intro W base args ds p hval hA _
  rw [Try.params5] at hA hval
  obtain ⟨v0, vs0, d0, ds0, p0, q0, hargs, rfl, rfl, h0, r0⟩ := trodAll_cons hA
  obtain ⟨v1, vs1, d1, ds1, p1, q1, rfl, rfl, rfl, h1, r1⟩ := trodAll_cons r0
  obtain ⟨v2, vs2, d2, ds2, p2, q2, rfl, rfl, rfl, h2, r2⟩ := trodAll_cons r1
  obtain ⟨rfl, rfl, rfl⟩ := trodAll_nil r2
  obtain rfl : args = #[v0, v1, v2] := by cases args; simp_all
  obtain ⟨p0, n0, c0, x0, rfl, w0, u0⟩ := open_numsc Try.underlying22 Try.underlying21 (by kernel_rfl) (B := maxLen) (.inl rfl) (hval 0 22 v0 rfl rfl) h0
  obtain ⟨p1, n1, c1, x1, rfl, w1, u1⟩ := open_nums Try.underlying22 Try.underlying21 (by kernel_rfl) (B := maxLen) (.inl rfl) (hval 1 22 v1 rfl rfl) h1
  obtain ⟨a2, rfl, rfl, rfl, w2⟩ := open_int Try.underlying21 (hval 2 21 v2 rfl rfl) h2
  exact law p0 n0 c0 x0 p1 n1 c1 x1 a2 W.heap w0 u0 w1 u1 (wf_i32 w2)

theorem over : Rows.listsSameRow.holds Try.pinned (OpenSpec.ofChange Rows.listsSameSpec) :=
  OpenClaim.holds_of_wide 5 Try.f5 rfl rfl rfl rfl rfl rfl rfl ⟨rfl, rfl, rfl, rfl, rfl⟩ rfl rfl rfl rfl rfl (by kernel_rfl) Try.func5 (by kernel_rfl)
    (of_decide_eq_true (by kernel_rfl)) (by unfold Func.isWrapper; first | (rw [if_pos (by decide +kernel)]; kernel_rfl) | (rw [if_neg (by decide +kernel)]; exact ⟨rfl, rfl⟩))
    (fun os started H enc _ => lifted os started H enc)

theorem proved : Rows.ListsSameSaid :=
  over
#print axioms proved
end Go.Proofs.Ythlohokmnajpoaa.listsSame
