/- The law ListsAssoc of morainelaw22 holds: called with any arguments it answers true and leaves what it was handed as it was. No condition. -/
import Derived.Test.YthlohokmnajpoaaLaws22
import Derived.Test.YthlohokmnajpoaaL22ListsAssoc
set_option linter.unusedVariables false
set_option linter.unusedSimpArgs false
namespace Go.Proofs.Ythlohokmnajpoaa.listsAssoc
open Go Go.Proofs.Ythlohokmnajpoaa
open Go.ChangeShapes Go.WideShapes Go.ChangeAt Go.RowKit

theorem findK_none {y : Int} : ∀ {l : List (Int × Int)}, (∀ p ∈ l, y ≠ p.1) → findK y l = 4
  | [], _ => rfl
  | p :: l, h => by unfold findK; rw [if_neg (h p (by simp)), findK_none (fun q hq => h q (by simp [hq]))]
theorem findK_at {y : Int} : ∀ {l : List (Int × Int)} {i : Nat} (h : i < l.length), y = l[i].1 → (∀ j (hj : j < i), y ≠ (l[j]'(by omega)).1) → findK y l = l[i].2
  | p :: l, 0, _, he, _ => by unfold findK; rw [if_pos (show y = p.1 from he)]; rfl
  | p :: l, i + 1, h, he, hn => by
    unfold findK
    rw [if_neg (show ¬ y = p.1 from hn 0 (by omega))]
    exact findK_at (l := l) (i := i) (by simpa using h) he (fun j hj => hn (j + 1) (by omega))
theorem Chain.drop {m : Mem} {last : Int} : ∀ {l : List (Int × Int)} {w : Int} {k : Nat} (h : k < l.length), Chain m w l last → Chain m l[k].1 (l.drop k) last
  | pa :: l, w, 0, _, hc => by obtain ⟨rfl, hr⟩ := hc; exact ⟨rfl, hr⟩
  | pa :: l, w, k + 1, h, hc => by
    obtain ⟨rfl, tag, d, hp, hr⟩ := hc
    exact Chain.drop (l := l) (by simpa using h) hr

def AtOf (keys : List Int) (x atv : Int) (i : Nat) : Prop := (atv < 0 → ∀ j (h : j < keys.length), j < i → keys[j] ≠ x) ∧ (0 ≤ atv → atv < i ∧ ∃ h : atv.toNat < keys.length, keys[atv.toNat] = x ∧ ∀ j (h : j < keys.length), j < atv.toNat → keys[j] ≠ x)

theorem law (kB : Option Addr) (kN kC : Nat) (keys : List Int) (x : Int) (H : Array Obj) (A : Nums H .i32 kB kN keys) (_ : kN ≤ maxLen) (hx32 : -2147483648 ≤ x ∧ x ≤ 2147483647) :
    morainelaw22_ListsAssoc.C kB kN kC x H (fun v H' => v = .bool true ∧ Ext H H') := by
  refine HC.via fun R hR => morainelaw22_ListsAssoc.link ?_
  unfold morainelaw22_ListsAssoc.pt
  refine HC.mono (obj_New_c ⟨by decide, by decide⟩) ?_
  rintro _ H1 (⟨hn, _⟩ | ⟨_, b, s, rfl, V1, hs, e1, hy⟩)
  · exact absurd ⟨by decide, by decide⟩ hn
  have L1 : Live H H1 b s := ⟨V1.inv.2.1, V1.inv.2.2, e1, hy⟩
  have hc : s.sp.mem.count = 0 := by subst hs; rfl
  have hv : s.sp.mem.Even := by subst hs; exact even_fresh _
  have hr : s.sp.room = 12800 := by subst hs; exact fresh_room 400
  clear hs V1
  refine ⟨_, _, rfl, ?_⟩
  by_cases hbig : 200 < kN
  · rw [if_pos (by rw [decide_eq_true (show (kN : Int) > 200 by omega)]; simp)]
    refine ⟨fun q A => q = true ∧ Ext H A, ?_, ?_⟩
    · rw [if_pos rfl]
      refine HC.mono awake22_c ?_
      rintro _ H3 ⟨rfl, e3⟩
      exact ⟨_, rfl, rfl, e1.trans e3⟩
    rintro _ H2 ⟨rfl, e2⟩
    exact hR _ _ ⟨rfl, e2⟩
  rw [if_neg (by rw [decide_eq_false (show ¬ (kN : Int) > 200 by omega)]; simp)]
  have hAl := A.len
  have hk32 : ∀ k ∈ keys, -2147483648 ≤ k ∧ k ≤ 2147483647 := fun k hk => wf_i32 (A.wf k hk)
  have all_lt : ∀ i ∈ b.all, i < H1.size := fun i hi => L1.lt hi
  refine ⟨fun B N C atv i A' => (0 ≤ i ∧ i ≤ kN) ∧ ∃ (x' : Hp) (ws : List Int), ws.length = i.toNat ∧ N = ws.length ∧ Live H A' b x' ∧ x'.sp.mem.Even ∧ Own A' 31 1 B N C (wvs ws) ∧ (∀ j ∈ blks B, H1.size ≤ j) ∧ 12800 - i ≤ x'.sp.room ∧ x'.sp.mem.count ≤ i ∧
      (∀ j (h : j < ws.length) (h' : j < keys.length), Pr x'.sp.mem ws[j] 1 (fx keys[j]) (fx (j : Int))) ∧ (∀ j k (hj : j < k) (hk : k < ws.length), ws[j] ≠ ws[k]) ∧ AtOf keys x atv i.toNat ∧ (atv < i) ∧ H1.size ≤ A'.size,
    fun _ _ _ _ i _ => ((kN : Int) - i).toNat, ⟨by omega, s, [], rfl, rfl, L1, hv, by simpa [wvs] using own_nil, by simp, by omega, by omega, by simp, by simp, ⟨fun _ j _ h => by omega, fun h => by omega⟩, by omega, Nat.le_refl _⟩, ?_⟩
  rintro B N C atv i A' ⟨hi, x', ws, hws, rfl, LA, EA, oA, hyA, rA, kA, pA, dA, atA, hat, szA⟩
  by_cases hlt : i < (kN : Int)
  · rw [if_pos hlt]
    have hiN : i.toNat < keys.length := by omega
    obtain ⟨a, rfl, ga⟩ := (A.ext LA.ext).at hiN
    refine ⟨a, rfl, ⟨hi.1, hlt⟩, _, ga, ?_⟩
    refine HC.mono (live_Cons_room LA EA (fx_word keys[i.toNat]) (fx_word i) (by omega) (by omega)) ?_
    rintro _ H5 ⟨w5, x5, rfl, L5, C5, f5, r5⟩
    refine ⟨_, _, rfl, fun b6 H6 hb6 hH6 => ?_⟩
    have e6 : Ext H5 H6 := Ext.push' hH6
    have hsep : ∀ j ∈ blks B, j ∉ b.all := fun j hj h => by have := hyA j hj; have := all_lt j h; omega
    refine own_append (ys := [.int .u64 w5]) ((oA.keep f5 hsep).ext e6) (rowAt_blk (push_get hb6 hH6) _ 0 0 (fun j hj => by simp)) rfl rfl rfl (by omega) ?_
    intro p7 c7 H7 o7 f7 hn7
    have sz5 := f5.size
    have sz6 := e6.size
    have sz7 := f7.size
    have hy7 : ∀ j ∈ blks p7, H1.size ≤ j := fun j hj => by
      rcases hn7 j hj with h | h
      · exact hyA j h
      · omega
    have L7 : Live H H7 b x5 := (L5.grow e6).keep f7 (fun j hj => by have := hyA j hj; have := L1.ext.size; omega) (fun j hj h => hsep j hj h)
    have hs : (i + 1).toNat = i.toNat + 1 := by omega
    have used : ∀ j (h : j < ws.length), x'.sp.mem.used (ws[j] / 8) := fun j h => by
      have hp := pA j h (by omega)
      exact hp.at'.used hp.word
    have fresh : ∀ j (h : j < ws.length), ws[j] ≠ w5 := fun j h e => by
      have h0 := C5.made.fresh 0 (by omega)
      have hu := used j h
      rw [e] at hu
      exact h0 (by simpa using hu)
    have hpr : ∀ j (h : j < (ws ++ [w5]).length) (h' : j < keys.length), Pr x5.sp.mem (ws ++ [w5])[j] 1 (fx keys[j]) (fx (j : Int)) := fun j h h' => by
      rcases Nat.lt_or_ge j ws.length with hj | hj
      · rw [List.getElem_append_left hj]; exact (pA j hj h').keep C5.made.keep
      · have hj' : j = i.toNat := by simp at h; omega
        have ej : (ws ++ [w5])[j] = w5 := by rw [List.getElem_append_right hj]; simp
        have e0 : (i.toNat : Int) = i := by omega
        rw [ej]
        subst hj'
        rw [e0]
        exact C5.pr
    have hds : ∀ j k (hj : j < k) (hk : k < (ws ++ [w5]).length), (ws ++ [w5])[j]'(by omega) ≠ (ws ++ [w5])[k] := fun j k hj hk => by
      have hjl : j < ws.length := by simp at hk; omega
      rw [List.getElem_append_left hjl]
      rcases Nat.lt_or_ge k ws.length with hk' | hk'
      · rw [List.getElem_append_left hk']; exact dA j k hj hk'
      · rw [List.getElem_append_right hk']; simpa using fresh j hjl
    have inv : ∀ atv', AtOf keys x atv' (i.toNat + 1) → atv' < i + 1 → (0 ≤ i + 1 ∧ i + 1 ≤ kN) ∧ ∃ (x' : Hp) (ws' : List Int), ws'.length = (i + 1).toNat ∧ ws.length + 1 = ws'.length ∧ Live H H7 b x' ∧ x'.sp.mem.Even ∧ Own H7 31 1 p7 (ws.length + 1) c7 (wvs ws') ∧ (∀ j ∈ blks p7, H1.size ≤ j) ∧ 12800 - (i + 1) ≤ x'.sp.room ∧ x'.sp.mem.count ≤ i + 1 ∧
        (∀ j (h : j < ws'.length) (h' : j < keys.length), Pr x'.sp.mem ws'[j] 1 (fx keys[j]) (fx (j : Int))) ∧ (∀ j k (hj : j < k) (hk : k < ws'.length), ws'[j] ≠ ws'[k]) ∧ AtOf keys x atv' (i + 1).toNat ∧ (atv' < i + 1) ∧ H1.size ≤ H7.size := fun atv' h1 h2 =>
      ⟨by omega, x5, ws ++ [w5], by simp; omega, by simp, L7, C5.even, by simpa [wvs] using o7, hy7, by omega, by have := C5.made.count; omega, hpr, hds, by rw [hs]; exact h1, h2, by omega⟩
    have hm : ((kN : Int) - (i + 1)).toNat < ((kN : Int) - i).toNat := by omega
    rw [w64 (n := i + 1) (by omega)]
    by_cases hneg : atv < 0
    · rw [if_pos hneg]
      obtain ⟨a', ha', ga'⟩ := (A.ext L7.ext).at hiN
      obtain rfl := Option.some.inj ha'
      refine ⟨⟨hi.1, hlt⟩, _, ga', ?_⟩
      by_cases hkx : keys[i.toNat] = x
      · rw [if_pos hkx]
        refine ⟨inv i ⟨fun h => by omega, fun _ => ⟨by omega, hiN, hkx, fun j h hj => atA.1 hneg j h hj⟩⟩ (by omega), hm⟩
      · rw [if_neg hkx]
        refine ⟨inv atv ⟨fun _ j h hj => ?_, fun h => by omega⟩ (by omega), hm⟩
        rcases Nat.lt_or_ge j i.toNat with h1 | h1
        · exact atA.1 hneg j h h1
        · have : j = i.toNat := by omega
          subst this; exact hkx
    · rw [if_neg hneg]
      refine ⟨inv atv ⟨fun h => absurd h hneg, fun h => ?_⟩ (by omega), hm⟩
      obtain ⟨h1, h2, h3⟩ := atA.2 h
      exact ⟨by omega, h2, h3⟩
  rw [if_neg hlt]
  have hwl : ws.length = kN := by omega
  have hsep : ∀ j ∈ blks B, j ∉ b.all := fun j hj h => by have := hyA j hj; have := all_lt j h; omega
  have hww : ∀ w ∈ ws, IsWord w := fun w hw => by
    obtain ⟨j, hj, rfl⟩ := List.mem_iff_getElem.1 hw
    exact (pA j hj (by omega)).word
  refine HC.mono (of22_c LA EA oA.src rfl hsep hww (by omega) (by omega) (by omega)) ?_
  rintro _ H8 ⟨w, x8, l, rfl, L8, R8, m8, f8⟩
  have n8 := R8.len m8
  have src8 := oA.src.keep f8 hsep
  refine ⟨_, _, rfl, ?_⟩
  rw [if_pos rfl]
  generalize hkl : ((List.range ws.length).map fun j => (fx (keys.getD j 0), ws.getD j 0)) = kl
  have kl_len : kl.length = ws.length := by rw [← hkl]; simp
  have kl_get : ∀ j (h : j < kl.length), kl[j] = (fx (keys[j]'(by omega)), ws[j]'(by omega)) := fun j h => by
    subst hkl
    simp [List.getElem?_eq_getElem (show j < keys.length by omega), List.getElem?_eq_getElem (show j < ws.length by omega)]
  have l_get : ∀ j (h : j < l.length), l[j].2 = ws[j]'(by omega) := fun j h => by
    have h1 : (l.map (·.2))[j]? = ws[j]? := by rw [m8]
    rw [List.getElem?_map, List.getElem?_eq_getElem h, List.getElem?_eq_getElem (by omega)] at h1
    simpa using h1
  have hkey : ∀ (j : Nat) (h : j < l.length), (kl[j]'(by omega)).2 = l[j].2 ∧ ∃ tag d, Pr x8.sp.mem l[j].2 tag (kl[j]'(by omega)).1 d := fun j h => by
    rw [kl_get j (by omega), l_get j h]
    exact ⟨rfl, 1, _, (pA j (by omega) (by omega)).keep R8.keep⟩
  have hfind : findK (fx x) kl = if atv < 0 then 4 else ws.getD atv.toNat 0 := by
    by_cases hneg : atv < 0
    · rw [if_pos hneg]
      refine findK_none fun p hp e => ?_
      obtain ⟨j, hj, rfl⟩ := List.mem_iff_getElem.1 hp
      rw [kl_get j hj] at e
      exact atA.1 hneg j (by omega) (by omega) (fx_inj hx32 (hk32 _ (List.getElem_mem _)) e).symm
    · rw [if_neg hneg]
      obtain ⟨h1, h2, h3, h4⟩ := atA.2 (by omega)
      rw [findK_at (i := atv.toNat) (by omega) (by rw [kl_get _ (by omega), h3]) (fun j hj e => by
        rw [kl_get j (by omega)] at e
        exact h4 j (by omega) hj (fx_inj hx32 (hk32 _ (List.getElem_mem _)) e).symm), kl_get _ (by omega)]
      simp [List.getElem?_eq_getElem (show atv.toNat < ws.length by omega)]
  change findK (ishl .u64 (IntKind.wrap .u64 x) 3) kl = _ at hfind
  refine ⟨fun nv A' => (21 ≤ nv ∧ nv ≤ 24) ∧ Ext H8 A', fun nv _ => (24 - nv).toNat, ⟨by omega, Ext.refl _⟩, ?_⟩
  rintro nv H9 ⟨hnv, e9⟩
  have L9 := L8.grow e9
  have src9 := src8.ext e9
  by_cases hnv3 : nv ≤ 23
  · rw [if_pos hnv3]
    intro b10 H10 hb10 hH10
    have e10 : Ext H9 H10 := Ext.push' hH10
    refine HC.mono (apply_ass (kl := kl) (by omega) (L9.grow e10) (push_get hb10 hH10) (fx_word x) R8.chain (by omega) (by omega) hkey (fun p hp kd => plain_fix (fx_tag x))) ?_
    rintro _ H11 ⟨rfl, e11⟩
    refine ⟨_, _, rfl, ?_⟩
    rw [if_pos rfl, w64 (n := nv + 1) (by omega)]
    have next : ((21 ≤ nv + 1 ∧ nv + 1 ≤ 24) ∧ Ext H8 H11) ∧ (24 - (nv + 1)).toNat < (24 - nv).toNat := ⟨⟨by omega, (e9.trans e10).trans e11⟩, by omega⟩
    by_cases hneg : atv < 0
    · rw [if_pos hneg]
      rw [if_pos hneg] at hfind
      rw [if_pos hfind, if_neg (by omega)]
      exact next
    · rw [if_neg hneg]
      rw [if_neg hneg] at hfind
      obtain ⟨h1, h2, _⟩ := atA.2 (by omega)
      rw [if_pos (by omega)]
      obtain ⟨a, ha, g⟩ := src_word ((src9.ext e10).ext e11) (i := atv.toNat) (by omega)
      refine ⟨a, ha, ⟨by omega, by omega⟩, _, g, ?_⟩
      rw [if_pos (by rw [hfind]; simp [List.getElem?_eq_getElem (show atv.toNat < ws.length by omega)])]
      exact next
  rw [if_neg hnv3]
  by_cases hneg : atv < 0
  · rw [if_pos hneg]
    refine HC.mono awake22_c ?_
    rintro _ H12 ⟨rfl, e12⟩
    exact ⟨_, rfl, hR _ _ ⟨rfl, L9.ext.trans e12⟩⟩
  rw [if_neg hneg]
  obtain ⟨h1, h2, _⟩ := atA.2 (by omega)
  have hatl : atv.toNat < l.length := by omega
  have hatw : atv.toNat < ws.length := by omega
  obtain ⟨a, ha, g⟩ := src_word src9 hatw
  refine ⟨a, ha, ⟨by omega, by omega⟩, _, g, fun b13 H13 hb13 hH13 => ?_⟩
  have e13 : Ext H9 H13 := Ext.push' hH13
  refine HC.mono (apply_mem (n := 18) (.inl rfl) (L9.grow e13) (push_get hb13 hH13) (hww _ (List.getElem_mem _)) R8.chain (by omega) (fun p hp _ hk => absurd rfl hk)) ?_
  rintro _ H14 ⟨rfl, e14⟩
  have L14 := (L9.grow e13).grow e14
  have hkk : ∀ j (h : j < (keysOf l).length), (keysOf l)[j] = ((l[j]'(by simpa [keysOf] using h)).2, (l[j]'(by simpa [keysOf] using h)).1) := fun j h => by simp [keysOf]
  have hkn : (keysOf l).length = l.length := by simp [keysOf]
  have hfm : findK ws[atv.toNat] (keysOf l) = l[atv.toNat].1 := by
    rw [findK_at (i := atv.toNat) (by omega) (by rw [hkk _ (by omega), l_get]) (fun j hj e => by
      rw [hkk j (by omega), l_get j (by omega)] at e
      exact dA j atv.toNat hj hatw e.symm), hkk _ (by omega)]
  rw [hfm]
  have hdrop : ((l.drop atv.toNat).map (·.2)) = ws.drop atv.toNat := by rw [List.map_drop, m8]
  refine ⟨_, _, rfl, HC.mono (lists_List_c L14.view (Chain.drop hatl R8.chain) (by simp; omega)) ?_⟩
  rintro _ H15 ⟨e15, ⟨h20, _⟩ | ⟨_, B15, c15, rfl, o15, _⟩⟩
  · exact absurd rfl h20
  rw [hdrop] at o15
  refine ⟨_, _, _, _, rfl, ?_⟩
  rw [if_pos rfl, if_pos rfl]
  have hoc := oA.le
  refine ⟨atv.toNat, ws.length, by omega, rfl, by omega, by omega, fun sl hsl => ?_⟩
  rw [if_neg (by omega)] at hsl
  simp only [Option.map_some, Nat.mul_one] at hsl
  have src15 : SrcAt H15 sl (wvs (ws.drop atv.toNat)) := by
    have h := ((src9.ext e13).ext e14).ext e15
    rw [ha, SrcAt_some] at h
    rw [hsl, SrcAt_some]
    exact RowAt.sub atv.toNat h (by simp [wvs, List.map_drop]; exact List.take_of_length_le (by simp))
  refine HC.mono (same22_c o15.src src15 (by simp; omega) (by simp) (by simp; omega)) ?_
  rintro _ H16 ⟨rfl, rfl⟩
  refine ⟨_, rfl, ?_⟩
  rw [decide_eq_true rfl, if_pos rfl]
  refine HC.mono awake22_c ?_
  rintro _ H17 ⟨rfl, e17⟩
  exact ⟨_, rfl, hR _ _ ⟨rfl, (L14.grow e15).ext.trans e17⟩⟩

set_option maxRecDepth 100000 in
theorem lifted (os : Os) (started : os.Started) (H : Type) (enc : TypeId × Value → H) :
    ReturnsInHanded {} Try.checked os 4 .any (Rows.listsAssocSpec.pre6 enc Try.prog Try.f4 Rows.listsAssocRow.domain false) (Rows.listsAssocSpec.post enc Try.prog Try.f4 false true false false) := by
  refine law_lifted (tb := 4) started (by kernel_rfl) Try.func4
    (ChangeSpec.witness6 (enc := enc) (C := Try.checked) false ⟨#[], #[.slice none 0 0, .int .i32 0], []⟩ 8 (by kernel_rfl) (by kernel_rfl) (by kernel_rfl) (by kernel_rfl))
    rfl (by kernel_rfl) rfl Try.underlying4 (fun ds hds => ?_) ?_
  · match ds, hds with
    | [d0, d1], _ => rfl
  intro W base args ds p hval hA _
  rw [Try.params4] at hA hval
  obtain ⟨v0, vs0, d0, ds0, p0, q0, hargs, rfl, rfl, h0, r0⟩ := trodAll_cons hA
  obtain ⟨v1, vs1, d1, ds1, p1, q1, rfl, rfl, rfl, h1, r1⟩ := trodAll_cons r0
  obtain ⟨rfl, rfl, rfl⟩ := trodAll_nil r1
  obtain rfl : args = #[v0, v1] := by cases args; simp_all
  obtain ⟨p0, n0, c0, x0, rfl, w0, u0⟩ := open_nums Try.underlying22 Try.underlying21 (by kernel_rfl) (B := maxLen) (.inl rfl) (hval 0 22 v0 rfl rfl) h0
  obtain ⟨a1, rfl, rfl, rfl, w1⟩ := open_int Try.underlying21 (hval 1 21 v1 rfl rfl) h1
  exact law p0 n0 c0 x0 a1 W.heap w0 u0 (wf_i32 w1)

theorem over : Rows.listsAssocRow.holds Try.pinned (OpenSpec.ofChange Rows.listsAssocSpec) :=
  OpenClaim.holds_of_wide 4 Try.f4 rfl rfl rfl rfl rfl rfl rfl ⟨rfl, rfl, rfl, rfl, rfl⟩ rfl rfl rfl rfl rfl (by kernel_rfl) Try.func4 (by kernel_rfl)
    (of_decide_eq_true (by kernel_rfl)) (by unfold Func.isWrapper; first | (rw [if_pos (by decide +kernel)]; kernel_rfl) | (rw [if_neg (by decide +kernel)]; exact ⟨rfl, rfl⟩))
    (fun os started H enc _ => lifted os started H enc)

theorem proved : Rows.ListsAssocSaid :=
  over
#print axioms proved
end Go.Proofs.Ythlohokmnajpoaa.listsAssoc
