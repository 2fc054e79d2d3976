/- The law FrameRow of morainelaw20 holds where what is handed in is of bulk 1048576 at most: called with any such arguments it answers true and leaves what it was handed as it was. No other condition. -/
import Derived.Test.YtfohlkiikppefaaRows20
import Derived.Test.YtfohlkiikppefaaL20FrameRow
import Derived.Test.YtfohlkiikppefaaArg
namespace Go.Proofs.Ytfohlkiikppefaa.frameRow
open Go Go.Proofs.Ytfohlkiikppefaa
open Go.ChangeShapes Go.WideShapes Go.ChangeAt Go.RowKit
set_option linter.unusedVariables false

/-- a number's word -/
def sh (x : Int) : Int := ishl .u64 (IntKind.wrap .u64 x) 3
theorem sh_word (x : Int) : IsWord (sh x) := by
  unfold sh
  rw [ishl_u64 3 3 rfl (by decide)]
  exact ⟨by omega, by omega⟩
theorem mask_bd (x : Int) : 0 ≤ iand .i64 x 65535 ∧ iand .i64 x 65535 ≤ 65535 := by
  unfold iand
  have h : (BitVec.ofInt IntKind.i64.bits x &&& BitVec.ofInt IntKind.i64.bits 65535).toNat ≤ 65535 := by
    rw [BitVec.toNat_and]
    exact Nat.le_trans Nat.and_le_right (by decide)
  rw [w64 (by omega)]
  omega

/-- a row of frames with their fields, the n-th ahead -/
def RowN (m : Mem) (ent : Nat → Int × List Int) : Nat → Int → Prop
  | 0, w => w = 20
  | n + 1, w => ∃ p, Thing m w 8 0 ((ent n).1 * 8 :: p :: (ent n).2) ∧ RowN m ent n p
theorem RowN.keep {m m' : Mem} {ent : Nat → Int × List Int} (hn : ∀ k, (m.seg k).n ≤ 64) (kp : Keep m m') : ∀ {n : Nat} {w : Int}, RowN m ent n w → RowN m' ent n w
  | 0, _, h => h
  | _ + 1, _, ⟨p, h1, h2⟩ => ⟨p, h1.keep hn kp, RowN.keep hn kp h2⟩

theorem law (p1 : Option Addr) (n1 c1 : Nat) (kinds : List Int) (p2 : Option Addr) (n2 c2 : Nat) (fields : List NumsOf) (H : Array Obj) (A1 : Nums H .i64 p1 n1 kinds) (_ : n1 ≤ 1048576) (A2 : Numss 1048576 H .u32 p2 n2 fields) (_ : n2 ≤ 1048576) :
    morainelaw20_FrameRow.C p1 n1 c1 p2 n2 c2 H (fun v H' => v = .bool true ∧ Ext H H') := by
  refine HC.via fun R hR => morainelaw20_FrameRow.link ?_
  unfold morainelaw20_FrameRow.pt
  refine HC.mono (obj_New_c (by decide)) ?_
  rintro _ H1 (⟨hn, _⟩ | ⟨_, b, x, rfl, V1, hx, e1, hy⟩)
  · exact absurd (by decide) hn
  refine ⟨_, _, rfl, ?_⟩
  have L1 : Live H H1 b x := ⟨V1.inv.2.1, V1.inv.2.2, e1, hy⟩
  have f1 : x.sp.mem.free = 400 := by subst hx; rfl
  have k1 : x.sp.mem.count = 0 := by subst hx; rfl
  clear hx V1
  by_cases hbig : 100 < n1 ∨ 100 < n2
  · rw [if_pos (by simp; omega)]
    refine ⟨fun s H' => s = true ∧ Ext H H', ?_, ?_⟩
    · rw [if_pos rfl]
      refine HC.mono awake20_c ?_
      rintro _ H2 ⟨rfl, e2⟩
      exact ⟨true, rfl, rfl, e1.trans e2⟩
    · rintro s H2 ⟨rfl, e2⟩
      exact hR _ _ ⟨rfl, e2⟩
  rw [if_neg (by simp; omega)]
  have l1 := A1.len
  have l2 := A2.len
  generalize hent : (fun j : Nat => (iand .i64 (kinds.getD j 0) 65535, ((fields.getD j ⟨none, 0, 0, []⟩).xs.map sh))) = ent
  refine ⟨fun row i H' => (0 ≤ i ∧ i ≤ n1 ∧ i ≤ n2) ∧ IsWord row ∧ ∃ x' : Hp, Live H H' b x' ∧ RowN x'.sp.mem ent i.toNat row ∧ (row = 20 ∨ x'.sp.mem.typ row = 8) ∧ 400 - i ≤ x'.sp.mem.free ∧ x'.sp.mem.count ≤ i ∧ (∀ j : Nat, j < i.toNat → (ent j).2.length ≤ 50),
    fun _ i _ => (n1 - i).toNat, ⟨by omega, by decide, x, L1, rfl, .inl rfl, by omega, by omega, fun j hj => by simp at hj⟩, ?_⟩
  rintro row i H4 ⟨hi, hrow, x4, L4, rn, hr8, f4, k4, h50⟩
  have entAt : ∀ j : Nat, ∀ (h1 : j < kinds.length) (h2 : j < fields.length), ent j = (iand .i64 kinds[j] 65535, fields[j].xs.map sh) := fun j h1 h2 => by
    rw [← hent]; simp only; rw [getD_at h1, getD_at h2]
  by_cases hlt : i < (n1 : Int) ∧ i < (n2 : Int)
  · rw [if_pos (by simp [hlt])]
    have hi1 : i.toNat < kinds.length := by omega
    have hi2 : i.toNat < fields.length := by omega
    obtain ⟨fa, hfa, hfat, hfn, hfb⟩ := (A2.ext L4.ext).at hi2
    subst hfa
    have hfl := hfn.len
    refine ⟨fun lB lN lC k H' => (0 ≤ k ∧ k ≤ fields[i.toNat].n) ∧ (lN : Int) = k ∧ Live H H' b x4 ∧ Own H' 29 1 lB lN lC (wvs ((fields[i.toNat].xs.take k.toNat).map sh)) ∧ (∀ q, q ∈ blks lB → H.size ≤ q ∧ q ∉ b.all),
      fun _ _ _ k _ => (fields[i.toNat].n - k).toNat, ⟨by omega, rfl, L4, own_nil, by simp⟩, ?_⟩
    rintro lB lN lC k H5 ⟨hk, hlN, L5, o5, hq5⟩
    obtain ⟨fa', hfa', hfat5, hfn5, _⟩ := (A2.ext L5.ext).at hi2
    cases hfa'
    refine ⟨fa, rfl, ⟨hi.1, by omega⟩, _, _, _, hfat5, ?_⟩
    by_cases hkl : k < (fields[i.toNat].n : Int)
    · rw [if_pos hkl]
      have hkN : k.toNat < fields[i.toNat].xs.length := by omega
      obtain ⟨ga, hga, hgat⟩ := hfn5.at hkN
      refine ⟨⟨hi.1, by omega⟩, _, _, _, hfat5, ga, hga, ⟨hk.1, hkl⟩, _, hgat, ?_⟩
      intro b6 H6 hb6 hH6
      have e6 : Ext H5 H6 := Ext.push' hH6
      rw [w64 (n := k + 1) (by omega)]
      refine own_append (m := 1) (ys := [.int .u64 (sh fields[i.toNat].xs[k.toNat])]) (o5.ext e6) (rowAt_blk (push_get hb6 hH6) _ 0 0 (fun j hj => by have h0 : j = 0 := (by simp at hj; omega); subst h0; rfl)) rfl rfl rfl (by omega) ?_
      intro q c' H7 o7 f7 hq7
      have L6 := L5.grow e6
      have e7 : Ext H H7 := L6.ext.fr_trans f7 (fun j hj => (hq5 j hj).1)
      refine ⟨⟨by omega, by omega, ⟨L6.at'.keep f7 (fun j hj => (hq5 j hj).2), L6.ok, e7, L6.young⟩, ?_, fun j hj => ?_⟩, by show ((fields[i.toNat].n : Int) - (k + 1)).toNat < ((fields[i.toNat].n : Int) - k).toNat; omega⟩
      · have et : wvs ((fields[i.toNat].xs.take k.toNat).map sh) ++ [.int .u64 (sh fields[i.toNat].xs[k.toNat])] = wvs ((fields[i.toNat].xs.take (k + 1).toNat).map sh) := by
          rw [show (k + 1).toNat = k.toNat + 1 by omega, List.take_succ_eq_append_getElem hkN, List.map_append, wvs, wvs, List.map_append]; rfl
        rw [← et]; exact o7
      · have hb8 := L6.at'.lt
        rcases hq7 j hj with h | h
        · exact hq5 j h
        · refine ⟨by have := L6.ext.size; omega, fun hb => ?_⟩
          have := hb8 j hb
          omega
    rw [if_neg hkl]
    have hke : k.toNat = fields[i.toNat].xs.length := by omega
    rw [hke, List.take_length] at o5
    by_cases h50' : (lN : Int) > 50
    · rw [if_pos h50']
      refine HC.mono awake20_c ?_
      rintro _ H8 ⟨rfl, e8⟩
      exact ⟨true, rfl, hR _ _ ⟨rfl, L5.ext.trans e8⟩⟩
    rw [if_neg h50']
    obtain ⟨ka, hka, hkat⟩ := (A1.ext L5.ext).at hi1
    subst hka
    refine ⟨ka, rfl, ⟨hi.1, by omega⟩, _, hkat, ?_⟩
    have hmb := mask_bd kinds[i.toNat]
    have hww : ∀ u ∈ fields[i.toNat].xs.map sh, IsWord u := fun u hu => by
      obtain ⟨z, _, rfl⟩ := List.mem_map.1 hu; exact sh_word z
    refine HC.mono (live_Push (ws := fields[i.toNat].xs.map sh) L5 ⟨hmb.1, by omega⟩ hrow hr8 o5.src (by simp; omega) hww (by simp; omega) (by omega) (by omega)) ?_
    rintro _ H9 ⟨w9, x9, rfl, L9, m9, _⟩
    refine ⟨_, _, rfl, ?_⟩
    rw [if_pos rfl, w64 (n := i + 1) (by omega)]
    have hs : (i + 1).toNat = i.toNat + 1 := by omega
    refine ⟨⟨by omega, m9.thing.word, x9, L9, ?_, .inr m9.thing.typ, by have := m9.made.free; omega, by have := m9.made.count; omega, fun j hj => ?_⟩, by show ((n1 : Int) - (i + 1)).toNat < ((n1 : Int) - i).toNat; omega⟩
    · rw [hs]
      refine ⟨row, ?_, rn.keep L5.n64 m9.made.keep⟩
      rw [entAt _ hi1 hi2]; exact m9.thing
    · by_cases hj' : j < i.toNat
      · exact h50 j hj'
      · have : j = i.toNat := by omega
        subst this
        rw [entAt _ hi1 hi2]; simp; omega
  rw [if_neg (by simp; omega)]
  have hmin : (if (n2 : Int) < (n1 : Int) then (n2 : Int) else (n1 : Int)) = i := by
    by_cases h : (n2 : Int) < (n1 : Int)
    · rw [if_pos h]; omega
    · rw [if_neg h]; omega
  rw [hmin, w64 (n := i - 1) (by omega)]
  have hm : mof (some (b, x4)) = x4.sp.mem := rfl
  refine ⟨fun u j H' => (-1 ≤ j ∧ j < i) ∧ IsWord u ∧ Live H H' b x4 ∧ RowN x4.sp.mem ent (j + 1).toNat u, fun _ j _ => (j + 1).toNat, ⟨by omega, hrow, L4, by rw [show (i - 1 + 1) = i by omega]; exact rn⟩, ?_⟩
  rintro u j H10 ⟨hj, huw, L10, ru⟩
  by_cases hpos : j ≥ 0
  case neg =>
    rw [if_neg hpos]
    have hj1 : j = -1 := by omega
    subst hj1
    have hu : u = 20 := ru
    subst hu
    refine HC.mono (frame_Next_c L10.view (by decide)) ?_
    rintro _ H16 ⟨rfl, e16⟩
    refine ⟨_, _, rfl, ?_⟩
    have hno : (mof (some (b, x4))).frameNext 20 = (0, 3) := by
      unfold Mem.frameNext
      rw [if_neg (fun h => by have := h.1; rw [nothing_typ nil_not] at this; exact absurd this (by decide))]
    rw [hno, if_pos rfl, if_pos rfl]
    refine HC.mono awake20_c ?_
    rintro _ H17 ⟨rfl, e17⟩
    exact ⟨true, rfl, hR _ _ ⟨rfl, (L10.ext.trans e16).trans e17⟩⟩
  rw [if_pos hpos]
  rw [show (j + 1).toNat = j.toNat + 1 by omega] at ru
  obtain ⟨nx, th, rnx⟩ := ru
  have hj1 : j.toNat < kinds.length := by omega
  have hj2 : j.toNat < fields.length := by omega
  have hl50 := h50 j.toNat (by omega)
  rw [entAt _ hj1 hj2] at th hl50
  have hmb := mask_bd kinds[j.toNat]
  refine HC.mono (frame_Kind_c L10.view th.word) ?_
  rintro _ H11 ⟨rfl, e11⟩
  refine ⟨_, _, rfl, ?_⟩
  rw [hm, th.frameKind ⟨hmb.1, by omega⟩, if_pos rfl]
  have L11 := L10.grow e11
  obtain ⟨ka, hka, hkat⟩ := (A1.ext L11.ext).at hj1
  subst hka
  refine ⟨ka, rfl, ⟨hpos, by omega⟩, _, hkat, ?_⟩
  rw [if_pos rfl]
  obtain ⟨fa, hfa, hfat, hfn, _⟩ := (A2.ext L11.ext).at hj2
  subst hfa
  have hfl := hfn.len
  refine ⟨fa, rfl, ⟨hpos, by omega⟩, _, _, _, hfat, ?_⟩
  refine HC.mono (frame_Fields_c L11.view th.word) ?_
  rintro _ H12 ⟨rfl, e12⟩
  have L12 := L11.grow e12
  have hfc : x4.sp.mem.fields u = (fields[j.toNat].n : Int) := by
    unfold Mem.fields
    rw [if_pos (th.is (by simp <;> omega)), th.len]; simp; omega
  refine ⟨_, rfl, ⟨by rw [addr_add0]; exact e12.hat hfat, trivial⟩, ?_⟩
  rw [hm, hfc, if_pos rfl]
  simp at hl50
  refine ⟨fun nv H' => (0 ≤ nv ∧ nv ≤ fields[j.toNat].n) ∧ Live H H' b x4, fun nv _ => (fields[j.toNat].n - nv).toNat, ⟨by omega, L12⟩, ?_⟩
  rintro nv H13 ⟨hnv, L13⟩
  obtain ⟨fa', hfa', hfat13, hfn13, _⟩ := (A2.ext L13.ext).at hj2
  cases hfa'
  refine ⟨⟨hpos, by omega⟩, _, _, _, hfat13, ?_⟩
  by_cases hnl : nv < (fields[j.toNat].n : Int)
  · rw [if_pos hnl]
    refine HC.mono (frame_Field_c L13.view th.word ⟨by omega, by omega⟩) ?_
    rintro _ H14 ⟨rfl, e14⟩
    have L14 := L13.grow e14
    have hF0 : x4.sp.mem.fieldE u 8 (nv + 2) = 0 := th.field_in ⟨by omega, by simp <;> omega⟩
    have hnN : nv.toNat < fields[j.toNat].xs.length := by omega
    have hG : x4.sp.mem.get (u / 8 + 1 + (nv + 2)) = sh fields[j.toNat].xs[nv.toNat] := by
      have := th.get (nv.toNat + 2) (by simp <;> omega)
      rw [show u / 8 + 1 + ((nv.toNat + 2 : Nat) : Int) = u / 8 + 1 + (nv + 2) by omega] at this
      rw [this]; simp
    rw [hm, if_pos (th.is (by simp <;> omega)), if_neg (by rw [hfc]; omega), if_pos hF0, hF0, hG]
    refine ⟨_, _, rfl, ?_⟩
    rw [if_pos rfl]
    obtain ⟨fa', hfa', hfat14, hfn14, _⟩ := (A2.ext L14.ext).at hj2
    cases hfa'
    obtain ⟨ga, hga, hgat⟩ := hfn14.at hnN
    refine ⟨⟨hpos, by omega⟩, _, _, _, hfat14, ga, hga, ⟨hnv.1, hnl⟩, _, hgat, ?_⟩
    rw [if_pos (by rfl), w64 (n := nv + 1) (by omega)]
    exact ⟨⟨by omega, L14⟩, by show ((fields[j.toNat].n : Int) - (nv + 1)).toNat < ((fields[j.toNat].n : Int) - nv).toNat; omega⟩
  rw [if_neg hnl]
  refine HC.mono (frame_Next_c L13.view th.word) ?_
  rintro _ H15 ⟨rfl, e15⟩
  refine ⟨_, _, rfl, ?_⟩
  rw [hm, th.frameNext, if_pos rfl, w64 (n := j - 1) (by omega)]
  have hnxw : IsWord nx := by have := L13.view.word (u / 8 + 1 + 1); rw [hm] at this; have h2 := th.get 1 (by simp); simp at h2; rw [h2] at this; exact this
  refine ⟨⟨by omega, hnxw, L13.grow e15, by rw [show (j - 1 + 1).toNat = j.toNat by omega]; exact rnx⟩, by show (j - 1 + 1).toNat < (j + 1).toNat; omega⟩

set_option maxRecDepth 100000 in
theorem lifted (os : Os) (started : os.Started) (H : Type) (enc : TypeId × Value → H) (F : Stop.Interp) :
    ReturnsInHanded {} Try.checked os 4 .any ((Rows.OpenSpec.upto Rows.frameRowSpec).pre6 enc Try.prog Try.f4 Rows.frameRowUptoRow.domain false) (((Rows.OpenSpec.upto Rows.frameRowSpec).at F).post enc Try.prog Try.f4 false true false false) := by
  refine law_lifted_upto (tb := 4) started (by kernel_rfl) Try.func4
    (OpenSpec.witness (enc := enc) (C := Try.checked) (s := Rows.OpenSpec.upto Rows.frameRowSpec) (k := Rows.uptoSmall) rfl false ⟨#[], #[.slice none 0 0, .slice none 0 0], []⟩ 8 (by kernel_rfl) (by kernel_rfl) (by kernel_rfl)
      (x := ([.nil, .nil], [], [])) (by kernel_rfl) rfl (by kernel_rfl))
    rfl (by kernel_rfl) rfl Try.underlying4 (fun ds hds => ?_) ?_
  · match ds, hds with
    | [d0, d1], _ => rfl
  intro W base args ds p hval hA hA2
  rw [Try.params4] at hA hval
  obtain ⟨v0, vs0, d0, ds0, p0, q0, hargs, rfl, rfl, h0, r0⟩ := trodAll_cons hA
  obtain ⟨v1, vs1, d1, ds1, p1, q1, rfl, rfl, rfl, h1, r1⟩ := trodAll_cons r0
  obtain ⟨rfl, rfl, rfl⟩ := trodAll_nil r1
  obtain rfl : args = #[v0, v1] := by cases args; simp_all
  obtain ⟨p0, n0, c0, x0, rfl, w0, u0⟩ := open_nums Try.underlying37 Try.underlying3 (by kernel_rfl) (B := 1048576) (.inr (Nat.le_trans (bulk_part (by simp)) hA2)) (hval 0 37 v0 rfl rfl) h0
  obtain ⟨p1, n1, c1, x1, rfl, w1, u1⟩ := open_numss Try.underlying38 Try.underlying40 Try.underlying41 (by kernel_rfl) (by kernel_rfl) (B := 1048576) (.inr (Nat.le_trans (bulk_part (by simp)) hA2)) (hval 1 38 v1 rfl rfl) h1
  exact law p0 n0 c0 x0 p1 n1 c1 x1 W.heap w0 u0 w1 u1

theorem over : Rows.frameRowUptoRow.holds Try.pinned (Rows.OpenSpec.upto Rows.frameRowSpec) :=
  OpenClaim.holds_of_cond 4 Try.f4 rfl rfl rfl rfl rfl rfl rfl ⟨rfl, rfl, rfl, rfl, rfl⟩ rfl rfl rfl rfl rfl (by kernel_rfl) Try.func4 (by kernel_rfl)
    (of_decide_eq_true (by kernel_rfl)) (by unfold Func.isWrapper; first | (rw [if_pos (by decide +kernel)]; kernel_rfl) | (rw [if_neg (by decide +kernel)]; exact ⟨rfl, rfl⟩))
    (fun os started H enc _ F => lifted os started H enc F)

theorem proved : Rows.FrameRowUptoSaid :=
  over
#print axioms proved
end Go.Proofs.Ytfohlkiikppefaa.frameRow
