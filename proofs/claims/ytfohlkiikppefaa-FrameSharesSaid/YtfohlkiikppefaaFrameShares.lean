/- The law FrameShares of morainelaw20 holds: called with any arguments it answers true and leaves what it was handed as it was. No condition. -/
import Derived.Test.YtfohlkiikppefaaRows20
import Derived.Test.YtfohlkiikppefaaL20row
import Derived.Test.YtfohlkiikppefaaL20FrameShares
import Derived.Test.YtfohlkiikppefaaArg
namespace Go.Proofs.Ytfohlkiikppefaa.frameShares
open Go Go.Proofs.Ytfohlkiikppefaa
open Go.ChangeShapes Go.WideShapes Go.ChangeAt Go.RowKit
set_option linter.unusedVariables false

theorem ishl3_word (x : Int) : IsWord (ishl .u64 (IntKind.wrap .u64 x) 3) := by
  rw [ishl_u64 3 3 rfl (by decide)]
  exact ⟨by omega, by omega⟩

theorem row_c {H0 H : Array Obj} {b : Blk} {x : Hp} {p : Option Addr} {n c : Nat} {l : List Int} {w : Int} (L : Live H0 H b x) (A : Nums H0 .u16 p n l) (hl : n ≤ 60) (hw : Rowish x.sp.mem w) (hf : (n : Int) ≤ x.sp.mem.free) (hc : x.sp.mem.count ≤ 1000) :
    morainelaw20_row.C (some ⟨b.h, 0, none⟩) p n c w H (fun v H' => ∃ (w' : Int) (x' : Hp), v = .int .u64 w' ∧ Live H0 H' b x' ∧ Chain x'.sp.mem l.reverse w' w ∧ Keep x.sp.mem x'.sp.mem ∧ Rowish x'.sp.mem w' ∧ x.sp.mem.free - n ≤ x'.sp.mem.free ∧ x'.sp.mem.count ≤ x.sp.mem.count + n) := by
  refine HC.via fun R hR => morainelaw20_row.link ?_
  unfold morainelaw20_row.pt
  refine ⟨fun u i H' => (0 ≤ i ∧ i ≤ n) ∧ ∃ x' : Hp, Live H0 H' b x' ∧ Chain x'.sp.mem (l.take i.toNat).reverse u w ∧ Keep x.sp.mem x'.sp.mem ∧ Rowish x'.sp.mem u ∧ x.sp.mem.free - i ≤ x'.sp.mem.free ∧ x'.sp.mem.count ≤ x.sp.mem.count + i,
    fun _ i _ => (n - i).toNat, ⟨by omega, x, L, rfl, Keep.refl _, hw, by omega, by omega⟩, ?_⟩
  rintro u i H1 ⟨hi, x', L1, ch, kp, hu, hf1, hc1⟩
  have hlen := A.len
  by_cases hlt : i < (n : Int)
  case neg =>
    rw [if_neg hlt]
    have e : l.take i.toNat = l := List.take_of_length_le (by omega)
    rw [e] at ch
    exact hR _ _ ⟨u, x', rfl, L1, ch, kp, hu, by omega, by omega⟩
  rw [if_pos hlt]
  have hiN : i.toNat < l.length := by omega
  obtain ⟨a, rfl, ha⟩ := (A.ext L1.ext).at hiN
  refine ⟨a, rfl, ⟨hi.1, hlt⟩, _, ha, ?_⟩
  intro b2 H2 hb2 hH2
  have hk := wf_u16 (A.wf _ (List.getElem_mem hiN))
  rw [w64 (n := l[i.toNat]) (by omega), w64 (n := i + 1) (by omega)]
  have hww : ∀ v ∈ [ishl .u64 (IntKind.wrap .u64 i) 3], IsWord v := fun v hv => by rw [List.mem_singleton.1 hv]; exact ishl3_word i
  refine HC.mono (live_Push (ws := [ishl .u64 (IntKind.wrap .u64 i) 3]) (L1.grow (Ext.push' hH2)) (by omega) hu.1 hu.2 (rowAt_blk (push_get hb2 hH2) _ 0 0 (fun j hj => by simp)) rfl hww (by simp) (by omega) (by omega)) ?_
  rintro _ H3 ⟨w3, x3, rfl, L3, m3, _⟩
  refine ⟨_, _, rfl, ⟨by omega, x3, L3, ?_, kp.trans m3.made.keep, ⟨m3.thing.word, .inr m3.thing.typ⟩, by have := m3.made.free; omega, by have := m3.made.count; omega⟩, by show ((n : Int) - (i + 1)).toNat < ((n : Int) - i).toNat; omega⟩
  have et : (l.take (i + 1).toNat).reverse = l[i.toNat] :: (l.take i.toNat).reverse := by
    rw [show (i + 1).toNat = i.toNat + 1 by omega, List.take_succ_eq_append_getElem hiN, List.reverse_append]; rfl
  rw [et]
  exact ⟨u, _, m3.thing, ch.keep L1.n64 m3.made.keep⟩

/-- where the row that is gone down stands -/
def Stand (m : Mem) (tail l : List Int) (t : Int) (i : Int) (w : Int) : Prop :=
  if i + 1 ≤ tail.length then Chain m (tail.take (i + 1).toNat).reverse w 20 ∧ (i + 1 = tail.length → w = t) else Chain m (l.take (i + 1 - tail.length).toNat).reverse w t

theorem take_rev {l : List Int} {i : Nat} (h : i < l.length) : (l.take (i + 1)).reverse = l[i] :: (l.take i).reverse := by
  rw [List.take_succ_eq_append_getElem h, List.reverse_append]; rfl
theorem Stand.step {m : Mem} {tail l : List Int} {t i w : Int} (h : Stand m tail l t i w) (ht : Chain m tail.reverse t 20) (h0 : 0 ≤ i) (h1 : i < ((tail ++ l).length : Int)) :
    ∃ (p : Int) (f : List Int), Thing m w 8 0 ((tail ++ l).getD i.toNat 0 * 8 :: p :: f) ∧ Stand m tail l t (i - 1) p ∧ (i + 1 = tail.length → w = t) := by
  rw [List.length_append] at h1
  unfold Stand at h
  by_cases hi : i + 1 ≤ tail.length
  · rw [if_pos hi] at h
    have hiN : i.toNat < tail.length := by omega
    rw [show (i + 1).toNat = i.toNat + 1 by omega, take_rev hiN] at h
    obtain ⟨⟨p, f, h2, h3⟩, h4⟩ := h
    refine ⟨p, f, ?_, ?_, h4⟩
    · have hlt : i.toNat < (tail ++ l).length := by rw [List.length_append]; omega
      rw [getD_at hlt, List.getElem_append_left hiN]; exact h2
    · unfold Stand
      rw [if_pos (by omega)]
      exact ⟨by rw [show (i - 1 + 1).toNat = i.toNat by omega]; exact h3, fun h => by omega⟩
  · rw [if_neg hi] at h
    have hiN : (i - tail.length).toNat < l.length := by omega
    rw [show (i + 1 - tail.length).toNat = (i - tail.length).toNat + 1 by omega, take_rev hiN] at h
    obtain ⟨p, f, h2, h3⟩ := h
    refine ⟨p, f, ?_, ?_, fun h => by omega⟩
    · have hlt : i.toNat < (tail ++ l).length := by rw [List.length_append]; omega
      have e : (tail ++ l).getD i.toNat 0 = l[(i - tail.length).toNat] := by
        rw [getD_at hlt, List.getElem_append_right (by omega)]
        congr 1; omega
      rw [e]
      exact h2
    · unfold Stand
      by_cases hb : i - 1 + 1 ≤ tail.length
      · rw [if_pos hb]
        have e0 : (i - tail.length).toNat = 0 := by omega
        rw [e0] at h3
        have hp : p = t := h3
        subst hp
        refine ⟨?_, fun _ => rfl⟩
        rw [show (i - 1 + 1).toNat = tail.length by omega, List.take_length]
        exact ht
      · rw [if_neg hb, show (i - 1 + 1 - tail.length).toNat = (i - tail.length).toNat by omega]
        exact h3

theorem allOne_u16 : ∀ xs : List Int, allOne (xs.map (Value.int .u16)) = true
  | [] => rfl
  | w :: ws => by show (true && allOne (ws.map (Value.int .u16))) = true; rw [allOne_u16 ws]; rfl

theorem law (p1 : Option Addr) (n1 c1 : Nat) (one : List Int) (p2 : Option Addr) (n2 c2 : Nat) (other : List Int) (p3 : Option Addr) (n3 c3 : Nat) (tail : List Int) (H : Array Obj) (A1 : Nums H .u16 p1 n1 one) (A2 : Nums H .u16 p2 n2 other) (A3 : Nums H .u16 p3 n3 tail) :
    morainelaw20_FrameShares.C p1 n1 c1 p2 n2 c2 p3 n3 c3 H (fun v H' => v = .bool true ∧ Ext H H') := by
  refine HC.via fun R hR => morainelaw20_FrameShares.link ?_
  unfold morainelaw20_FrameShares.pt
  refine HC.mono (obj_New_c (by decide)) ?_
  rintro _ H1 (⟨hn, _⟩ | ⟨_, b, x, rfl, V1, hx, e1, hy⟩)
  · exact absurd (by decide) hn
  refine ⟨_, _, rfl, ?_⟩
  have L1 : Live H H1 b x := ⟨V1.inv.2.1, V1.inv.2.2, e1, hy⟩
  have f1 : x.sp.mem.free = 400 := by subst hx; rfl
  have k1 : x.sp.mem.count = 0 := by subst hx; rfl
  clear hx V1
  by_cases hbig : 60 < n1 ∨ 60 < n2 ∨ 60 < n3
  · rw [if_pos (by simp; omega)]
    refine ⟨fun s H' => s = true ∧ Ext H H', ?_, ?_⟩
    · rw [if_pos rfl]
      refine HC.mono awake20_c ?_
      rintro _ H2 ⟨rfl, e2⟩
      exact ⟨true, rfl, rfl, e1.trans e2⟩
    · rintro s H2 ⟨rfl, e2⟩
      exact hR _ _ ⟨rfl, e2⟩
  rw [if_neg (by simp; omega)]
  have l3 := A3.len
  refine HC.mono (row_c L1 A3 (by omega) ⟨by decide, .inl rfl⟩ (by omega) (by omega)) ?_
  rintro _ H4 ⟨t, x4, rfl, L4, ct, _, rt, f4, k4⟩
  refine ⟨_, rfl, ?_⟩
  refine HC.mono (row_c L4 A1 (by omega) rt (by omega) (by omega)) ?_
  rintro _ H5 ⟨wa, x5, rfl, L5, ca, kp5, ra, f5, k5⟩
  refine ⟨_, rfl, ?_⟩
  have rt5 : Rowish x5.sp.mem t := ⟨rt.1, by
    rcases rt.2 with h | h
    · exact .inl h
    · cases hz : tail.reverse with
      | nil => rw [hz] at ct; exact .inl ct
      | cons k ks => rw [hz] at ct; obtain ⟨p, f, h1, _⟩ := ct; exact .inr (h1.keep L4.n64 kp5).typ⟩
  refine HC.mono (row_c L5 A2 (by omega) rt5 (by omega) (by omega)) ?_
  rintro _ H6 ⟨wb, x6, rfl, L6, cb, kp6, rb, _, _⟩
  refine ⟨_, rfl, ?_⟩
  have ca6 := ca.keep L5.n64 kp6
  have ct6 := (ct.keep L4.n64 kp5).keep L5.n64 kp6
  refine ⟨fun nv H' => (0 ≤ nv ∧ nv ≤ 2) ∧ Live H H' b x6, fun nv _ => (2 - nv).toNat, ⟨by omega, L6⟩, ?_⟩
  rintro nv H7 ⟨hnv, L7⟩
  by_cases hlt : nv < 2
  case neg =>
    rw [if_neg hlt]
    refine HC.mono awake20_c ?_
    rintro _ H8 ⟨rfl, e8⟩
    exact ⟨true, rfl, hR _ _ ⟨rfl, L7.ext.trans e8⟩⟩
  rw [if_pos hlt]
  refine ⟨fun p n c w H' => H' = H7 ∧ ∃ l, Nums H .u16 p n l ∧ n ≤ 60 ∧ Chain x6.sp.mem l.reverse w t, ?_, ?_⟩
  · by_cases h1 : nv = 1
    · rw [if_pos h1]; exact ⟨rfl, other, A2, by omega, cb⟩
    · rw [if_neg h1]; exact ⟨rfl, one, A1, by omega, ca6⟩
  rintro p n c w H8 ⟨rfl, l, A, hn60, cw⟩
  have ll := A.len
  intro b9 H9 hb9 hH9
  have e9 : Ext H8 H9 := Ext.push' hH9
  have L9 := L7.grow e9
  have y9 := L7.ext.size
  refine own_append (n := 0) (xs := []) (ys := tail.map (Value.int .u16)) (h := ⟨rfl, #[], push_get hb9 hH9, rfl, Nat.le_refl _, rfl, fun j hj => by simp at hj⟩) (A3.ext L9.ext).src (by simp; omega) (allOne_u16 _) rfl (by omega) ?_
  intro q cq H10 o10 fr10 hq
  have e10 : Ext H H10 := L9.ext.fr_trans fr10 (fun i hi => by simp at hi; omega)
  have L10 : Live H H10 b x6 := ⟨L9.at'.keep fr10 (fun i hi hb => by simp at hi; have := L7.at'.lt i hb; omega), L9.ok, e10, L9.young⟩
  refine own_append (ys := l.map (Value.int .u16)) o10 (A.ext e10).src (by simp; omega) (allOne_u16 _) rfl (by omega) ?_
  intro q2 cq2 H11 o11 fr11 hq2
  have e11 : Ext H H11 := e10.fr_trans fr11 (fun i hi => by
    rcases hq i hi with h | h
    · simp at h; omega
    · have := L9.ext.size; omega)
  have L11 : Live H H11 b x6 := ⟨L10.at'.keep fr11 (fun i hi hb => by
    have hb8 := L7.at'.lt i hb
    have := e9.size
    rcases hq i hi with h | h
    · simp at h; omega
    · omega), L10.ok, e11, L10.young⟩
  have hall : [] ++ tail.map (Value.int .u16) ++ l.map (Value.int .u16) = (tail ++ l).map (Value.int .u16) := by simp
  rw [hall] at o11
  refine ⟨fun u i H' => (-1 ≤ i ∧ i < (tail ++ l).length) ∧ Live H H' b x6 ∧ Ext H11 H' ∧ Stand x6.sp.mem tail l t i u, fun _ i _ => (i + 1).toNat, ?_, ?_⟩
  · rw [w64 (by omega)]
    refine ⟨by rw [List.length_append]; omega, L11, Ext.refl _, ?_⟩
    unfold Stand
    by_cases h0 : n = 0
    · rw [if_pos (by omega)]
      have hl0 : l = [] := List.length_eq_zero_iff.1 (by omega)
      subst hl0
      have hwt : w = t := cw
      subst hwt
      refine ⟨?_, fun _ => rfl⟩
      rw [List.take_of_length_le (by omega)]; exact ct6
    · rw [if_neg (by omega), List.take_of_length_le (by omega)]; exact cw
  rintro u i H12 ⟨hi, L12, e12, hst⟩
  by_cases hpos : i ≥ 0
  case neg =>
    rw [if_neg hpos]
    have hi1 : i = -1 := by omega
    subst hi1
    unfold Stand at hst
    rw [if_pos (by omega)] at hst
    have hu : u = 20 := hst.1
    rw [if_pos hu, w64 (n := nv + 1) (by omega)]
    exact ⟨⟨by omega, L12⟩, by show (2 - (nv + 1)).toNat < (2 - nv).toNat; omega⟩
  rw [if_pos hpos]
  obtain ⟨nx, f, th, hst', hut⟩ := hst.step ct6 hpos hi.2
  have hiN : i.toNat < (tail ++ l).length := by omega
  have hgd : (tail ++ l).getD i.toNat 0 = (tail ++ l)[i.toNat] := getD_at hiN 0
  rw [hgd] at th
  have hkw : 0 ≤ (tail ++ l)[i.toNat] ∧ (tail ++ l)[i.toNat] ≤ 65535 := by
    rcases List.mem_append.1 (List.getElem_mem hiN) with h | h
    · exact wf_u16 (A3.wf _ h)
    · exact wf_u16 (A.wf _ h)
  have hm : mof (some (b, x6)) = x6.sp.mem := rfl
  refine HC.mono (frame_Kind_c L12.view th.word) ?_
  rintro _ H13 ⟨rfl, e13⟩
  refine ⟨_, _, rfl, ?_⟩
  rw [hm, th.frameKind (by omega), if_pos rfl]
  obtain ⟨qa, rfl, hqa⟩ := (o11.ext (e12.trans e13)).at (j := i.toNat) (v := .int .u16 (tail ++ l)[i.toNat]) (by rw [List.getElem?_map, List.getElem?_eq_getElem hiN]; rfl)
  rw [List.length_append] at hi
  refine ⟨qa, rfl, ⟨hpos, by omega⟩, _, by rw [Nat.mul_one]; exact hqa, ?_⟩
  rw [w64 (n := (tail ++ l)[i.toNat]) (by omega), w64 (n := (n3 : Int) - 1) (by omega)]
  have hcond : ¬ (((((tail ++ l)[i.toNat] != (tail ++ l)[i.toNat])) || ((decide (i < (n3 : Int)) && (i == (n3 : Int) - 1)) && (u != t))) = true) := by
    simp
    intro _ h2
    exact hut (by omega)
  rw [if_neg hcond]
  have L13 := L12.grow e13
  refine HC.mono (frame_Next_c L13.view th.word) ?_
  rintro _ H14 ⟨rfl, e14⟩
  refine ⟨_, _, rfl, ?_⟩
  rw [hm, th.frameNext, if_pos rfl, w64 (n := i - 1) (by omega)]
  refine ⟨⟨by rw [List.length_append]; omega, L13.grow e14, e12.trans (e13.trans e14), hst'⟩, by show (i - 1 + 1).toNat < (i + 1).toNat; omega⟩

set_option maxRecDepth 100000 in
theorem lifted (os : Os) (started : os.Started) (H : Type) (enc : TypeId × Value → H) :
    ReturnsInHanded {} Try.checked os 3 .any (Rows.frameSharesSpec.pre6 enc Try.prog Try.f3 Rows.frameSharesRow.domain false) (Rows.frameSharesSpec.post enc Try.prog Try.f3 false true false false) := by
  refine law_lifted (tb := 4) started (by kernel_rfl) Try.func3
    (ChangeSpec.witness6 (enc := enc) (C := Try.checked) false ⟨#[], #[.slice none 0 0, .slice none 0 0, .slice none 0 0], []⟩ 8 (by kernel_rfl) (by kernel_rfl) (by kernel_rfl) (by kernel_rfl))
    rfl (by kernel_rfl) rfl Try.underlying4 (fun ds hds => ?_) ?_
  · match ds, hds with
    | [d0, d1, d2], _ => rfl
  intro W base args ds p hval hA _
  rw [Try.params3] at hA hval
  obtain ⟨v0, vs0, d0, ds0, p0, q0, hargs, rfl, rfl, h0, r0⟩ := trodAll_cons hA
  obtain ⟨v1, vs1, d1, ds1, p1, q1, rfl, rfl, rfl, h1, r1⟩ := trodAll_cons r0
  obtain ⟨v2, vs2, d2, ds2, p2, q2, rfl, rfl, rfl, h2, r2⟩ := trodAll_cons r1
  obtain ⟨rfl, rfl, rfl⟩ := trodAll_nil r2
  obtain rfl : args = #[v0, v1, v2] := by cases args; simp_all
  obtain ⟨p0, n0, c0, x0, rfl, w0⟩ := open_nums Try.underlying22 Try.underlying33 (by kernel_rfl) (hval 0 22 v0 rfl rfl) h0
  obtain ⟨p1, n1, c1, x1, rfl, w1⟩ := open_nums Try.underlying22 Try.underlying33 (by kernel_rfl) (hval 1 22 v1 rfl rfl) h1
  obtain ⟨p2, n2, c2, x2, rfl, w2⟩ := open_nums Try.underlying22 Try.underlying33 (by kernel_rfl) (hval 2 22 v2 rfl rfl) h2
  exact law p0 n0 c0 x0 p1 n1 c1 x1 p2 n2 c2 x2 W.heap w0 w1 w2

theorem over : Rows.frameSharesRow.holds Try.pinned (OpenSpec.ofChange Rows.frameSharesSpec) :=
  OpenClaim.holds_of_wide 3 Try.f3 rfl rfl rfl rfl rfl rfl rfl ⟨rfl, rfl, rfl, rfl, rfl⟩ rfl rfl rfl rfl rfl (by kernel_rfl) Try.func3 (by kernel_rfl)
    (of_decide_eq_true (by kernel_rfl)) (by unfold Func.isWrapper; first | (rw [if_pos (by decide +kernel)]; kernel_rfl) | (rw [if_neg (by decide +kernel)]; exact ⟨rfl, rfl⟩))
    (fun os started H enc _ => lifted os started H enc)

theorem proved : Rows.FrameSharesSaid :=
  over
#print axioms proved
end Go.Proofs.Ytfohlkiikppefaa.frameShares
