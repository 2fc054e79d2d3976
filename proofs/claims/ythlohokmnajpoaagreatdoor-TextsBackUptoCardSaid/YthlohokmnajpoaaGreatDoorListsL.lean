/-
  lists.List on a heap: the cars of what hangs together. Proves nothing of any one statement.
-/
import Derived.Test.YthlohokmnajpoaaGreatDoorLists
set_option linter.unusedVariables false
set_option linter.unusedSimpArgs false
namespace Go.Proofs.YthlohokmnajpoaaGreatDoor
open Go

theorem Chain.nth {m : Mem} {w last : Int} : ∀ {l : List (Int × Int)}, Chain m w l last → ∀ (k : Nat) (h : k < l.length), ∃ tag d, Pr m l[k].1 tag l[k].2 d
  | [], _, k, h => by simp at h
  | pa :: l, hc, 0, _ => by obtain ⟨_, tag, d, hp, _⟩ := hc; exact ⟨tag, d, hp⟩
  | pa :: l, hc, k + 1, h => by
    obtain ⟨_, tag, d, _, hr⟩ := hc
    exact Chain.nth hr k (by simpa using h)
theorem setBlk_at {H : Array Obj} {i : Nat} {o o' : Obj} (h : H[i]? = some o) : (setBlk H i o')[i]? = some o' := setBlk_get (lt_size h)
theorem lists_List_c {H : Array Obj} {hv : Option Addr} {o : Option (Blk × Hp)} {w last : Int} {l : List (Int × Int)} (V : View H hv o) (hch : Chain (mof o) w l last) (hl : l.length ≤ 30000) :
    lists_List.C hv w H (fun v H' => Ext H H' ∧ ((last ≠ 20 ∧ v = .tuple #[.slice none 0 0, .bool false]) ∨
      (last = 20 ∧ ∃ B c, v = .tuple #[.slice B l.length c, .bool true] ∧ Own H' 35 1 B l.length c (wvs (l.map (·.2))) ∧ ∀ i ∈ blks B, H.size ≤ i))) := by
  refine HC.via fun R hR => lists_List.link ?_
  unfold lists_List.pt
  intro b H1 hb hH1 b2 H2 hb2 hH2 b3 H3 hb3 hH3 b4 H4 hb4 hH4
  have e1 : Ext H H1 := Ext.push' hH1
  have e2 : Ext H1 H2 := Ext.push' hH2
  have e3 : Ext H2 H3 := Ext.push' hH3
  have e4 : Ext H3 H4 := Ext.push' hH4
  have g := ((e2.trans e3).trans e4).get (push_get hb hH1)
  have g2 := (e3.trans e4).get (push_get hb2 hH2)
  have g3 := e4.get (push_get hb3 hH3)
  have g4 := push_get hb4 hH4
  have s1 : H1.size = H.size + 1 := by rw [hH1]; simp
  have s2 : H2.size = H1.size + 1 := by rw [hH2]; simp
  have s3 : H3.size = H2.size + 1 := by rw [hH3]; simp
  have s4 : H4.size = H3.size + 1 := by rw [hH4]; simp
  refine ⟨hv, by rw [hat_blk g]; rfl, ?_⟩
  refine HC.mono lists_pairs_c ?_
  rintro v H5 ⟨p, q, rfl, gp, gq, hpq, hp, hq, e5⟩
  refine ⟨rfl, ?_⟩
  intro rc lp H6 hlp hH6 vY hY
  have s5 := e5.size
  have hq5 := lt_size gq
  have hp5 := lt_size gp
  have hl6 : H6[lp]? = some (rc .ready none) := push_get (by simp; omega) hH6
  have e56 : Ext (H5.push (.deferred (some []))) H6 := Ext.push' hH6
  have hd6 : H6[H5.size]? = some (.deferred (some [])) := e56.get (push_get rfl rfl)
  have e6 : Ext H5 H6 := (Ext.push H5 _).trans e56
  have s6 : H6.size = H5.size + 2 := by rw [hH6]; simp
  have e04 : Ext H H4 := ((e1.trans e2).trans e3).trans e4
  have e06 : Ext H H6 := (e04.trans e5).trans e6
  have vw : ∀ {A : Array Obj}, Ext H A → ∃ o', View A hv o' ∧ mof o' = mof o := fun e => ⟨o, V.ext e, rfl⟩
  refine FE.of2 (enters_of Tryz.func161 (by kernel_rfl) rfl) rfl (HC.mono (pairs_loop (fun k A => ListInv H hv (mof o) rc .ready none lp H5.size b b2 b3 b4 H6.size ((l.map (·.2)).take k) A) hch (by omega) (e6.get gp) (e6.get gq) hpq ?_ (fun k A h => h.view) ?_ ?_ ?_) (fun v A h => h.2))
  · exact ⟨vw e06, hl6, hd6, (e5.trans e6).get g, (e5.trans e6).get g2, (e5.trans e6).get g3, ⟨none, 0, by simpa using (e5.trans e6).get g4, by simpa using own_nil, by simp⟩, e06⟩
  · intro k A A' h f
    have hq' : ∀ i ∈ [q], H.size ≤ i := fun i hi => by simp at hi; omega
    exact h.keep f (fun i hi => by simp at hi; subst hi; omega) (vw (h.ext.fr_trans f hq'))
  · intro k hk A hI
    refine hY l[k].1 false A _ hI.loop ⟨hI.loop, fun H8 hH8 => ?_⟩
    rw [if_neg (by decide)]
    have f8 : Fr [lp] A H8 := by rw [hH8]; exact Fr.set
    have q8 : H8[lp]? = some (rc .busy none) := by rw [hH8]; exact setBlk_at hI.loop
    have eA8 : Ext H H8 := hI.ext.fr_trans f8 (fun i hi => by simp at hi; omega)
    obtain ⟨tag, d, hpr⟩ := hch.nth k hk
    refine ⟨hv, by rw [hat_blk (f8.get (by simp; omega) hI.gb)]; rfl, ?_⟩
    refine HC.mono (obj_Car_c (V.ext eA8) hpr.word) ?_
    rintro _ H11 ⟨rfl, e11⟩
    rw [hpr.half.1, if_pos rfl, show l[k].1 / 8 + 0 = l[k].1 / 8 by omega, hpr.car]
    refine ⟨_, _, rfl, ?_⟩
    obtain ⟨B, c, gr, how, hy⟩ := hI.row
    have hkl : ((l.map (·.2)).take k).length = k := by simp; omega
    have gr8 := f8.get (b := b4) (by simp; omega) gr
    refine ⟨B, _, c, by rw [hat_blk (e11.get gr8)]; rfl, ?_⟩
    intro b5 H12 hb5 hH12
    have e12 : Ext H11 H12 := Ext.push' hH12
    have how12 := (how.keep f8 (fun i hi => by have := hy i hi; simp; omega)).ext (e11.trans e12)
    refine own_append (ys := wvs [l[k].2]) how12 (rowAt_blk (push_get hb5 hH12) _ 0 0 (fun j hj => by simp)) (by simp) (allOne_wvs _) rfl (by omega) ?_
    intro p' c' H13 how13 f13 hnew
    have hb4B : b4 ∉ blks B := fun hi => by have := hy _ hi; omega
    have gr13 := f13.get hb4B ((e11.trans e12).get gr8)
    obtain ⟨hcp, hpu⟩ := box_set (vs := [.slice p' (((l.map (·.2)).take k).length + 1) c']) gr13 rfl rfl
    refine ⟨hcp, fun H14 hH14 => ?_⟩
    obtain ⟨g14, f14⟩ := hpu H14 hH14
    have hlB : lp ∉ blks B := fun hi => by have := hy _ hi; omega
    have q14 : H14[lp]? = some (rc .busy none) := f14.get (by simp; omega) (f13.get hlB ((e11.trans e12).get q8))
    refine ⟨q14, true, rfl, fun _ => ?_, fun h => by cases h⟩
    have f15 : Fr [lp] H14 (setBlk H14 lp (rc .ready none)) := Fr.set
    have F : Fr (lp :: b4 :: blks B) A (setBlk H14 lp (rc .ready none)) :=
      ((((f8.mono (fun i hi _ => by simp at hi; simp [hi])).trans (e11.trans e12).fr).trans (f13.mono (fun i hi _ => by simp [hi]))).trans (f14.mono (fun i hi _ => by simp at hi; simp [hi]))).trans (f15.mono (fun i hi _ => by simp at hi; simp [hi]))
    have nin : ∀ x, x < H6.size → x ≠ lp → x ≠ b4 → x ∉ lp :: b4 :: blks B := fun x h1 h2 h3 h => by
      rcases List.mem_cons.1 h with h | h
      · exact h2 h
      rcases List.mem_cons.1 h with h | h
      · exact h3 h
      have := hy x h; omega
    have hD := lt_size hI.dfr
    have s06 := e06.size
    have eE : Ext H (setBlk H14 lp (rc .ready none)) := hI.ext.fr_trans F (fun i hi => by
      rcases List.mem_cons.1 hi with h | h
      · omega
      rcases List.mem_cons.1 h with h | h
      · omega
      have := hy i h; omega)
    have ht : (l.map (·.2)).take (k + 1) = (l.map (·.2)).take k ++ [l[k].2] := by
      rw [List.take_succ_eq_append_getElem (by simpa using hk)]; simp
    have h12 : H6.size ≤ H12.size := by have := f8.size; have := e11.size; have := e12.size; have := lt_size hI.loop; omega
    have hyp : ∀ i ∈ blks p', H6.size ≤ i := fun i hi => by
      rcases hnew i hi with h | h
      · exact hy i h
      · omega
    refine ⟨⟨vw eE, setBlk_at q14, F.get (nin _ (by omega) (by omega) (by omega)) hI.dfr, F.get (nin _ (by omega) (by omega) (by omega)) hI.gb, F.get (nin _ (by omega) (by omega) (by omega)) hI.gb2, F.get (nin _ (by omega) (by omega) (by omega)) hI.gb3, ?_, eE⟩,
      F.2 p (by omega) (nin _ (by omega) (by omega) (by omega)), F.2 q (by omega) (nin _ (by omega) (by omega) (by omega))⟩
    rw [ht, List.length_append]
    refine ⟨p', c', f15.get (by simp; omega) g14, ?_, hyp⟩
    have h14 := (how13.keep f14 (fun i hi => by have := hyp i hi; simp; omega)).keep f15 (fun i hi => by have := hyp i hi; simp; omega)
    simpa [wvs] using h14
  · intro A hI
    have hfull : (l.map (·.2)).take l.length = l.map (·.2) := List.take_of_length_le (by simp)
    rw [hfull] at hI
    have hD := lt_size hI.dfr
    refine hY last true A _ hI.loop ⟨hI.loop, fun H8 hH8 => ?_⟩
    rw [if_pos rfl]
    have f8 : Fr [lp] A H8 := by rw [hH8]; exact Fr.set
    have q8 : H8[lp]? = some (rc .busy none) := by rw [hH8]; exact setBlk_at hI.loop
    obtain ⟨B, c, gr, how, hy⟩ := hI.row
    have hkl : (l.map (·.2)).length = l.length := by simp
    have hnB : ∀ x, x < H6.size → x ∉ blks B := fun x h hi => by have := hy _ hi; omega
    have s06 := e06.size
    by_cases h20 : last = 20
    · rw [if_pos h20]
      refine ⟨q8, false, rfl, .inr (.inr ⟨setBlk_at q8, fun H16 hH16 => ?_⟩)⟩
      have f9 : Fr [lp] A H16 := by rw [hH16]; exact (f8.trans Fr.set).trans Fr.set
      have gr16 := f9.get (b := b4) (by simp; omega) gr
      refine ⟨B, _, c, by rw [hat_blk gr16]; rfl, ?_⟩
      obtain ⟨hc2, hp2⟩ := box_set (vs := [.slice B (l.map (·.2)).length c]) (f9.get (b := b2) (by simp; omega) hI.gb2) rfl rfl
      refine ⟨hc2, fun H21 hH21 => ?_⟩
      obtain ⟨g21, f21⟩ := hp2 H21 hH21
      obtain ⟨hc3, hp3⟩ := box_set (vs := [.bool true]) (f21.get (b := b3) (by simp; omega) (f9.get (b := b3) (by simp; omega) hI.gb3)) rfl rfl
      refine ⟨hc3, fun H22 hH22 => ?_⟩
      obtain ⟨g22, f22⟩ := hp3 H22 hH22
      have gd : H22[H5.size]? = some (.deferred (some [])) := f22.get (by simp; omega) (f21.get (by simp; omega) (f9.get (by simp; omega) hI.dfr))
      refine ⟨gd, ?_⟩
      have fd : Fr [H5.size] H22 (H22.setIfInBounds H5.size (.deferred none)) := Fr.set
      have F : Fr [lp, b2, b3, H5.size] A (H22.setIfInBounds H5.size (.deferred none)) :=
        (((f9.mono (fun i hi _ => by simp at hi; simp [hi])).trans (f21.mono (fun i hi _ => by simp at hi; simp [hi]))).trans (f22.mono (fun i hi _ => by simp at hi; simp [hi]))).trans (fd.mono (fun i hi _ => by simp at hi; simp [hi]))
      refine ⟨B, _, c, by rw [hat_blk (fd.get (b := b2) (by simp; omega) (f22.get (b := b2) (by simp; omega) g21))]; rfl, true, by rw [hat_blk (fd.get (b := b3) (by simp; omega) g22)]; rfl, hR _ _ ⟨hI.ext.fr_trans F (fun i hi => by simp at hi; omega), .inr ⟨h20, B, c, by rw [hkl], ?_, fun i hi => by have := hy i hi; omega⟩⟩⟩
      rw [hkl] at how
      exact how.keep F (fun i hi => by have := hy i hi; simp; omega)
    · rw [if_neg h20]
      obtain ⟨hc2, hp2⟩ := box_set (vs := [.slice none 0 0]) (f8.get (b := b2) (by simp; omega) hI.gb2) rfl rfl
      refine ⟨hc2, fun H9 hH9 => ?_⟩
      obtain ⟨g9, f9⟩ := hp2 H9 hH9
      obtain ⟨hc3, hp3⟩ := box_set (vs := [.bool false]) (f9.get (b := b3) (by simp; omega) (f8.get (b := b3) (by simp; omega) hI.gb3)) rfl rfl
      refine ⟨hc3, fun H10 hH10 => ?_⟩
      obtain ⟨g10, f10⟩ := hp3 H10 hH10
      have q10 : H10[lp]? = some (rc .busy none) := f10.get (by simp; omega) (f9.get (by simp; omega) q8)
      refine ⟨q10, false, rfl, .inr (.inl ⟨setBlk_at q10, fun H16 hH16 => ?_⟩)⟩
      have f16 : Fr [lp] H10 H16 := by rw [hH16]; exact Fr.trans Fr.set Fr.set
      have gd : H16[H5.size]? = some (.deferred (some [])) := f16.get (by simp; omega) (f10.get (by simp; omega) (f9.get (by simp; omega) (f8.get (by simp; omega) hI.dfr)))
      refine ⟨gd, ?_⟩
      have fd : Fr [H5.size] H16 (H16.setIfInBounds H5.size (.deferred none)) := Fr.set
      have F : Fr [lp, b2, b3, H5.size] A (H16.setIfInBounds H5.size (.deferred none)) :=
        ((((f8.mono (fun i hi _ => by simp at hi; simp [hi])).trans (f9.mono (fun i hi _ => by simp at hi; simp [hi]))).trans (f10.mono (fun i hi _ => by simp at hi; simp [hi]))).trans (f16.mono (fun i hi _ => by simp at hi; simp [hi]))).trans (fd.mono (fun i hi _ => by simp at hi; simp [hi]))
      refine ⟨none, 0, 0, by rw [hat_blk (fd.get (b := b2) (by simp; omega) (f16.get (b := b2) (by simp; omega) (f10.get (b := b2) (by simp; omega) g9)))]; rfl, false, by rw [hat_blk (fd.get (b := b3) (by simp; omega) (f16.get (b := b3) (by simp; omega) g10))]; rfl, hR _ _ ⟨hI.ext.fr_trans F (fun i hi => by simp at hi; omega), .inl ⟨h20, rfl⟩⟩⟩
end Go.Proofs.YthlohokmnajpoaaGreatDoor
