/-
  lists: find. Proves nothing of any one statement.
-/
import Derived.Test.YthlohokmnajpoaaListsT
set_option linter.unusedVariables false
set_option linter.unusedSimpArgs false
namespace Go.Proofs.Ythlohokmnajpoaa
open Go

def findK (x : Int) : List (Int × Int) → Int
  | [] => 4
  | p :: l => if x = p.1 then p.2 else findK x l
set_option maxRecDepth 100000 in
theorem lists_find_c {H : Array Obj} {hv : Option Addr} {o : Option (Blk × Hp)} {w kind x : Int} {cars : Bool} {l kl : List (Int × Int)} (V : View H hv o) (hch : Chain (mof o) w l 20) (hl : l.length ≤ 19000) (hx : IsWord x) (hkl : kl.length = l.length)
    (hkey : ∀ (k : Nat) (h : k < l.length), (cars = false → kl[k].1 = l[k].2 ∧ kl[k].2 = l[k].1) ∧ (cars = true → kl[k].2 = l[k].2 ∧ ∃ tag d, Pr (mof o) l[k].2 tag kl[k].1 d))
    (hpl : ∀ (k : Nat) (h : k < l.length), Plain (mof o) kind x kl[k].1) :
    lists_find.C hv kind x w cars H (fun v H' => v = .tuple #[.int .u64 (findK x kl), .int .i64 0] ∧ Ext H H') := by
  refine HC.via fun R hR => lists_find.link ?_
  unfold lists_find.pt
  intro b H1 hb hH1 b2 H2 hb2 hH2 b3 H3 hb3 hH3 b4 H4 hb4 hH4 b5 H5 hb5 hH5 b6 H6 hb6 hH6
  have e1 : Ext H H1 := Ext.push' hH1
  have e2 : Ext H1 H2 := Ext.push' hH2
  have e3 : Ext H2 H3 := Ext.push' hH3
  have e4 : Ext H3 H4 := Ext.push' hH4
  have e5 : Ext H4 H5 := Ext.push' hH5
  have e6 : Ext H5 H6 := Ext.push' hH6
  have s1 : H1.size = H.size + 1 := by rw [hH1]; simp
  have s2 : H2.size = H1.size + 1 := by rw [hH2]; simp
  have s3 : H3.size = H2.size + 1 := by rw [hH3]; simp
  have s4 : H4.size = H3.size + 1 := by rw [hH4]; simp
  have s5 : H5.size = H4.size + 1 := by rw [hH5]; simp
  have s6 : H6.size = H5.size + 1 := by rw [hH6]; simp
  have e26 := (((e2.trans e3).trans e4).trans e5).trans e6
  have e36 := ((e3.trans e4).trans e5).trans e6
  have e46 := (e4.trans e5).trans e6
  have e06 : Ext H H6 := e1.trans e26
  have bx6 : Bx [(b, .cells #[.pointer hv] 23 (0, 0)), (b2, .cells #[.int .i64 kind] 3 (0, 0)), (b3, .cells #[.int .u64 x] 31 (0, 0)), (b4, .cells #[.bool cars] 4 (0, 0)), (b5, .cells #[.int .u64 0] 31 (0, 0)), (b6, .cells #[.int .i64 0] 24 (0, 0))] H6 :=
    .cons (e26.get (push_get hb hH1)) (.cons (e36.get (push_get hb2 hH2)) (.cons (e46.get (push_get hb3 hH3)) (.cons ((e5.trans e6).get (push_get hb4 hH4)) (.cons (e6.get (push_get hb5 hH5)) (.cons (push_get hb6 hH6) .nil)))))
  refine ⟨hv, by rw [hat_blk (bx6.nth 0 rfl)]; rfl, HC.mono (lists_List_c (V.ext e06) hch (by omega)) ?_⟩
  rintro _ H7 ⟨e7, ⟨h20, _⟩ | ⟨_, B7, c7, rfl, _, _⟩⟩
  · exact absurd rfl h20
  refine ⟨_, _, _, _, rfl, ?_⟩
  rw [if_pos rfl]
  have bx7 := bx6.ext e7
  have s7 := e7.size
  refine ⟨hv, by rw [hat_blk (bx7.nth 0 rfl)]; rfl, fun b7 H8 hb7 hH8 b8 H9 hb8 hH9 => ?_⟩
  have e8 : Ext H7 H8 := Ext.push' hH8
  have e9 : Ext H8 H9 := Ext.push' hH9
  have s8 : H8.size = H7.size + 1 := by rw [hH8]; simp
  have s9 : H9.size = H8.size + 1 := by rw [hH9]; simp
  obtain ⟨c10, p10⟩ := box_set (vs := [.pointer (some ⟨b7, 0, none⟩)]) (push_get hb8 hH9) rfl rfl
  refine ⟨c10, fun H10 hH10 => ?_⟩
  obtain ⟨g8, f10⟩ := p10 H10 hH10
  have e710 : Ext H7 H10 := (e8.trans e9).fr_trans f10 (fun i hi => by simp at hi; omega)
  have g7 := f10.get (b := b7) (by simp; omega) (e9.get (push_get hb7 hH8))
  have bx10 := bx7.ext e710
  have s10 := f10.size
  have e010 : Ext H H10 := (e06.trans e7).trans e710
  refine ⟨hv, by rw [hat_blk (bx10.nth 0 rfl)]; rfl, HC.mono lists_pairs_c ?_⟩
  rintro v H11 ⟨p, q, rfl, gp, gq, hpq, hp, hq, e11⟩
  refine ⟨rfl, ?_⟩
  intro rc lp H12 hlp hH12 vY hY
  have s11 := e11.size
  have hp11 := lt_size gp
  have hq11 := lt_size gq
  have e1112 : Ext (H11.push (.deferred (some []))) H12 := Ext.push' hH12
  have hl12 : H12[lp]? = some (rc .ready none) := push_get (by simp; omega) hH12
  have hd12 : H12[H11.size]? = some (.deferred (some [])) := e1112.get (push_get rfl rfl)
  have e12 : Ext H11 H12 := (Ext.push H11 _).trans e1112
  have s12 : H12.size = H11.size + 2 := by rw [hH12]; simp
  have e012 : Ext H H12 := (e010.trans e11).trans e12
  have vw : ∀ {A : Array Obj}, Ext H A → ∃ o', View A hv o' ∧ mof o' = mof o := fun e => ⟨o, V.ext e, rfl⟩
  refine FE.of2 (enters_of Try.func47 (by kernel_rfl) rfl) rfl (HC.mono (pairs_loop (fun k A => (∃ cnt : Int, A[b7]? = some (.cells #[.pointer hv, .int .i64 cnt] 67 (0, 0)) ∧ 0 ≤ cnt ∧ cnt ≤ k) ∧ findK x (kl.drop k) = findK x kl ∧ Ext H A ∧ H12.size ≤ A.size ∧
      Bx [(lp, rc .ready none), (H11.size, .deferred (some [])), (b, .cells #[.pointer hv] 23 (0, 0)), (b2, .cells #[.int .i64 kind] 3 (0, 0)), (b3, .cells #[.int .u64 x] 31 (0, 0)), (b4, .cells #[.bool cars] 4 (0, 0)), (b5, .cells #[.int .u64 0] 31 (0, 0)), (b6, .cells #[.int .i64 0] 24 (0, 0)), (b8, .cells #[.pointer (some ⟨b7, 0, none⟩)] 65 (0, 0))] A)
    hch (by omega) (e12.get gp) (e12.get gq) hpq ?_ (fun k A h => vw h.2.2.1) ?_ ?_ ?_) (fun v A h => h.2))
  · exact ⟨⟨0, (e11.trans e12).get g7, Int.le_refl _, by omega⟩, rfl, e012, Nat.le_refl _, .cons hl12 (.cons hd12 (.cons ((e11.trans e12).get (bx10.nth 0 rfl)) (.cons ((e11.trans e12).get (bx10.nth 1 rfl)) (.cons ((e11.trans e12).get (bx10.nth 2 rfl)) (.cons ((e11.trans e12).get (bx10.nth 3 rfl)) (.cons ((e11.trans e12).get (bx10.nth 4 rfl)) (.cons ((e11.trans e12).get (bx10.nth 5 rfl)) (.cons ((e11.trans e12).get g8) .nil))))))))⟩
  · rintro k A A' ⟨⟨cnt, gc, h0, hc⟩, hf, eA, sA, bx⟩ f
    refine ⟨⟨cnt, f.get (by simp; omega) gc, h0, hc⟩, hf, eA.fr_trans f (fun i hi => by simp at hi; omega), by have := f.size; omega, bx.fr f (fun x hx => ?_)⟩
    simp at hx; rcases hx with rfl | rfl | rfl | rfl | rfl | rfl | rfl | rfl | rfl <;> simp <;> omega
  · rintro k hk A ⟨⟨cnt, gc, h0, hcnt⟩, hf, eA, sA, bx⟩
    refine hY l[k].1 false A _ bx.head ⟨bx.head, fun H14 hH14 => ?_⟩
    have f14 : Fr [lp] A H14 := by rw [hH14]; exact Fr.set
    have q14 : H14[lp]? = some (rc .busy none) := by rw [hH14]; exact setBlk_at bx.head
    have bx14 := bx.tail.fr f14 (fun x hx => by simp at hx; rcases hx with rfl | rfl | rfl | rfl | rfl | rfl | rfl | rfl <;> simp <;> omega)
    have gc14 := f14.get (b := b7) (by simp; omega) gc
    rw [if_neg (by decide)]
    have e14 : Ext H H14 := eA.fr_trans f14 (fun i hi => by simp at hi; omega)
    obtain ⟨tag, d, hpr⟩ := hch.nth k hk
    have hk' : k < kl.length := by omega
    refine ⟨hv, by rw [hat_blk (bx14.nth 1 rfl)]; rfl, HC.mono (obj_Car_c (V.ext e14) hpr.word) ?_⟩
    rintro _ H15 ⟨rfl, e15⟩
    rw [hpr.half.1, if_pos rfl, show l[k].1 / 8 + 0 = l[k].1 / 8 by omega, hpr.car]
    have hw2 : IsWord l[k].2 := by rw [← hpr.car]; exact V.word _
    have hwk : IsWord kl[k].1 := by
      cases cars with
      | false => rw [((hkey k hk).1 rfl).1]; exact hw2
      | true => obtain ⟨_, tag', d', hp'⟩ := (hkey k hk).2 rfl; rw [← hp'.car]; exact V.word _
    refine ⟨_, _, rfl, cars, by rw [hat_blk (e15.get (bx14.nth 4 rfl))]; rfl, fun key out A' => key = kl[k].1 ∧ out = kl[k].2 ∧ Ext H14 A', ?_, ?_⟩
    · cases cars with
      | false =>
        rw [if_neg (by decide)]
        have := (hkey k hk).1 rfl
        exact ⟨this.1.symm, this.2.symm, e15⟩
      | true =>
        rw [if_pos rfl]
        obtain ⟨h1, tag', d', hp'⟩ := (hkey k hk).2 rfl
        refine ⟨hv, by rw [hat_blk (e15.get (bx14.nth 1 rfl))]; rfl, HC.mono (obj_Car_c (V.ext (e14.trans e15)) hw2) ?_⟩
        rintro _ H22 ⟨rfl, e22⟩
        rw [hp'.half.1, if_pos rfl, show l[k].2 / 8 + 0 = l[k].2 / 8 by omega, hp'.car]
        refine ⟨_, _, rfl, ?_⟩
        rw [if_pos rfl]
        exact ⟨rfl, h1.symm, e15.trans e22⟩
    rintro _ _ H16 ⟨rfl, rfl, e16⟩
    have bx16 := bx14.ext e16
    have q16 := e16.get q14
    have e016 : Ext H H16 := e14.trans e16
    have s16 := e16.size
    have sA14 := f14.size
    refine ⟨_, by rw [hat_blk (bx16.nth 7 rfl)]; rfl, kind, by rw [hat_blk (bx16.nth 2 rfl)]; rfl, x, by rw [hat_blk (bx16.nth 3 rfl)]; rfl, HC.mono (judge_same_c (fun H' f => V.fr0 e016 f (fun i hi => by simp at hi; omega)) (e16.get gc14) (hpl k hk) ⟨hx, hwk⟩ (by omega) h0) ?_⟩
    rintro _ H17 ⟨cnt', rfl, f17, gc17, hc1, hc2⟩
    have bx17 := bx16.fr f17 (fun x hx => by simp at hx; rcases hx with rfl | rfl | rfl | rfl | rfl | rfl | rfl | rfl <;> simp <;> omega)
    have q17 := f17.get (b := lp) (by simp; omega) q16
    have e017 : Ext H H17 := e016.fr_trans f17 (fun i hi => by simp at hi; omega)
    refine ⟨_, _, rfl, ?_⟩
    rw [if_pos rfl]
    have hdrop : findK x kl = if x = kl[k].1 then kl[k].2 else findK x (kl.drop (k + 1)) := by
      rw [← hf, List.drop_eq_getElem_cons hk']; rfl
    have FA17 : Fr [lp, b7] A H17 := ((f14.mono (fun i hi _ => by simp at hi; simp [hi])).trans e16.fr).trans (f17.mono (fun i hi _ => by simp at hi; simp [hi]))
    by_cases hxk : x = kl[k].1
    · rw [if_pos (by simpa using hxk)]
      rw [if_pos hxk] at hdrop
      obtain ⟨c18, p18⟩ := box_set (vs := [.int .u64 kl[k].2]) (bx17.nth 5 rfl) rfl rfl
      refine ⟨c18, fun H18 hH18 => ?_⟩
      obtain ⟨g18, f18⟩ := p18 H18 hH18
      obtain ⟨c19, p19⟩ := box_set (vs := [.int .i64 0]) (f18.get (by simp; omega) (bx17.nth 6 rfl)) rfl rfl
      refine ⟨c19, fun H19 hH19 => ?_⟩
      obtain ⟨g19, f19⟩ := p19 H19 hH19
      have q19 := f19.get (b := lp) (by simp; omega) (f18.get (by simp; omega) q17)
      refine ⟨q19, false, rfl, (fun h => by cases h), fun _ => .inr (.inr ⟨setBlk_at q19, fun H26 hH26 => ?_⟩)⟩
      have f26 : Fr [lp] H19 H26 := by rw [hH26]; exact Fr.trans Fr.set Fr.set
      refine ⟨f26.get (by simp; omega) (f19.get (by simp; omega) (f18.get (by simp; omega) (bx17.nth 0 rfl))), ?_⟩
      have fd : Fr [H11.size] H26 (H26.setIfInBounds H11.size (.deferred none)) := Fr.set
      have F : Fr [lp, b5, b6, H11.size] H17 (H26.setIfInBounds H11.size (.deferred none)) :=
        (((f18.mono (fun i hi _ => by simp at hi; simp [hi])).trans (f19.mono (fun i hi _ => by simp at hi; simp [hi]))).trans (f26.mono (fun i hi _ => by simp at hi; simp [hi]))).trans (fd.mono (fun i hi _ => by simp at hi; simp [hi]))
      refine ⟨kl[k].2, by rw [hat_blk (fd.get (b := b5) (by simp; omega) (f26.get (by simp; omega) (f19.get (by simp; omega) g18)))]; rfl, 0, by rw [hat_blk (fd.get (b := b6) (by simp; omega) (f26.get (by simp; omega) g19))]; rfl, hR _ _ ⟨by rw [hdrop], e017.fr_trans F (fun i hi => by simp at hi; omega)⟩⟩
    · rw [if_neg (by simpa using hxk)]
      rw [if_neg hxk] at hdrop
      refine ⟨q17, true, rfl, fun _ => ?_, fun h => by cases h⟩
      have f20 : Fr [lp] H17 (setBlk H17 lp (rc .ready none)) := Fr.set
      have F : Fr [lp, b7] A (setBlk H17 lp (rc .ready none)) := FA17.trans (f20.mono (fun i hi _ => by simp at hi; simp [hi]))
      refine ⟨⟨⟨cnt', f20.get (by simp; omega) gc17, by omega, by omega⟩, hdrop.symm, e017.fr_trans f20 (fun i hi => by simp at hi; omega), by have := F.size; omega, .cons (setBlk_at q17) (bx17.fr f20 (fun x hx => ?_))⟩, F.old p (by omega) (by simp; omega), F.old q (by omega) (by simp; omega)⟩
      simp at hx; rcases hx with rfl | rfl | rfl | rfl | rfl | rfl | rfl | rfl <;> simp <;> omega
  · rintro A ⟨⟨cnt, gc, h0, hcnt⟩, hf, eA, sA, bx⟩
    rw [List.drop_of_length_le (by omega)] at hf
    refine hY 20 true A _ bx.head ⟨bx.head, fun H14 hH14 => ?_⟩
    have f14 : Fr [lp] A H14 := by rw [hH14]; exact Fr.set
    have q14 : H14[lp]? = some (rc .busy none) := by rw [hH14]; exact setBlk_at bx.head
    rw [if_pos rfl]
    refine ⟨q14, false, rfl, .inr (.inl ⟨setBlk_at q14, fun H26 hH26 => ?_⟩)⟩
    have f26 : Fr [lp] A H26 := by rw [hH26]; exact (f14.trans Fr.set).trans Fr.set
    have bx26 := bx.tail.fr f26 (fun x hx => by simp at hx; rcases hx with rfl | rfl | rfl | rfl | rfl | rfl | rfl | rfl <;> simp <;> omega)
    obtain ⟨c18, p18⟩ := box_set (vs := [.int .u64 4]) (bx26.nth 5 rfl) rfl rfl
    refine ⟨c18, fun H18 hH18 => ?_⟩
    obtain ⟨g18, f18⟩ := p18 H18 hH18
    obtain ⟨c19, p19⟩ := box_set (vs := [.int .i64 0]) (f18.get (by simp; omega) (bx26.nth 6 rfl)) rfl rfl
    refine ⟨c19, fun H19 hH19 => ?_⟩
    obtain ⟨g19, f19⟩ := p19 H19 hH19
    refine ⟨f19.get (by simp; omega) (f18.get (by simp; omega) (bx26.nth 0 rfl)), ?_⟩
    have fd : Fr [H11.size] H19 (H19.setIfInBounds H11.size (.deferred none)) := Fr.set
    have F : Fr [lp, b5, b6, H11.size] A (H19.setIfInBounds H11.size (.deferred none)) :=
      (((f26.mono (fun i hi _ => by simp at hi; simp [hi])).trans (f18.mono (fun i hi _ => by simp at hi; simp [hi]))).trans (f19.mono (fun i hi _ => by simp at hi; simp [hi]))).trans (fd.mono (fun i hi _ => by simp at hi; simp [hi]))
    refine ⟨4, by rw [hat_blk (fd.get (b := b5) (by simp; omega) (f19.get (by simp; omega) g18))]; rfl, 0, by rw [hat_blk (fd.get (b := b6) (by simp; omega) g19)]; rfl, hR _ _ ⟨by rw [← hf]; rfl, eA.fr_trans F (fun i hi => by simp at hi; omega)⟩⟩
end Go.Proofs.Ythlohokmnajpoaa
