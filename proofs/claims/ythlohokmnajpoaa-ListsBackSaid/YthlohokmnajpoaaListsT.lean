/-
  lists: same, tail, find. Proves nothing of any one statement.
-/
import Derived.Test.YthlohokmnajpoaaListsN
set_option linter.unusedVariables false
set_option linter.unusedSimpArgs false
namespace Go.Proofs.Ythlohokmnajpoaa
open Go

/-- where so many cdrs lead -/
def wordAt (last : Int) : List (Int × Int) → Nat → Int
  | [], _ => last
  | pa :: _, 0 => pa.1
  | _ :: l, k + 1 => wordAt last l k
theorem wordAt_lt {last : Int} : ∀ {l : List (Int × Int)} {k : Nat} (h : k < l.length), wordAt last l k = l[k].1
  | _ :: _, 0, _ => rfl
  | _ :: l, k + 1, h => wordAt_lt (l := l) (by simpa using h)
theorem wordAt_end {last : Int} : ∀ {l : List (Int × Int)}, wordAt last l l.length = last
  | [] => rfl
  | _ :: l => wordAt_end (l := l)
set_option maxRecDepth 100000 in
theorem lists_tail_c {H : Array Obj} {hv : Option Addr} {o : Option (Blk × Hp)} {w last n : Int} {l : List (Int × Int)} {j : Nat} (V : View H hv o) (hch : Chain (mof o) w l last) (hl : l.length ≤ 30000) (hn : IsWord n) (h8 : n % 8 = 0) (hj : signed n / 8 = j) (hjl : j ≤ l.length) :
    lists_tail.C hv w n H (fun v H' => v = .tuple #[.int .u64 (wordAt last l j), .int .i64 0] ∧ Ext H H') := by
  refine HC.via fun R hR => lists_tail.link ?_
  unfold lists_tail.pt
  intro b H1 hb hH1 b2 H2 hb2 hH2 b3 H3 hb3 hH3
  have e1 : Ext H H1 := Ext.push' hH1
  have e2 : Ext H1 H2 := Ext.push' hH2
  have e3 : Ext H2 H3 := Ext.push' hH3
  have s1 : H1.size = H.size + 1 := by rw [hH1]; simp
  have s2 : H2.size = H1.size + 1 := by rw [hH2]; simp
  have s3 : H3.size = H2.size + 1 := by rw [hH3]; simp
  have bx3 : Bx [(b, .cells #[.pointer hv] 23 (0, 0)), (b2, .cells #[.int .u64 0] 31 (0, 0)), (b3, .cells #[.int .i64 0] 24 (0, 0))] H3 :=
    .cons ((e2.trans e3).get (push_get hb hH1)) (.cons (e3.get (push_get hb2 hH2)) (.cons (push_get hb3 hH3) .nil))
  refine HC.mono (word_Int_c hn) ?_
  rintro _ H4 ⟨rfl, e4⟩
  rw [if_pos h8]
  refine ⟨_, _, rfl, fun b4 H5 hb4 hH5 => ?_⟩
  have s4 := e4.size
  obtain ⟨c5, p5⟩ := box_new (n := 1) (vs := [.int .i64 (signed n / 8)]) hb4 hH5 rfl rfl
  refine ⟨c5, fun H6 hH6 => ?_⟩
  obtain ⟨g4, e6⟩ := p5 H6 hH6
  rw [hj] at g4
  have h4lt := lt_size g4
  have bx6 := bx3.ext (e4.trans e6)
  rw [if_pos rfl]
  refine ⟨_, by rw [hat_blk g4]; rfl, ?_⟩
  rw [if_neg (by omega)]
  have e06 : Ext H H6 := (((e1.trans e2).trans e3).trans e4).trans e6
  refine ⟨hv, by rw [hat_blk (bx6.nth 0 rfl)]; rfl, HC.mono lists_pairs_c ?_⟩
  rintro v H9 ⟨p, q, rfl, gp, gq, hpq, hp, hq, e9⟩
  refine ⟨rfl, ?_⟩
  intro rc lp H10 hlp hH10 vY hY
  have s9 := e9.size
  have hp9 := lt_size gp
  have hq9 := lt_size gq
  have e910 : Ext (H9.push (.deferred (some []))) H10 := Ext.push' hH10
  have hl10 : H10[lp]? = some (rc .ready none) := push_get (by simp; omega) hH10
  have hd10 : H10[H9.size]? = some (.deferred (some [])) := e910.get (push_get rfl rfl)
  have e10 : Ext H9 H10 := (Ext.push H9 _).trans e910
  have s10 : H10.size = H9.size + 2 := by rw [hH10]; simp
  have e010 : Ext H H10 := (e06.trans e9).trans e10
  have s06 := e06.size
  have vw : ∀ {A : Array Obj}, Ext H A → ∃ o', View A hv o' ∧ mof o' = mof o := fun e => ⟨o, V.ext e, rfl⟩
  refine FE.of2 (enters_of Try.func47 (by kernel_rfl) rfl) rfl (HC.mono (pairs_loop (fun k A => k ≤ j ∧ Ext H A ∧ H10.size ≤ A.size ∧ Bx [(lp, rc .ready none), (H9.size, .deferred (some [])), (b, .cells #[.pointer hv] 23 (0, 0)), (b2, .cells #[.int .u64 0] 31 (0, 0)), (b3, .cells #[.int .i64 0] 24 (0, 0)), (b4, .cells #[.int .i64 ((j : Int) - k)] 2 (0, 0))] A)
    hch (by omega) (e10.get gp) (e10.get gq) hpq ?_ (fun k A h => vw h.2.1) ?_ ?_ ?_) (fun v A h => h.2))
  · refine ⟨by omega, e010, Nat.le_refl _, .cons hl10 (.cons hd10 (.cons ((e9.trans e10).get (bx6.nth 0 rfl)) (.cons ((e9.trans e10).get (bx6.nth 1 rfl)) (.cons ((e9.trans e10).get (bx6.nth 2 rfl)) (.cons ((e9.trans e10).get ?_) .nil)))))⟩
    rw [g4]; simp
  · rintro k A A' ⟨hk, eA, sA, bx⟩ f
    refine ⟨hk, eA.fr_trans f (fun i hi => by simp at hi; omega), by have := f.size; omega, bx.fr f (fun x hx => ?_)⟩
    simp at hx; rcases hx with rfl | rfl | rfl | rfl | rfl | rfl <;> simp <;> omega
  · rintro k hk A ⟨hkj, eA, sA, bx⟩
    refine hY l[k].1 false A _ bx.head ⟨bx.head, fun H12 hH12 => ?_⟩
    have f12 : Fr [lp] A H12 := by rw [hH12]; exact Fr.set
    have q12 : H12[lp]? = some (rc .busy none) := by rw [hH12]; exact setBlk_at bx.head
    have bx12 := bx.tail.fr f12 (fun x hx => by simp at hx; rcases hx with rfl | rfl | rfl | rfl | rfl <;> simp <;> omega)
    refine ⟨_, by rw [hat_blk (bx12.nth 4 rfl)]; rfl, ?_⟩
    by_cases hkj' : k = j
    · rw [if_pos (by omega)]
      subst hkj'
      obtain ⟨c13, p13⟩ := box_set (vs := [.int .u64 l[k].1]) (bx12.nth 2 rfl) rfl rfl
      refine ⟨c13, fun H13 hH13 => ?_⟩
      obtain ⟨g13, f13⟩ := p13 H13 hH13
      obtain ⟨c14, p14⟩ := box_set (vs := [.int .i64 0]) (f13.get (by simp; omega) (bx12.nth 3 rfl)) rfl rfl
      refine ⟨c14, fun H14 hH14 => ?_⟩
      obtain ⟨g14, f14⟩ := p14 H14 hH14
      have q14 := f14.get (b := lp) (by simp; omega) (f13.get (by simp; omega) q12)
      refine ⟨q14, false, rfl, (fun h => by cases h), fun _ => .inr (.inl ⟨setBlk_at q14, fun H18 hH18 => ?_⟩)⟩
      have f18 : Fr [lp] H14 H18 := by rw [hH18]; exact Fr.trans Fr.set Fr.set
      refine ⟨f18.get (by simp; omega) (f14.get (by simp; omega) (f13.get (by simp; omega) (bx12.nth 0 rfl))), ?_⟩
      have fd : Fr [H9.size] H18 (H18.setIfInBounds H9.size (.deferred none)) := Fr.set
      have F : Fr [lp, b2, b3, H9.size] A (H18.setIfInBounds H9.size (.deferred none)) :=
        ((((f12.mono (fun i hi _ => by simp at hi; simp [hi])).trans (f13.mono (fun i hi _ => by simp at hi; simp [hi]))).trans (f14.mono (fun i hi _ => by simp at hi; simp [hi]))).trans (f18.mono (fun i hi _ => by simp at hi; simp [hi]))).trans (fd.mono (fun i hi _ => by simp at hi; simp [hi]))
      refine ⟨l[k].1, by rw [hat_blk (fd.get (b := b2) (by simp; omega) (f18.get (by simp; omega) (f14.get (by simp; omega) g13)))]; rfl, 0, by rw [hat_blk (fd.get (b := b3) (by simp; omega) (f18.get (by simp; omega) g14))]; rfl, hR _ _ ⟨by rw [wordAt_lt hk], eA.fr_trans F (fun i hi => by simp at hi; omega)⟩⟩
    · rw [if_neg (by omega)]
      have e12 : Ext H H12 := eA.fr_trans f12 (fun i hi => by simp at hi; omega)
      obtain ⟨tag, d, hpr⟩ := hch.nth k hk
      refine ⟨hv, by rw [hat_blk (bx12.nth 1 rfl)]; rfl, HC.mono (obj_Pair_c (V.ext e12) hpr.word) ?_⟩
      rintro _ H15 ⟨rfl, e15⟩
      refine ⟨_, rfl, ?_⟩
      rw [if_pos (decide_eq_true hpr.isPair)]
      have bx15 := bx12.ext e15
      refine ⟨_, by rw [hat_blk (bx15.nth 4 rfl)]; rfl, ?_⟩
      rw [w64 (by omega)]
      obtain ⟨c16, p16⟩ := box_set (vs := [.int .i64 ((j : Int) - k - 1)]) (bx15.nth 4 rfl) rfl rfl
      refine ⟨c16, fun H16 hH16 => ?_⟩
      obtain ⟨g16, f16⟩ := p16 H16 hH16
      have q16 := f16.get (b := lp) (by simp; omega) (e15.get q12)
      refine ⟨q16, true, rfl, fun _ => ?_, fun h => by cases h⟩
      have f17 : Fr [lp] H16 (setBlk H16 lp (rc .ready none)) := Fr.set
      have F : Fr [lp, b4] A (setBlk H16 lp (rc .ready none)) := (((f12.mono (fun i hi _ => by simp at hi; simp [hi])).trans e15.fr).trans (f16.mono (fun i hi _ => by simp at hi; simp [hi]))).trans (f17.mono (fun i hi _ => by simp at hi; simp [hi]))
      have F' : ∀ {i : Nat} {o : Obj}, H15[i]? = some o → i ≠ lp → i ≠ b4 → (setBlk H16 lp (rc .ready none))[i]? = some o := fun h h1 h2 => f17.get (by simp; omega) (f16.get (by simp; omega) h)
      refine ⟨⟨by omega, eA.fr_trans F (fun i hi => by simp at hi; omega), by have := F.size; omega, .cons (setBlk_at q16) (.cons (F' (bx15.nth 0 rfl) (by omega) (by omega)) (.cons (F' (bx15.nth 1 rfl) (by omega) (by omega)) (.cons (F' (bx15.nth 2 rfl) (by omega) (by omega)) (.cons (F' (bx15.nth 3 rfl) (by omega) (by omega)) (.cons ?_ .nil)))))⟩, F.old p (by omega) (by simp; omega), F.old q (by omega) (by simp; omega)⟩
      rw [f17.get (b := b4) (by simp; omega) g16, show (j : Int) - ((k + 1 : Nat) : Int) = j - k - 1 by omega]
  · rintro A ⟨hkj, eA, sA, bx⟩
    have hjl' : j = l.length := by omega
    refine hY last true A _ bx.head ⟨bx.head, fun H12 hH12 => ?_⟩
    have f12 : Fr [lp] A H12 := by rw [hH12]; exact Fr.set
    have q12 : H12[lp]? = some (rc .busy none) := by rw [hH12]; exact setBlk_at bx.head
    have bx12 := bx.tail.fr f12 (fun x hx => by simp at hx; rcases hx with rfl | rfl | rfl | rfl | rfl <;> simp <;> omega)
    refine ⟨_, by rw [hat_blk (bx12.nth 4 rfl)]; rfl, ?_⟩
    rw [if_pos (by omega)]
    obtain ⟨c13, p13⟩ := box_set (vs := [.int .u64 last]) (bx12.nth 2 rfl) rfl rfl
    refine ⟨c13, fun H13 hH13 => ?_⟩
    obtain ⟨g13, f13⟩ := p13 H13 hH13
    obtain ⟨c14, p14⟩ := box_set (vs := [.int .i64 0]) (f13.get (by simp; omega) (bx12.nth 3 rfl)) rfl rfl
    refine ⟨c14, fun H14 hH14 => ?_⟩
    obtain ⟨g14, f14⟩ := p14 H14 hH14
    have q14 := f14.get (b := lp) (by simp; omega) (f13.get (by simp; omega) q12)
    refine ⟨q14, false, rfl, .inr (.inl ⟨setBlk_at q14, fun H18 hH18 => ?_⟩)⟩
    have f18 : Fr [lp] H14 H18 := by rw [hH18]; exact Fr.trans Fr.set Fr.set
    refine ⟨f18.get (by simp; omega) (f14.get (by simp; omega) (f13.get (by simp; omega) (bx12.nth 0 rfl))), ?_⟩
    have fd : Fr [H9.size] H18 (H18.setIfInBounds H9.size (.deferred none)) := Fr.set
    have F : Fr [lp, b2, b3, H9.size] A (H18.setIfInBounds H9.size (.deferred none)) :=
      ((((f12.mono (fun i hi _ => by simp at hi; simp [hi])).trans (f13.mono (fun i hi _ => by simp at hi; simp [hi]))).trans (f14.mono (fun i hi _ => by simp at hi; simp [hi]))).trans (f18.mono (fun i hi _ => by simp at hi; simp [hi]))).trans (fd.mono (fun i hi _ => by simp at hi; simp [hi]))
    refine ⟨last, by rw [hat_blk (fd.get (b := b2) (by simp; omega) (f18.get (by simp; omega) (f14.get (by simp; omega) g13)))]; rfl, 0, by rw [hat_blk (fd.get (b := b3) (by simp; omega) (f18.get (by simp; omega) g14))]; rfl, hR _ _ ⟨by rw [hjl', wordAt_end], eA.fr_trans F (fun i hi => by simp at hi; omega)⟩⟩
end Go.Proofs.Ythlohokmnajpoaa
