/-
  What the laws of layer 10 call: many, word, words, there, setHalf. Proves nothing of any one statement.
-/
import Derived.Test.YtillpfaabdlaiaaLiveT
import Derived.Test.YtillpfaabdlaiaaAct10
import Derived.Test.YtillpfaabdlaiaaLx
set_option linter.unusedVariables false
set_option linter.unusedSimpArgs false
namespace Go.Proofs.Ytillpfaabdlaiaa
open Go

abbrev Acts (H : Array Obj) (s : Sl ActOf) : Prop := SlOK 12 actOfR maxLen H s
theorem many10_c {H : Array Obj} {s : Sl ActOf} (A : Acts H s) : morainelaw10_many.C s.p s.n s.c H (fun v H' => H' = H ∧ ∃ x : Bool, v = .bool x ∧ (x = false → s.n ≤ 200 ∧ ∀ a ∈ s.xs, a.l.n ≤ 200 ∧ a.s.size ≤ 1000 ∧ a.num.mag.n ≤ 60)) := by
  refine HC.via fun R hR => morainelaw10_many.link ?_
  unfold morainelaw10_many.pt
  by_cases h2 : (s.n : Int) > 200
  · rw [if_pos h2]; exact hR _ _ ⟨rfl, true, rfl, fun h => by cases h⟩
  rw [if_neg h2]
  refine ⟨fun i H' => H' = H ∧ (0 ≤ i ∧ i ≤ s.n) ∧ ∀ (j : Nat) (hj : j < s.xs.length), (j : Int) < i → s.xs[j].l.n ≤ 200 ∧ s.xs[j].s.size ≤ 1000 ∧ s.xs[j].num.mag.n ≤ 60, fun i _ => (s.n - i).toNat, ⟨rfl, by omega, fun j _ h => by omega⟩, ?_⟩
  rintro i H1 ⟨rfl, hi, hall⟩
  have hlen := A.len
  by_cases hlt : i < (s.n : Int)
  case neg =>
    rw [if_neg hlt]
    refine hR _ _ ⟨rfl, false, rfl, fun _ => ⟨by omega, fun a ha => ?_⟩⟩
    obtain ⟨j, hj, rfl⟩ := List.getElem_of_mem ha
    exact hall j hj (by omega)
  rw [if_pos hlt]
  have hiN : i.toNat < s.xs.length := by omega
  obtain ⟨a, ha, hrow⟩ := A.row i.toNat hiN
  have rd := fun j v => rowAt_hat hrow j v
  simp only [Nat.zero_add] at rd
  refine ⟨a, ha, ⟨hi.1, hlt⟩, _, _, _, rd 8 _ rfl, ?_⟩
  by_cases c1 : (s.xs[i.toNat].l.n : Int) > 200
  · rw [if_pos c1]; exact hR _ _ ⟨rfl, true, rfl, fun h => by cases h⟩
  rw [if_neg c1]
  refine ⟨⟨hi.1, hlt⟩, _, rd 9 _ rfl, ?_⟩
  by_cases c2 : (s.xs[i.toNat].s.size : Int) > 1000
  · rw [if_pos c2]; exact hR _ _ ⟨rfl, true, rfl, fun h => by cases h⟩
  rw [if_neg c2]
  have h11 := rd 11 _ rfl
  have e11 : ((a.add (i.toNat * 12)).add 10).add 1 = (a.add (i.toNat * 12)).add 11 := addr_add2 _ _ _
  refine ⟨⟨hi.1, hlt⟩, _, _, _, by rw [e11]; exact h11, ?_⟩
  by_cases c3 : (s.xs[i.toNat].num.mag.n : Int) > 60
  · rw [if_pos c3]; exact hR _ _ ⟨rfl, true, rfl, fun h => by cases h⟩
  rw [if_neg c3, w64 (n := i + 1) (by omega)]
  refine ⟨⟨rfl, by omega, fun j hj hji => ?_⟩, by show ((s.n : Int) - (i + 1)).toNat < ((s.n : Int) - i).toNat; omega⟩
  by_cases e : j = i.toNat
  · subst e; exact ⟨by omega, by omega, by omega⟩
  · exact hall j hj (by omega)

def valWord (W Of : Int) (mw : List Int) : Int := if 0 < Of ∧ 0 < mw.length then mw.getD ((Of - 1) % mw.length).toNat 0 else W
theorem valWord_word {W Of : Int} {mw : List Int} (hW : IsWord W) (hm : ∀ w ∈ mw, IsWord w) : IsWord (valWord W Of mw) := by
  unfold valWord
  by_cases h : 0 < Of ∧ 0 < mw.length
  · rw [if_pos h]
    have h2 : ((Of - 1) % mw.length).toNat < mw.length := by
      have := Int.emod_nonneg (Of - 1) (show (mw.length : Int) ≠ 0 by omega)
      have := Int.emod_lt_of_pos (Of - 1) (show (0 : Int) < mw.length by omega)
      omega
    rw [getD_at h2]; exact hm _ (List.getElem_mem _)
  · rw [if_neg h]; exact hW
theorem word10_c {H : Array Obj} {W Of : Int} {p : Option Addr} {n c : Nat} {mw : List Int} (hO : I64 Of) (how : Own H 32 1 p n c (wvs mw)) : morainelaw10_word.C W Of p n c H (fun v H' => v = .int .u64 (valWord W Of mw) ∧ Ext H H') := by
  refine HC.via fun R hR => morainelaw10_word.link ?_
  unfold morainelaw10_word.pt
  intro b H1 hb hH1
  have e1 : Ext H H1 := Ext.push' hH1
  have g1 := push_get hb hH1
  have hn : n = mw.length := by have := how.len; simpa [wvs] using this.symm
  subst hn
  refine ⟨Of, by rw [addr_add_mk, hat_blk g1]; rfl, ?_⟩
  by_cases h : 0 < Of ∧ 0 < mw.length
  · rw [if_pos (by simp only [Bool.and_eq_true, decide_eq_true_eq]; omega)]
    have e : Int.tmod (IntKind.wrap .i64 (Of - 1)) (mw.length : Int) = (Of - 1) % mw.length := by rw [w64 (by omega), tmod_pos (by omega)]
    have h0 := Int.emod_nonneg (Of - 1) (show (mw.length : Int) ≠ 0 by omega)
    have h2 := Int.emod_lt_of_pos (Of - 1) (show (0 : Int) < mw.length by omega)
    have hv : valWord W Of mw = mw.getD ((Of - 1) % mw.length).toNat 0 := by unfold valWord; rw [if_pos h]
    rw [hv] at hR
    have hk : ((Of - 1) % mw.length).toNat < mw.length := by omega
    obtain ⟨a, ha, hat1⟩ := (how.ext e1).at (j := ((Of - 1) % mw.length).toNat) (v := .int .u64 (mw.getD ((Of - 1) % mw.length).toNat 0)) (by rw [getD_at hk]; simp [wvs, hk])
    refine ⟨Of, by rw [addr_add_mk, hat_blk g1]; rfl, by omega, a, ha, by rw [e]; exact ⟨h0, h2⟩, _, by rw [e, Nat.mul_one]; exact hat1, hR _ _ ⟨rfl, e1⟩⟩
  · rw [if_neg (by simp only [Bool.and_eq_true, decide_eq_true_eq]; omega)]
    exact ⟨W, by rw [hat_blk g1]; rfl, hR _ _ ⟨by unfold valWord; rw [if_neg h], e1⟩⟩

theorem words10_c {H : Array Obj} {s : Sl ValOf} {p : Option Addr} {n c : Nat} {mw : List Int} (A : SlOK 2 valOfR maxLen H s) (hs : s.n ≤ 1000) (how : Own H 32 1 p n c (wvs mw)) :
    morainelaw10_words.C s.p s.n s.c p n c H (fun v H' => ∃ q c', v = .slice q s.n c' ∧ Own H' 32 1 q s.n c' (wvs (s.xs.map fun v => valWord v.w v.ofv mw)) ∧ Ext H H' ∧ ∀ i, i ∈ blks q → H.size ≤ i) := by
  refine HC.via fun R hR => morainelaw10_words.link ?_
  unfold morainelaw10_words.pt
  have hlen := A.len
  refine ⟨fun q m c' i H' => (0 ≤ i ∧ i ≤ s.n) ∧ m = i.toNat ∧ Own H' 32 1 q m c' (wvs ((s.xs.take i.toNat).map fun v => valWord v.w v.ofv mw)) ∧ Ext H H' ∧ ∀ j, j ∈ blks q → H.size ≤ j, fun _ _ _ i _ => (s.n - i).toNat, ⟨by omega, rfl, by simpa using own_nil, Ext.refl _, by simp⟩, ?_⟩
  rintro q m c' i H1 ⟨hi, rfl, ho, e1, hq⟩
  by_cases hlt : i < (s.n : Int)
  case neg =>
    rw [if_neg hlt]
    have e : i.toNat = s.n := by omega
    rw [e] at ho ⊢
    rw [List.take_of_length_le (by omega)] at ho
    exact hR _ _ ⟨q, c', rfl, ho, e1, hq⟩
  rw [if_pos hlt]
  have hiN : i.toNat < s.xs.length := by omega
  obtain ⟨a, ha, hrow⟩ := A.row i.toNat hiN
  refine ⟨a, ha, ⟨hi.1, hlt⟩, _, _, e1.rowAt hrow, ?_⟩
  refine HC.mono (word10_c (wf_i64 (A.each _ (List.getElem_mem hiN)).ofv) (how.ext e1)) ?_
  rintro _ H2 ⟨rfl, e2⟩
  refine ⟨_, rfl, fun b H3 hb hH3 => ?_⟩
  have e3 : Ext H2 H3 := Ext.push' hH3
  rw [w64 (n := i + 1) (by omega)]
  refine own_append (ys := wvs [valWord s.xs[i.toNat].w s.xs[i.toNat].ofv mw]) ((ho.ext e2).ext e3) (rowAt_blk (push_get hb hH3) _ 0 0 (fun j hj => by simp)) (by simp) (allOne_wvs _) rfl (by omega) ?_
  intro q' c2 H4 ho4 f4 hn4
  have e14 : Ext H H4 := ((e1.trans e2).trans e3).fr_trans f4 hq
  refine ⟨⟨by omega, by omega, ?_, e14, fun j hj => ?_⟩, by show ((s.n : Int) - (i + 1)).toNat < ((s.n : Int) - i).toNat; omega⟩
  · rw [show (i + 1).toNat = i.toNat + 1 by omega, List.take_succ_eq_append_getElem hiN, List.map_append]
    simpa [wvs] using ho4
  · rcases hn4 j hj with h | h
    · exact hq j h
    · have := ((e1.trans e2).trans e3).size; omega
end Go.Proofs.Ytillpfaabdlaiaa
