/-
  lists: what Apply does on a heap of a law's own. Proves nothing of any one statement.
-/
import Derived.Test.YthlohokmnajpoaaGreatListsM
import Derived.Test.YthlohokmnajpoaaGreatLiveT
set_option linter.unusedVariables false
set_option linter.unusedSimpArgs false
namespace Go.Proofs.YthlohokmnajpoaaGreat
open Go

theorem wvs_set (l : List Int) (i : Nat) (v : Int) : wvs (l.set i v) = (wvs l).set i (.int .u64 v) := by unfold wvs; rw [List.map_set]
theorem wvs_get? (l : List Int) (i : Nat) : (wvs l)[i]? = l[i]?.map (Value.int .u64) := by unfold wvs; rw [List.getElem?_map]
theorem slices_Reverse_c {H : Array Obj} {T : TypeId} {B : Option Addr} {n c : Nat} {ws : List Int} (how : Own H T 1 B n c (wvs ws)) (hn : n = ws.length) (hl : n ≤ 1000000) :
    slices_Reverse_api_Word_api_Word.C B n c H (fun v H' => Own H' T 1 B n c (wvs ws.reverse) ∧ Fr (blks B) H H') := by
  subst hn
  refine HC.via fun R hR => slices_Reverse_api_Word_api_Word.link ?_
  unfold slices_Reverse_api_Word_api_Word.pt
  refine ⟨fun i j A => ∃ (k : Nat) (cs : List Int), i = k ∧ j = (ws.length : Int) - 1 - k ∧ 2 * k ≤ ws.length ∧ Own A T 1 B ws.length c (wvs cs) ∧ cs.length = ws.length ∧ (∀ t, t < ws.length → cs[t]? = if t < k ∨ ws.length - 1 - k < t then ws[ws.length - 1 - t]? else ws[t]?) ∧ Fr (blks B) H A,
    fun i _ _ => ((ws.length : Int) - i).toNat, ⟨0, ws, rfl, by rw [w64 (by omega)]; omega, by omega, how, rfl, fun t ht => by rw [if_neg (by omega)], Fr.refl _ _⟩, ?_⟩
  rintro i j A ⟨k, cs, rfl, rfl, hk, hA, hcl, hcs, fA⟩
  by_cases hlt : (k : Int) < (ws.length : Int) - 1 - k
  · rw [if_pos hlt]
    have hkj : k < ws.length - 1 - k := by omega
    have hj : ((ws.length : Int) - 1 - k).toNat = ws.length - 1 - k := by omega
    have g1 : (wvs cs)[ws.length - 1 - k]? = some (.int .u64 (cs[ws.length - 1 - k]'(by omega))) := by rw [wvs_get?, List.getElem?_eq_getElem (by omega)]; rfl
    have g2 : (wvs cs)[k]? = some (.int .u64 (cs[k]'(by omega))) := by rw [wvs_get?, List.getElem?_eq_getElem (by omega)]; rfl
    obtain ⟨a, ha, h1⟩ := hA.at g1
    obtain ⟨a', ha', h2⟩ := hA.at g2
    obtain rfl : a = a' := by rw [ha] at ha'; exact Option.some.inj ha'
    subst ha
    refine ⟨a, rfl, ⟨by omega, by omega⟩, _, by rw [hj, Nat.mul_one]; exact h1, ⟨by omega, by omega⟩, _, by rw [show Int.toNat (k : Int) * 1 = k by omega]; exact h2, ⟨by omega, by omega⟩, ?_⟩
    rw [show Int.toNat (k : Int) * 1 = k by omega, hj, Nat.mul_one]
    obtain ⟨c2, p2⟩ := hA.put (i := k) (by omega) (.int .u64 (cs[ws.length - 1 - k]'(by omega)))
    refine ⟨c2, fun H2 hH2 => ⟨⟨by omega, by omega⟩, ?_⟩⟩
    obtain ⟨o2, f2⟩ := p2 H2 hH2
    obtain ⟨c3, p3⟩ := o2.put (i := ws.length - 1 - k) (by omega) (.int .u64 (cs[k]'(by omega)))
    refine ⟨c3, fun H3 hH3 => ?_⟩
    obtain ⟨o3, f3⟩ := p3 H3 hH3
    rw [← wvs_set, ← wvs_set] at o3
    rw [w64 (n := (k : Int) + 1) (by omega), w64 (n := (ws.length : Int) - 1 - k - 1) (by omega)]
    refine ⟨⟨k + 1, _, by omega, by omega, by omega, o3, by simp [hcl], fun t ht => ?_, (fA.trans (by simpa using f2)).trans (by simpa using f3)⟩, by show ((ws.length : Int) - (k + 1)).toNat < ((ws.length : Int) - k).toNat; omega⟩
    rw [List.getElem?_set, List.length_set]
    by_cases ht1 : ws.length - 1 - k = t
    · rw [if_pos ht1, if_pos (by omega), if_pos (by omega)]
      have e := hcs k (by omega)
      rw [if_neg (by omega), List.getElem?_eq_getElem (by omega)] at e
      rw [show ws.length - 1 - t = k by omega, ← e]
    rw [if_neg ht1, List.getElem?_set]
    by_cases ht2 : k = t
    · rw [if_pos ht2, if_pos (by omega), if_pos (by omega)]
      have e := hcs (ws.length - 1 - k) (by omega)
      rw [if_neg (by omega), List.getElem?_eq_getElem (by omega)] at e
      rw [← ht2, ← e]
    rw [if_neg ht2, hcs t ht]
    by_cases h3 : t < k ∨ ws.length - 1 - k < t
    · rw [if_pos h3, if_pos (by omega)]
    · rw [if_neg h3, if_neg (by omega)]
  · rw [if_neg hlt]
    refine hR _ _ ⟨?_, fA⟩
    have : cs = ws.reverse := by
      refine List.ext_getElem? fun t => ?_
      rcases Nat.lt_or_ge t ws.length with ht | ht
      · rw [hcs t ht, List.getElem?_reverse ht]
        by_cases h3 : t < k ∨ ws.length - 1 - k < t
        · rw [if_pos h3]
        · rw [if_neg h3]; congr 1; omega
      · rw [List.getElem?_eq_none (by omega), List.getElem?_eq_none (by simp; omega)]
    rw [← this]; exact hA

def lm22 : List (Int × Int) := [(2, 2), (1, 1), (1, 1), (1, 1), (1, 1), (1, 1), (1, 1), (2, 2), (2, 2), (1, 1), (1, 1), (1, 1), (0, -1), (1, 1), (0, -1), (1, 1), (2, 2), (2, 2), (2, 2), (2, 2), (2, 2), (2, 2), (2, 2), (2, 2), (2, 2), (2, 2), (2, 2), (1, 1), (1, 1), (1, 1)]
def primV (p : ByteArray × Int × Int) : List Value := [.string p.1, .int .i64 p.2.1, .int .i64 p.2.2]
theorem prim_take : ∀ (ps : List (ByteArray × Int × Int)) (n : Nat) (h : n < ps.length), ((ps.flatMap primV).drop (n * 3)).take 3 = primV ps[n]
  | p :: ps, 0, _ => rfl
  | p :: ps, n + 1, h => by
    rw [show (n + 1) * 3 = n * 3 + 1 + 1 + 1 by omega]
    exact prim_take ps n (by simpa using h)
theorem lists_table_1_c {H : Array Obj} {nm : ByteArray} {n : Int} : lists_table_1.C nm n H (fun v H' => v = .agg #[.string nm, .int .i64 n, .int .i64 n] ∧ Ext H H') := by
  refine HC.via fun R hR => lists_table_1.link ?_
  unfold lists_table_1.pt
  intro b H1 hb hH1
  obtain ⟨c2, p2⟩ := box_new (n := 3) (vs := [.string nm, .int .i64 n, .int .i64 n]) hb hH1 rfl rfl
  refine ⟨c2, fun H2 hH2 => ?_⟩
  obtain ⟨g2, e2⟩ := p2 H2 hH2
  exact ⟨_, _, _, box_row g2, hR _ _ ⟨rfl, e2⟩⟩
set_option maxRecDepth 100000 in
theorem lists_table_c {H : Array Obj} : lists_table.C H (fun v H' => ∃ ps : List (ByteArray × Int × Int), v = .agg (ps.flatMap primV).toArray ∧ ps.map (·.2) = lm22 ∧ Ext H H') := by
  refine HC.via fun R hR => lists_table.link ?_
  unfold lists_table.pt
  intro b H1 hb hH1
  have g1 := push_get hb hH1
  have e1 : Ext H H1 := Ext.push' hH1
  refine HC.mono lists_table_1_c ?_
  rintro _ H2 ⟨rfl, x2⟩
  have e2 := e1.trans x2
  have g2 := x2.get g1
  clear x2
  refine ⟨_, _, _, rfl, ?_⟩
  refine HC.mono lists_table_1_c ?_
  rintro _ H3 ⟨rfl, x3⟩
  have e3 := e2.trans x3
  have g3 := x3.get g2
  clear x3
  refine ⟨_, _, _, rfl, ?_⟩
  refine HC.mono lists_table_1_c ?_
  rintro _ H4 ⟨rfl, x4⟩
  have e4 := e3.trans x4
  have g4 := x4.get g3
  clear x4
  refine ⟨_, _, _, rfl, ?_⟩
  refine HC.mono lists_table_1_c ?_
  rintro _ H5 ⟨rfl, x5⟩
  have e5 := e4.trans x5
  have g5 := x5.get g4
  clear x5
  refine ⟨_, _, _, rfl, ?_⟩
  refine HC.mono lists_table_1_c ?_
  rintro _ H6 ⟨rfl, x6⟩
  have e6 := e5.trans x6
  have g6 := x6.get g5
  clear x6
  refine ⟨_, _, _, rfl, ?_⟩
  refine HC.mono lists_table_1_c ?_
  rintro _ H7 ⟨rfl, x7⟩
  have e7 := e6.trans x7
  have g7 := x7.get g6
  clear x7
  refine ⟨_, _, _, rfl, ?_⟩
  refine HC.mono lists_table_1_c ?_
  rintro _ H8 ⟨rfl, x8⟩
  have e8 := e7.trans x8
  have g8 := x8.get g7
  clear x8
  refine ⟨_, _, _, rfl, ?_⟩
  refine HC.mono lists_table_1_c ?_
  rintro _ H9 ⟨rfl, x9⟩
  have e9 := e8.trans x9
  have g9 := x9.get g8
  clear x9
  refine ⟨_, _, _, rfl, ?_⟩
  refine HC.mono lists_table_1_c ?_
  rintro _ H10 ⟨rfl, x10⟩
  have e10 := e9.trans x10
  have g10 := x10.get g9
  clear x10
  refine ⟨_, _, _, rfl, ?_⟩
  refine HC.mono lists_table_1_c ?_
  rintro _ H11 ⟨rfl, x11⟩
  have e11 := e10.trans x11
  have g11 := x11.get g10
  clear x11
  refine ⟨_, _, _, rfl, ?_⟩
  refine HC.mono lists_table_1_c ?_
  rintro _ H12 ⟨rfl, x12⟩
  have e12 := e11.trans x12
  have g12 := x12.get g11
  clear x12
  refine ⟨_, _, _, rfl, ?_⟩
  refine HC.mono lists_table_1_c ?_
  rintro _ H13 ⟨rfl, x13⟩
  have e13 := e12.trans x13
  have g13 := x13.get g12
  clear x13
  refine ⟨_, _, _, rfl, ?_⟩
  refine HC.mono lists_table_1_c ?_
  rintro _ H14 ⟨rfl, x14⟩
  have e14 := e13.trans x14
  have g14 := x14.get g13
  clear x14
  refine ⟨_, _, _, rfl, ?_⟩
  refine HC.mono lists_table_1_c ?_
  rintro _ H15 ⟨rfl, x15⟩
  have e15 := e14.trans x15
  have g15 := x15.get g14
  clear x15
  refine ⟨_, _, _, rfl, ?_⟩
  refine HC.mono lists_table_1_c ?_
  rintro _ H16 ⟨rfl, x16⟩
  have e16 := e15.trans x16
  have g16 := x16.get g15
  clear x16
  refine ⟨_, _, _, rfl, ?_⟩
  refine HC.mono lists_table_1_c ?_
  rintro _ H17 ⟨rfl, x17⟩
  have e17 := e16.trans x17
  have g17 := x17.get g16
  clear x17
  refine ⟨_, _, _, rfl, ?_⟩
  refine HC.mono lists_table_1_c ?_
  rintro _ H18 ⟨rfl, x18⟩
  have e18 := e17.trans x18
  have g18 := x18.get g17
  clear x18
  refine ⟨_, _, _, rfl, ?_⟩
  refine HC.mono lists_table_1_c ?_
  rintro _ H19 ⟨rfl, x19⟩
  have e19 := e18.trans x19
  have g19 := x19.get g18
  clear x19
  refine ⟨_, _, _, rfl, ?_⟩
  refine HC.mono lists_table_1_c ?_
  rintro _ H20 ⟨rfl, x20⟩
  have e20 := e19.trans x20
  have g20 := x20.get g19
  clear x20
  refine ⟨_, _, _, rfl, ?_⟩
  refine HC.mono lists_table_1_c ?_
  rintro _ H21 ⟨rfl, x21⟩
  have e21 := e20.trans x21
  have g21 := x21.get g20
  clear x21
  refine ⟨_, _, _, rfl, ?_⟩
  refine HC.mono lists_table_1_c ?_
  rintro _ H22 ⟨rfl, x22⟩
  have e22 := e21.trans x22
  have g22 := x22.get g21
  clear x22
  refine ⟨_, _, _, rfl, ?_⟩
  refine HC.mono lists_table_1_c ?_
  rintro _ H23 ⟨rfl, x23⟩
  have e23 := e22.trans x23
  have g23 := x23.get g22
  clear x23
  refine ⟨_, _, _, rfl, ?_⟩
  refine HC.mono lists_table_1_c ?_
  rintro _ H24 ⟨rfl, x24⟩
  have e24 := e23.trans x24
  have g24 := x24.get g23
  clear x24
  refine ⟨_, _, _, rfl, ?_⟩
  refine HC.mono lists_table_1_c ?_
  rintro _ H25 ⟨rfl, x25⟩
  have e25 := e24.trans x25
  have g25 := x25.get g24
  clear x25
  refine ⟨_, _, _, rfl, ?_⟩
  refine HC.mono lists_table_1_c ?_
  rintro _ H26 ⟨rfl, x26⟩
  have e26 := e25.trans x26
  have g26 := x26.get g25
  clear x26
  refine ⟨_, _, _, rfl, ?_⟩
  refine HC.mono lists_table_1_c ?_
  rintro _ H27 ⟨rfl, x27⟩
  have e27 := e26.trans x27
  have g27 := x27.get g26
  clear x27
  refine ⟨_, _, _, rfl, ?_⟩
  refine HC.mono lists_table_1_c ?_
  rintro _ H28 ⟨rfl, x28⟩
  have e28 := e27.trans x28
  have g28 := x28.get g27
  clear x28
  refine ⟨_, _, _, rfl, ?_⟩
  refine HC.mono lists_table_1_c ?_
  rintro _ H29 ⟨rfl, x29⟩
  have e29 := e28.trans x29
  have g29 := x29.get g28
  clear x29
  refine ⟨_, _, _, rfl, ?_⟩
  refine ⟨canPuts_blk g29 90 0 0 (by simp), fun H30 hH30 => ?_⟩
  obtain ⟨gr, fr⟩ := (box_set (n := 90) (vs := _) g29 (by rfl) (by rfl)).2 H30 hH30
  refine ⟨_, by rfl, box_row gr, ?_⟩
  refine hR _ _ ⟨[(_, 2, 2), (_, 1, 1), (_, 1, 1), (_, 1, 1), (_, 1, 1), (_, 1, 1), (_, 1, 1), (_, 2, 2), (_, 2, 2), (_, 1, 1), (_, 1, 1), (_, 1, 1), (_, 0, -1), (_, 1, 1), (_, 0, -1), (_, 1, 1), (_, 2, 2), (_, 2, 2), (_, 2, 2), (_, 2, 2), (_, 2, 2), (_, 2, 2), (_, 2, 2), (_, 2, 2), (_, 2, 2), (_, 2, 2), (_, 2, 2), (_, 1, 1), (_, 1, 1), (_, 1, 1)], by rfl, by rfl, e29.fr_trans fr (fun i hi => by simp at hi; omega)⟩
def bad22 (n N : Nat) : Bool := decide ((N : Int) < (lm22.getD n (0, 0)).1) || (decide (0 ≤ (lm22.getD n (0, 0)).2) && decide ((lm22.getD n (0, 0)).2 < (N : Int)))
theorem apply_pre {H : Array Obj} {nv : Int} {N : Nat} {q : Bool} {K : Bool → Array Obj → Prop} (n : Nat) (hn : n < 30) (hnv : nv = n) (hq : bad22 n N = q) (hK : ∀ H4, Ext H H4 → K q H4) :
   lists_table.C  H (fun v H1 => ∃ x_2 : List Value, v = .agg (x_2).toArray ∧ x_2.length = 90 ∧ 
    ∃ xName : ByteArray, ∃ xLeast : Int, ∃ xMost : Int, ((0 ≤ nv ∧ nv < (30 : Int)) ∧ (((x_2 : List Value).toArray.toList).drop (Int.toNat nv * 3)).take 3 = [.string xName, .int .i64 xLeast, .int .i64 xMost]) ∧
    ∀ (b : Nat) (H2 : Array Obj), b = H1.size → H2 = H1.push (.cells #[.string (ByteArray.mk #[]), .int .i64 0, .int .i64 0] 45) →
    (CanPuts H2 (Addr.mk b 0 none) 0 3) ∧ ∀ H3 : Array Obj, H3 = hputs H2 (Addr.mk b 0 none) [.string xName, .int .i64 xLeast, .int .i64 xMost] 0 →
    ∃ J : Bool → Array Obj → Prop, (
     ∃ x_27 : Int, hat H3 ((Addr.mk b 0 none).add 1) = some (.int .i64 x_27) ∧
     if (N : Int) < x_27 then (
      J true H3)
     else
     ∃ x_28 : Int, hat H3 ((Addr.mk b 0 none).add 2) = some (.int .i64 x_28) ∧
     if x_28 ≥ 0 then (
      ∃ x_29 : Int, hat H3 ((Addr.mk b 0 none).add 2) = some (.int .i64 x_29) ∧
      J (decide ((N : Int) > x_29)) H3)
     else
     J false H3) ∧ ∀ (s48 : Bool) (H4 : Array Obj), J s48 H4 → K s48 H4) := by
  refine HC.mono lists_table_c ?_
  rintro _ H1 ⟨ps, rfl, hps, e1⟩
  have hl : ps.length = 30 := by have := congrArg List.length hps; rw [List.length_map] at this; exact this
  refine ⟨_, rfl, by rw [flat_len (sz := 3) (fun _ => rfl), hl], (ps[n]'(by omega)).1, (ps[n]'(by omega)).2.1, (ps[n]'(by omega)).2.2, ⟨⟨by omega, by omega⟩, by subst hnv; exact prim_take ps n (by omega)⟩, ?_⟩
  have hm : (ps[n]'(by omega)).2 = lm22.getD n (0, 0) := by rw [← hps]; simp [List.getElem?_eq_getElem (show n < ps.length by omega)]
  intro b H2 hb hH2
  obtain ⟨c3, p3⟩ := box_new (n := 3) (vs := [.string (ps[n]'(by omega)).1, .int .i64 (ps[n]'(by omega)).2.1, .int .i64 (ps[n]'(by omega)).2.2]) hb hH2 rfl rfl
  refine ⟨c3, fun H3 hH3 => ?_⟩
  obtain ⟨g3, e3⟩ := p3 H3 hH3
  refine ⟨fun q' A => q' = q ∧ Ext H A, ⟨_, by rw [box_get g3 1]; rfl, ?_⟩, ?_⟩
  · rw [hm]
    unfold bad22 at hq
    by_cases h1 : (N : Int) < (lm22.getD n (0, 0)).1
    · rw [if_pos h1]; exact ⟨by rw [← hq, decide_eq_true h1]; rfl, e1.trans e3⟩
    rw [if_neg h1]
    refine ⟨_, by rw [box_get g3 2]; rfl, ?_⟩
    rw [hm]
    rw [decide_eq_false h1, Bool.false_or] at hq
    by_cases h2 : (lm22.getD n (0, 0)).2 ≥ 0
    · rw [if_pos h2]
      refine ⟨_, by rw [box_get g3 2]; rfl, ?_, e1.trans e3⟩
      rw [hm, ← hq, decide_eq_true h2]; rfl
    · rw [if_neg h2]
      exact ⟨by rw [← hq, decide_eq_false h2]; rfl, e1.trans e3⟩
  rintro _ H4 ⟨rfl, e4⟩
  exact hK _ e4
end Go.Proofs.YthlohokmnajpoaaGreat
