/-
  texts: letters, truth, what is asked of an argument, what comes ahead of every primitive, texts as slices of runes, what Apply does with them. Proves nothing of any one statement.
-/
import Derived.Test.YthlohokmnajpoaaGreatDoorTextsA
import Derived.Test.YthlohokmnajpoaaGreatDoorFnsC
set_option linter.unusedVariables false
set_option linter.unusedSimpArgs false
namespace Go.Proofs.YthlohokmnajpoaaGreatDoor
open Go

def i32s (l : List Int) : List Value := l.map (Value.int .i32)
theorem allOne_i32s : ∀ ws : List Int, allOne (i32s ws) = true
  | [] => rfl
  | w :: ws => by show (true && allOne (i32s ws)) = true; rw [allOne_i32s ws]; rfl
def isChr (w : Int) : Prop := w % 8 = 4 ∧ w / 8 % 32 = 7 ∧ letterB (w / 256) = true
instance (w : Int) : Decidable (isChr w) := inferInstanceAs (Decidable (_ ∧ _))
def runeW (w : Int) : Int := if isChr w then w / 256 else 0
theorem word_Rune_c' {H : Array Obj} {w : Int} (hw : IsWord w) : word_Rune.C w H (fun v H' => v = .tuple #[.int .i32 (runeW w), .bool (decide (isChr w))] ∧ Ext H H') := by
  refine HC.mono (word_Rune_c hw) ?_
  rintro _ H1 ⟨rfl, e1⟩
  refine ⟨?_, e1⟩
  by_cases h : w % 8 = 4 ∧ w / 8 % 32 = 7 ∧ letterB (w / 256) = true
  · rw [if_pos h]; have h' : isChr w := h; rw [runeW, if_pos h', decide_eq_true h']
  · rw [if_neg h]; have h' : ¬ isChr w := h; rw [runeW, if_neg h', decide_eq_false h']
theorem texts_letters_c {H : Array Obj} {lB : Option Addr} {lN lC : Nat} {ws : List Int} (hsrc : SrcAt H lB (wvs ws)) (hlen : lN = ws.length) (hw : ∀ w ∈ ws, IsWord w) (hl : ws.length ≤ 1000000) :
    texts_letters.C lB lN lC H (fun v H' => ∃ B c, v = .slice B ws.length c ∧ Own H' 21 1 B ws.length c (i32s (ws.map runeW)) ∧ (∀ i ∈ blks B, H.size ≤ i) ∧ Ext H H') := by
  subst hlen
  refine HC.via fun R hR => texts_letters.link ?_
  unfold texts_letters.pt
  refine ⟨fun B n c i A => ∃ k : Nat, i = k ∧ n = k ∧ k ≤ ws.length ∧ Own A 21 1 B k c (i32s ((ws.map runeW).take k)) ∧ (∀ i ∈ blks B, H.size ≤ i) ∧ Ext H A, fun _ _ _ i _ => (ws.length - i).toNat,
    ⟨0, rfl, rfl, by omega, by simpa [i32s] using own_nil, by simp, Ext.refl _⟩, ?_⟩
  rintro B n c i A ⟨k, rfl, rfl, hk, how, hy, eA⟩
  by_cases hlt : (n : Int) < (ws.length : Int)
  · rw [if_pos hlt]
    have hlt' : n < ws.length := by omega
    have hsA := hsrc.ext eA
    obtain ⟨a, rfl, hat'⟩ : ∃ a, lB = some a ∧ hat A (a.add (Int.toNat (n : Int) * 1)) = some (.int .u64 ws[n]) := by
      cases lB with
      | none => have h0 : wvs ws = [] := hsrc
                have := congrArg List.length h0; simp [wvs] at this; subst this; simp at hlt'
      | some a =>
        refine ⟨a, rfl, ?_⟩
        rw [show Int.toNat (n : Int) * 1 = n by omega]
        have := rowAt_hat hsA n (.int .u64 ws[n]) (by simp [wvs, hlt'])
        rwa [Nat.zero_add] at this
    refine ⟨a, rfl, ⟨by omega, hlt⟩, ws[n], hat', ?_⟩
    refine HC.mono (word_Rune_c' (hw _ (List.getElem_mem _))) ?_
    rintro _ H2 ⟨rfl, e2⟩
    refine ⟨_, _, rfl, fun b H3 hb hH3 => ?_⟩
    have e3 : Ext H2 H3 := Ext.push' hH3
    refine own_append (ys := i32s [runeW ws[n]]) (how.ext (e2.trans e3)) (rowAt_blk (push_get hb hH3) _ 0 0 (fun j hj => by simp [i32s])) (by simp [i32s]) (allOne_i32s _) rfl (by omega) ?_
    intro p' c' H4 how4 f4 hnew
    rw [w64 (by omega)]
    have s3 := (e2.trans e3).size
    have sA := eA.size
    refine ⟨⟨n + 1, by omega, rfl, by omega, ?_, fun i hi => ?_, (eA.trans (e2.trans e3)).fr_trans f4 (fun i hi => hy i hi)⟩, by show ((ws.length : Int) - (n + 1)).toNat < ((ws.length : Int) - n).toNat; omega⟩
    · rw [List.take_succ_eq_append_getElem (by simpa using hlt')]
      simpa [i32s] using how4
    · rcases hnew i hi with h | h
      · exact hy i h
      · omega
  · rw [if_neg hlt]
    obtain rfl : n = ws.length := by omega
    refine hR _ _ ⟨B, c, rfl, ?_, hy, eA⟩
    rw [List.take_of_length_le (by simp)] at how
    exact how
theorem texts_is_chr {H : Array Obj} {hv : Option Addr} {w : Int} (hw : IsWord w) : texts_is.C hv w 1 H (fun v H' => v = .bool (decide (isChr w)) ∧ Ext H H') := by
  refine HC.via fun R hR => texts_is.link ?_
  unfold texts_is.pt
  rw [if_pos rfl]
  refine HC.mono (word_Rune_c' hw) ?_
  rintro _ H1 ⟨rfl, e1⟩
  exact ⟨_, _, rfl, hR _ _ ⟨rfl, e1⟩⟩
theorem texts_is_str {H : Array Obj} {hv : Option Addr} {o : Option (Blk × Hp)} {w : Int} (V : View H hv o) (hw : IsWord w) : texts_is.C hv w 2 H (fun v H' => v = .bool ((mof o).typ w == 2) ∧ Ext H H') := by
  refine HC.via fun R hR => texts_is.link ?_
  unfold texts_is.pt
  rw [if_neg (by decide), if_pos rfl]
  refine HC.mono (obj_Type_c V hw) ?_
  rintro _ H1 ⟨rfl, e1⟩
  exact ⟨_, rfl, hR _ _ ⟨rfl, e1⟩⟩
theorem texts_is_num {H : Array Obj} {hv : Option Addr} {w : Int} (hw : IsWord w) : texts_is.C hv w 3 H (fun v H' => v = .bool (decide (w % 8 = 0)) ∧ Ext H H') := by
  refine HC.via fun R hR => texts_is.link ?_
  unfold texts_is.pt
  rw [if_neg (by decide), if_neg (by decide), if_pos rfl]
  refine HC.mono (word_Int_c hw) ?_
  rintro _ H1 ⟨rfl, e1⟩
  by_cases h : w % 8 = 0
  · rw [if_pos h]; exact ⟨_, _, rfl, hR _ _ ⟨by rw [decide_eq_true h], e1⟩⟩
  · rw [if_neg h]; exact ⟨_, _, rfl, hR _ _ ⟨by rw [decide_eq_false h], e1⟩⟩
theorem texts_is_vec {H : Array Obj} {hv : Option Addr} {o : Option (Blk × Hp)} {w : Int} (V : View H hv o) (hw : IsWord w) : texts_is.C hv w 4 H (fun v H' => v = .bool ((mof o).typ w == 1) ∧ Ext H H') := by
  refine HC.via fun R hR => texts_is.link ?_
  unfold texts_is.pt
  rw [if_neg (by decide), if_neg (by decide), if_neg (by decide), if_pos rfl]
  refine HC.mono (obj_Type_c V hw) ?_
  rintro _ H1 ⟨rfl, e1⟩
  exact ⟨_, rfl, hR _ _ ⟨rfl, e1⟩⟩
theorem texts_is_list {H : Array Obj} {hv : Option Addr} {o : Option (Blk × Hp)} {w last : Int} {l : List (Int × Int)} (V : View H hv o) (hch : Chain (mof o) w l last) (hl : l.length ≤ 30000) : texts_is.C hv w 6 H (fun v H' => v = .bool (decide (last = 20)) ∧ Ext H H') := by
  refine HC.via fun R hR => texts_is.link ?_
  unfold texts_is.pt
  rw [if_neg (by decide), if_neg (by decide), if_neg (by decide), if_neg (by decide), if_neg (by decide), if_pos rfl]
  refine HC.mono (lists_List_c V hch hl) ?_
  rintro _ H1 ⟨e1, ⟨h20, rfl⟩ | ⟨h20, B, c, rfl, _, _⟩⟩
  · exact ⟨_, _, _, _, rfl, hR _ _ ⟨by rw [decide_eq_false h20], e1⟩⟩
  · exact ⟨_, _, _, _, rfl, hR _ _ ⟨by rw [decide_eq_true h20], e1⟩⟩
def bad23 (n N : Nat) : Bool := decide ((N : Int) < (lm23.getD n (0, 0, 0)).1) || (decide ((lm23.getD n (0, 0, 0)).2.1 ≥ 0) && decide ((N : Int) > (lm23.getD n (0, 0, 0)).2.1))
def kind23 (n i : Nat) : Int := (kinds23.getD n []).getD (min ((kinds23.getD n []).length - 1) i) 0
theorem kinds23_len : ((List.range 32).all fun n => (decide (0 < (kinds23.getD n []).length) && ((lm23.getD n (0, 0, 0)).2.2 == (kinds23.getD n []).length)) && decide ((kinds23.getD n []).length ≤ 3)) = true := by kernel_rfl
theorem kinds23_at {n : Nat} (h : n < 32) : 0 < (kinds23.getD n []).length ∧ (lm23.getD n (0, 0, 0)).2.2 = (kinds23.getD n []).length ∧ (kinds23.getD n []).length ≤ 3 := by
  have := List.all_eq_true.1 kinds23_len n (List.mem_range.2 h)
  simp only [Bool.and_eq_true, beq_iff_eq, decide_eq_true_eq] at this
  exact ⟨this.1.1, this.1.2, this.2⟩
set_option maxRecDepth 100000 in
theorem texts_pre {H : Array Obj} {nv : Int} {N : Nat} {hvA : Addr} {argsB : Option Addr} {ws : List Int} (n : Nat) (hn : n < 32) (hnv : nv = n) (hb : bad23 n N = false) (hsrc : SrcAt H argsB (wvs ws)) (hlen : N = ws.length) (hl : ws.length ≤ 1000000)
    (ok : Nat → Bool) (his : ∀ i (h : i < ws.length) A, Ext H A → texts_is.C (some hvA) ws[i] (kind23 n i) A (fun v A' => v = .bool (ok i) ∧ Ext A A')) {R0 : Array Obj → Prop} {R3 : Array Obj → Prop} {K : Array Obj → Prop} (hno : (∃ i, i < ws.length ∧ ok i = false) → ∀ A, Ext H A → R3 A) (hK : (∀ i, i < ws.length → ok i = true) → ∀ A, Ext H A → K A) :
   texts_table.C  H (fun v H1 => ∃ x_2 : List Value, v = .agg (x_2).toArray ∧ x_2.length = 128 ∧ 
    ∃ xPrimName : ByteArray, ∃ xPrimLeast : Int, ∃ xPrimMost : Int, ∃ xkindsB : Option Addr, ∃ xkindsN : Nat, ∃ xkindsC : Nat, ((0 ≤ nv ∧ nv < (32 : Int)) ∧ (((x_2 : List Value).toArray.toList).drop (Int.toNat nv * 4)).take 4 = [.string xPrimName, .int .i64 xPrimLeast, .int .i64 xPrimMost, .slice xkindsB xkindsN xkindsC]) ∧
    ∀ (b : Nat) (H2 : Array Obj), b = H1.size → H2 = H1.push (.cells #[.string (ByteArray.mk #[]), .int .i64 0, .int .i64 0, .slice none 0 0] 125) →
    (CanPuts H2 (Addr.mk b 0 none) 0 4) ∧ ∀ H3 : Array Obj, H3 = hputs H2 (Addr.mk b 0 none) [.string xPrimName, .int .i64 xPrimLeast, .int .i64 xPrimMost, .slice xkindsB xkindsN xkindsC] 0 →
    ∃ J : Bool → Array Obj → Prop, (
     ∃ x_15 : Int, hat H3 ((Addr.mk b 0 none).add 1) = some (.int .i64 x_15) ∧
     if (N : Int) < x_15 then (
      J true H3)
     else
     ∃ x_16 : Int, hat H3 ((Addr.mk b 0 none).add 2) = some (.int .i64 x_16) ∧
     if x_16 ≥ 0 then (
      ∃ x_17 : Int, hat H3 ((Addr.mk b 0 none).add 2) = some (.int .i64 x_17) ∧
      J (decide ((N : Int) > x_17)) H3)
     else
     J false H3) ∧ ∀ (s59 : Bool) (H4 : Array Obj), J s59 H4 →
    if s59 = true then (
     R0 H4)
    else
    ∃ (I27 : Int → Array Obj → Prop) (m27 : Int → Array Obj → Nat), I27 0 H4 ∧ ∀ (s62 : Int) (H5 : Array Obj), I27 s62 H5 →
    if s62 < (N : Int) then (
     ∃ argsBA : Addr, argsB = some argsBA ∧
     ((0 : Int) ≤ s62 ∧ s62 < (N : Int)) ∧
     ∃ x_3 : Int, hat H5 (argsBA.add (Int.toNat s62 * 1)) = some (.int .u64 x_3) ∧
     ∃ xB : Option Addr, ∃ xN : Nat, ∃ xC : Nat, hat H5 ((Addr.mk b 0 none).add 3) = some (.slice xB xN xC) ∧
     ∃ xB_2 : Option Addr, ∃ xN_2 : Nat, ∃ xC_2 : Nat, hat H5 ((Addr.mk b 0 none).add 3) = some (.slice xB_2 xN_2 xC_2) ∧
     ∃ xBA : Addr, xB = some xBA ∧
     ((0 : Int) ≤ (if (IntKind.wrap .i64 ((xN_2 : Int) - 1)) < s62 then (IntKind.wrap .i64 ((xN_2 : Int) - 1)) else s62) ∧ (if (IntKind.wrap .i64 ((xN_2 : Int) - 1)) < s62 then (IntKind.wrap .i64 ((xN_2 : Int) - 1)) else s62) < (xN : Int)) ∧
     ∃ x_4 : Int, hat H5 (xBA.add (Int.toNat (if (IntKind.wrap .i64 ((xN_2 : Int) - 1)) < s62 then (IntKind.wrap .i64 ((xN_2 : Int) - 1)) else s62) * 1)) = some (.int .i64 x_4) ∧
     texts_is.C (some hvA) x_3 x_4 H5 (fun v_2 H6 => ∃ x_5 : Bool, v_2 = .bool x_5 ∧ 
      if x_5 = true then (
       (I27 (IntKind.wrap .i64 (s62 + 1)) H6 ∧ m27 (IntKind.wrap .i64 (s62 + 1)) H6 < m27 s62 H5))
      else
      R3 H6))
    else
    K H5) := by
  subst hlen
  refine HC.mono texts_table_c ?_
  rintro _ H1 ⟨ps, rfl, hps, hks, e1⟩
  have hl32 : ps.length = 32 := by have := congrArg List.length hps; rw [List.length_map] at this; exact this
  have hlt : n < ps.length := by omega
  obtain ⟨hk0, hkn, hk3⟩ := kinds23_at hn
  have hm : (ps[n].least, ps[n].most, ps[n].kn) = lm23.getD n (0, 0, 0) := by rw [← hps]; simp [List.getElem?_eq_getElem hlt]
  have hm1 : ps[n].least = (lm23.getD n (0, 0, 0)).1 := by rw [← hm]
  have hm2 : ps[n].most = (lm23.getD n (0, 0, 0)).2.1 := by rw [← hm]
  have hm3 : ps[n].kn = (kinds23.getD n []).length := by rw [← hkn, ← hm]
  have hks' : SrcAt H1 ps[n].kb (i64s (kinds23.getD n [])) := by
    have := hks.get hlt (show n < kinds23.length from hn)
    have e : kinds23.getD n [] = kinds23[n]'(show n < kinds23.length from hn) := by rw [List.getD_eq_getElem?_getD, List.getElem?_eq_getElem (show n < kinds23.length from hn)]; rfl
    rw [e]; exact this
  have hsome : ∃ ka, ps[n].kb = some ka := by
    cases hkb : ps[n].kb with
    | none => rw [hkb] at hks'
              have := congrArg List.length (show i64s (kinds23.getD n []) = [] from hks')
              simp only [i64s, List.length_map, List.length_nil] at this; omega
    | some ka => exact ⟨ka, rfl⟩
  obtain ⟨ka, hka⟩ := hsome
  rw [hka] at hks'
  generalize hP : ps[n] = P at *
  refine ⟨_, rfl, by rw [flat_len (sz := 4) (fun _ => rfl), hl32], P.name, P.least, P.most, P.kb, P.kn, P.kc, ⟨⟨by omega, by omega⟩, by rw [hnv, Int.toNat_natCast]; exact (p23_take ps n hlt).trans (by rw [hP]; rfl)⟩, ?_⟩
  intro b H2 hb2 hH2
  obtain ⟨c3, p3⟩ := box_new (n := 4) (vs := [.string P.name, .int .i64 P.least, .int .i64 P.most, .slice P.kb P.kn P.kc]) hb2 hH2 rfl rfl
  refine ⟨c3, fun H3 hH3 => ?_⟩
  obtain ⟨g3, e3⟩ := p3 H3 hH3
  refine ⟨fun q' A => q' = false ∧ H3 = A, ⟨_, by rw [box_get g3 1]; rfl, ?_⟩, ?_⟩
  · unfold bad23 at hb
    rw [← hm1, ← hm2] at hb
    have h1 : ¬ (ws.length : Int) < P.least := fun h => by rw [decide_eq_true h] at hb; simp at hb
    rw [if_neg h1]
    refine ⟨_, by rw [box_get g3 2]; rfl, ?_⟩
    rw [decide_eq_false h1, Bool.false_or] at hb
    by_cases h2 : P.most ≥ 0
    · rw [if_pos h2]
      rw [decide_eq_true h2, Bool.true_and] at hb
      exact ⟨_, by rw [box_get g3 2]; rfl, hb, rfl⟩
    · rw [if_neg h2]
      exact ⟨rfl, rfl⟩
  rintro _ H4 ⟨rfl, hH4⟩
  subst hH4
  rw [if_neg (by decide)]
  have e03 := e1.trans e3
  refine ⟨fun i A => ∃ k : Nat, i = k ∧ k ≤ ws.length ∧ (∀ j, j < k → ok j = true) ∧ Ext H3 A, fun i _ => (ws.length - i).toNat, ⟨0, rfl, by omega, fun j h => by omega, Ext.refl _⟩, ?_⟩
  rintro i A ⟨k, rfl, hk, hok, eA⟩
  by_cases hlt2 : (k : Int) < (ws.length : Int)
  · rw [if_pos hlt2]
    have hlt' : k < ws.length := by omega
    have hsA := hsrc.ext (e03.trans eA)
    obtain ⟨a, rfl, hat'⟩ : ∃ a, argsB = some a ∧ hat A (a.add (Int.toNat (k : Int) * 1)) = some (.int .u64 ws[k]) := by
      cases argsB with
      | none => have h0 : wvs ws = [] := hsrc
                have := congrArg List.length h0; simp [wvs] at this; subst this; simp at hlt'
      | some a =>
        refine ⟨a, rfl, ?_⟩
        rw [show Int.toNat (k : Int) * 1 = k by omega]
        have := rowAt_hat hsA k (.int .u64 ws[k]) (by simp [wvs, hlt'])
        rwa [Nat.zero_add] at this
    have g3A := eA.get g3
    have w1 : IntKind.wrap .i64 ((P.kn : Int) - 1) = (P.kn : Int) - 1 := w64 (by omega)
    have hmin : (if (P.kn : Int) - 1 < (k : Int) then (P.kn : Int) - 1 else (k : Int)) = ((min ((kinds23.getD n []).length - 1) k : Nat) : Int) := by
      rw [hm3]; split <;> omega
    refine ⟨a, rfl, ⟨by omega, hlt2⟩, ws[k], hat', P.kb, P.kn, P.kc, by rw [box_get g3A 3]; rfl, P.kb, P.kn, P.kc, by rw [box_get g3A 3]; rfl, ka, hka, ?_, kind23 n k, ?_, ?_⟩
    · rw [w1, hmin, hm3]; omega
    · rw [w1, hmin, Int.toNat_natCast, Nat.mul_one]
      have hks3 : RowAt A ka 0 (i64s (kinds23.getD n [])) := (SrcAt.ext (p := some ka) hks' (e3.trans eA))
      have := rowAt_hat hks3 (min ((kinds23.getD n []).length - 1) k) (.int .i64 (kind23 n k)) (by
        rw [i64s, List.getElem?_map, kind23, List.getD_eq_getElem?_getD (l := kinds23.getD n []), List.getElem?_eq_getElem (l := kinds23.getD n []) (by omega)]; rfl)
      rwa [Nat.zero_add] at this
    refine HC.mono (his k hlt' A (e03.trans eA)) ?_
    rintro _ H6 ⟨rfl, e6⟩
    refine ⟨_, rfl, ?_⟩
    by_cases hokk : ok k = true
    · rw [if_pos hokk, w64 (by omega)]
      exact ⟨⟨k + 1, by omega, by omega, fun j hj => by
        rcases Nat.lt_or_ge j k with h | h
        · exact hok j h
        · rw [show j = k by omega]; exact hokk, eA.trans e6⟩, by show ((ws.length : Int) - (k + 1)).toNat < ((ws.length : Int) - k).toNat; omega⟩
    · rw [if_neg hokk]
      exact hno ⟨k, hlt', by simpa using hokk⟩ _ ((e03.trans eA).trans e6)
  · rw [if_neg hlt2]
    exact hK (fun i hi => hok i (by omega)) _ (e03.trans eA)
theorem arg1_src {H : Array Obj} {b : Nat} {w : Int} {T : TypeId} (h : H[b]? = some (.cells #[.int .u64 w] T (0, 0))) : SrcAt H (some ⟨b, 0, none⟩) (wvs [w]) := rowAt_blk h _ 0 0 (fun j hj => by simp [wvs])
theorem arg1_at {H : Array Obj} {b : Nat} {w : Int} {T : TypeId} (h : H[b]? = some (.cells #[.int .u64 w] T (0, 0))) : hat H ((Addr.mk b 0 none).add (Int.toNat 0 * 1)) = some (.int .u64 w) := by
  rw [show Int.toNat 0 * 1 = 0 from rfl, addr_plus0, hat_blk h]; rfl
def textOf (m : Mem) (w : Int) : ByteArray := if m.isObj w ∧ m.typ w = 2 then wordsText (m.objWords w) else ⟨#[]⟩
def iterM (b : Nat) (A : Array Obj) : Nat := match A[b]? with | some (.stringIter s pos) => s.size - pos | _ => 0
theorem obj_Text_c' {H : Array Obj} {hv : Option Addr} {o : Option (Blk × Hp)} {w : Int} (V : View H hv o) (hw : IsWord w) :
    obj_Heap_Text.C hv w H (fun v H' => (∃ er : Int, v = .tuple #[.string (textOf (mof o) w), .int .i64 er]) ∧ Ext H H') := by
  refine HC.mono (obj_Text_c V hw) ?_
  rintro v H1 ⟨hv1, e1⟩
  refine ⟨?_, e1⟩
  unfold textOf
  by_cases h : (mof o).isObj w ∧ (mof o).typ w = 2
  · rw [if_pos h] at hv1 ⊢; exact ⟨_, hv1⟩
  · rw [if_neg h] at hv1 ⊢; exact ⟨_, hv1⟩
theorem runes_each {H : Array Obj} {yield : Value} {p q : Nat} {hv : Option Addr} {o : Option (Blk × Hp)} {w : Int} {R0 : Array Obj → Prop} {rs : List Int} (Inv : Nat → Nat → Array Obj → Prop) (V : View H hv o) (hw : IsWord w)
    (hp : H[p]? = some (.cells #[.pointer hv] 30 (0, 0))) (hq : H[q]? = some (.cells #[.int .u64 w] 35 (0, 0))) (hrs0 : runesOf (textOf (mof o) w) = rs)
    (h0 : ∀ b A, H.size ≤ b → Ext H A → Inv b 0 A)
    (hkeep : ∀ b k A A', H.size ≤ b → Inv b k A → Fr [b] A A' → Inv b k A')
    (hstep : ∀ b k (h : k < rs.length) A, H.size ≤ b → b < A.size → Inv b k A → FC Tryz.prog yield #[.int .i32 rs[k]] A (fun v A' => ∃ x : Bool, v = .bool x ∧ (x = true → Inv b (k + 1) A' ∧ A'[b]? = A[b]?) ∧ (x = false → R0 A')))
    (hend : ∀ b A, H.size ≤ b → Inv b rs.length A → R0 A) :
    texts_runes_1.C yield (some ⟨p, 0, none⟩) (some ⟨q, 0, none⟩) H (fun v A => v = .tuple #[] ∧ R0 A) := by
  refine HC.via fun R hR => texts_runes_1.link ?_
  unfold texts_runes_1.pt
  refine ⟨_, rfl, hv, by rw [hat_blk hp]; rfl, _, rfl, w, by rw [hat_blk hq]; rfl, ?_⟩
  refine HC.mono (obj_Text_c' V hw) ?_
  rintro _ H1 ⟨⟨er, rfl⟩, e1⟩
  generalize hs : textOf (mof o) w = s at *
  refine ⟨s, er, rfl, ?_⟩
  intro b H2 hb hH2
  have e2 : Ext H1 H2 := Ext.push' hH2
  have hb1 : H.size ≤ b := by have := e1.size; omega
  refine ⟨fun A => ∃ (pos k : Nat), A[b]? = some (.stringIter s pos) ∧ runesAt s pos = rs.drop k ∧ k ≤ rs.length ∧ Inv b k A, iterM b, ⟨0, 0, push_get hb hH2, by rw [← hrs0]; rfl, by omega, h0 b H2 hb1 (e1.trans e2)⟩, ?_⟩
  rintro A ⟨pos, k, hit, hrs, hk, hI⟩
  refine ⟨s, pos, hit, ?_⟩
  by_cases hpz : pos < s.size
  · rw [if_pos hpz]
    intro H4 hH4
    rw [runesAt_step hpz] at hrs
    have hklt : k < rs.length := by
      rcases Nat.lt_or_ge k rs.length with h | h
      · exact h
      · rw [List.drop_eq_nil_of_le h] at hrs; cases hrs
    rw [List.drop_eq_getElem_cons hklt] at hrs
    obtain ⟨hx, hrs2⟩ := List.cons.inj hrs
    have f4 : Fr [b] A H4 := by rw [hH4]; exact Fr.set
    have hit4 : H4[b]? = some (.stringIter s (pos + (Utf8.decode s pos).2)) := by rw [hH4]; exact setBlk_at hit
    rw [hx]
    refine (hstep b k hklt H4 hb1 (lt_size hit4) (hkeep b k A H4 hb1 hI f4)).mono ?_
    rintro v A' ⟨x, rfl, ht, hf⟩
    refine ⟨x, rfl, ?_⟩
    by_cases hx' : x = true
    · rw [if_pos hx']
      obtain ⟨hI', hk'⟩ := ht hx'
      have hit' := hk'.trans hit4
      refine ⟨⟨_, k + 1, hit', hrs2, by omega, hI'⟩, ?_⟩
      have hd := decode_pos s pos
      have m1 : iterM b A' = s.size - (pos + (Utf8.decode s pos).2) := by unfold iterM; rw [hit']
      have m2 : iterM b A = s.size - pos := by unfold iterM; rw [hit]
      rw [m1, m2]; omega
    · rw [if_neg hx']
      exact hR _ _ ⟨rfl, hf (by simpa using hx')⟩
  · rw [if_neg hpz]
    rw [runesAt_end hpz] at hrs
    have hkl : k = rs.length := by
      have := congrArg List.length hrs; rw [List.length_drop, List.length_nil] at this; omega
    subst hkl
    exact hR _ _ ⟨rfl, hend b A hb1 hI⟩
theorem texts_runes_c {H : Array Obj} {hv : Option Addr} {w : Int} :
    texts_runes.C hv w H (fun v H' => ∃ p q : Nat, v = .func (.func 164) #[] #[.pointer (some ⟨p, 0, none⟩), .pointer (some ⟨q, 0, none⟩)] ∧ H'[p]? = some (.cells #[.pointer hv] 30 (0, 0)) ∧ H'[q]? = some (.cells #[.int .u64 w] 35 (0, 0)) ∧
      H.size ≤ p ∧ H.size ≤ q ∧ Ext H H') := by
  refine HC.via fun R hR => texts_runes.link ?_
  unfold texts_runes.pt
  intro b H1 hb hH1 b2 H2 hb2 hH2
  have e1 : Ext H H1 := Ext.push' hH1
  have e2 : Ext H1 H2 := Ext.push' hH2
  exact hR _ _ ⟨b, b2, rfl, e2.get (push_get hb hH1), push_get hb2 hH2, by omega, by have := e1.size; omega, e1.trans e2⟩
theorem runes_collect {H : Array Obj} {p q : Nat} {hv : Option Addr} {o : Option (Blk × Hp)} {w : Int} {rs : List Int} (V : View H hv o) (hw : IsWord w)
    (hp : H[p]? = some (.cells #[.pointer hv] 30 (0, 0))) (hq : H[q]? = some (.cells #[.int .u64 w] 35 (0, 0))) (hrs : runesOf (textOf (mof o) w) = rs) (hl : rs.length ≤ 1000000) :
    slices_Collect_rune.C (.func (.func 164) #[] #[.pointer (some ⟨p, 0, none⟩), .pointer (some ⟨q, 0, none⟩)]) H
      (fun v H' => ∃ B c, v = .slice B rs.length c ∧ Own H' 21 1 B rs.length c (i32s rs) ∧ (∀ i ∈ blks B, H.size ≤ i) ∧ Ext H H') := by
  refine HC.via fun R hR => slices_Collect_rune.link ?_
  unfold slices_Collect_rune.pt
  refine HC.mono (R := fun v H' => ∃ B c, v = .slice B rs.length c ∧ Own H' 21 1 B rs.length c (i32s rs) ∧ (∀ i ∈ blks B, H.size ≤ i) ∧ Ext H H') ?_ (fun v H' h => by
    obtain ⟨B, c, rfl, ho, hy, e⟩ := h
    exact ⟨_, _, _, rfl, hR _ _ ⟨B, c, rfl, ho, hy, e⟩⟩)
  refine HC.via fun R hR => slices_AppendSeq_rune_rune.link ?_
  unfold slices_AppendSeq_rune_rune.pt
  intro b H1 hb hH1 rc lp H2 hlp hH2 vY hY
  have e1 : Ext H H1 := Ext.push' hH1
  have s1 : H1.size = H.size + 1 := by rw [hH1]; simp
  have e12 : Ext (H1.push (.deferred (some []))) H2 := Ext.push' hH2
  have hl2 : H2[lp]? = some (rc .ready none) := push_get (by simp; omega) hH2
  have hd2 : H2[H1.size]? = some (.deferred (some [])) := e12.get (push_get rfl rfl)
  have e2 : Ext H1 H2 := (Ext.push H1 _).trans e12
  have s2 : H2.size = H1.size + 2 := by rw [hH2]; simp
  have e02 := e1.trans e2
  refine FE.of2 (enters_of Tryz.func164 (by kernel_rfl) rfl) rfl (HC.mono (runes_each (fun bi k A => ∃ (B : Option Addr) (c : Nat), Bx [(lp, rc .ready none), (H1.size, .deferred (some [])), (b, .cells #[.slice B k c] 65 (0, 0))] A ∧ Own A 21 1 B k c (i32s (rs.take k)) ∧ (∀ i ∈ blks B, H2.size ≤ i ∧ i ≠ bi) ∧ Ext H A ∧ H2.size ≤ A.size)
    (V.ext e02) hw (e02.get hp) (e02.get hq) hrs ?_ ?_ ?_ ?_) (fun v A h => h.2))
  · intro bi A hbi eA
    refine ⟨none, 0, ?_, by simpa [i32s] using own_nil, by simp, e02.trans eA, eA.size⟩
    exact .cons (eA.get hl2) (.cons (eA.get hd2) (.cons (eA.get (e2.get (push_get hb hH1))) .nil))
  · rintro bi k A A' hbi ⟨B, c, bx, how, hy, eA, sA⟩ f
    have := f.size
    refine ⟨B, c, bx.fr f (fun q hq => by simp at hq; rcases hq with rfl | rfl | rfl <;> simp <;> omega), how.keep f (fun i hi => by have := (hy i hi).2; simpa using this), hy, eA.fr_trans f (fun i hi => by simp at hi; omega), by omega⟩
  · rintro bi k hk A hbi hbA ⟨B, c, bx, how, hy, eA, sA⟩
    refine hY rs[k] A _ bx.head ⟨bx.head, fun H4 hH4 => ?_⟩
    have f4 : Fr [lp] A H4 := by rw [hH4]; exact Fr.set
    have q4 : H4[lp]? = some (rc .busy none) := by rw [hH4]; exact setBlk_at bx.head
    have bx4 := bx.tail.fr f4 (fun q hq => by simp at hq; rcases hq with rfl | rfl <;> simp <;> omega)
    have how4 := how.keep f4 (fun i hi => by have := (hy i hi).1; simp; omega)
    refine ⟨B, k, c, by rw [hat_blk (bx4.nth 1 rfl)]; rfl, fun b2 H5 hb2 hH5 => ?_⟩
    have e5 : Ext H4 H5 := Ext.push' hH5
    refine own_append (ys := i32s [rs[k]]) (how4.ext e5) (rowAt_blk (push_get hb2 hH5) _ 0 0 (fun j hj => by simp [i32s])) (by simp [i32s]) (allOne_i32s _) rfl (by omega) ?_
    intro p' c' H6 how6 f6 hnew
    have nB : ∀ x, x < H2.size → x ∉ blks B := fun x h hi => by have := (hy x hi).1; omega
    have g6 := f6.get (nB b (by omega)) (e5.get (bx4.nth 1 rfl))
    obtain ⟨c7, p7⟩ := box_set (vs := [.slice p' (k + 1) c']) g6 rfl rfl
    refine ⟨c7, fun H7 hH7 => ?_⟩
    obtain ⟨g7, f7⟩ := p7 H7 hH7
    have q7 : H7[lp]? = some (rc .busy none) := f7.get (by simp; omega) (f6.get (nB lp (by omega)) (e5.get q4))
    refine ⟨q7, true, rfl, fun _ => ?_, fun h => by cases h⟩
    have f8 : Fr [lp] H7 (setBlk H7 lp (rc .ready none)) := Fr.set
    have s4 := f4.size
    have s5 := e5.size
    have F : Fr (lp :: b :: blks B) A (setBlk H7 lp (rc .ready none)) :=
      ((((f4.mono (fun i hi _ => by simp at hi; simp [hi])).trans e5.fr).trans (f6.mono (fun i hi _ => by simp [hi]))).trans (f7.mono (fun i hi _ => by simp at hi; simp [hi]))).trans (f8.mono (fun i hi _ => by simp at hi; simp [hi]))
    have hyp : ∀ i ∈ blks p', H2.size ≤ i ∧ i ≠ bi := fun i hi => by
      rcases hnew i hi with h | h
      · exact hy i h
      · exact ⟨by omega, by omega⟩
    have s1' := e02.size
    have nF : ∀ x, x ≠ lp → x ≠ b → x ∉ blks B → x ∉ lp :: b :: blks B := fun x h1 h2 h3 h => by
      rcases List.mem_cons.1 h with h | h
      · exact h1 h
      rcases List.mem_cons.1 h with h | h
      · exact h2 h
      · exact h3 h
    refine ⟨⟨p', c', .cons (setBlk_at q7) (.cons (F.get (nF _ (by omega) (by omega) (nB _ (by omega))) (bx.nth 1 rfl)) (.cons (f8.get (by simp; omega) g7) .nil)), ?_, hyp, eA.fr_trans F (fun i hi => ?_), by have := F.size; omega⟩, F.2 bi hbA (nF _ (by omega) (by omega) (fun hi => (hy bi hi).2 rfl))⟩
    · have h7 := (how6.keep f7 (fun i hi => by have := (hyp i hi).1; simp; omega)).keep f8 (fun i hi => by have := (hyp i hi).1; simp; omega)
      rw [List.take_succ_eq_append_getElem hk, i32s, List.map_append]
      exact h7
    · rcases List.mem_cons.1 hi with h | h
      · omega
      rcases List.mem_cons.1 h with h | h
      · omega
      · have := (hy i h).1; omega
  · rintro bi A hbi ⟨B, c, bx, how, hy, eA, sA⟩
    refine ⟨bx.head, fun H9 hH9 => ?_⟩
    have f9 : Fr [lp] A H9 := by rw [hH9]; exact Fr.set
    have g9 := f9.get (b := b) (by simp; omega) (bx.nth 2 rfl)
    refine ⟨B, _, c, by rw [hat_blk g9]; rfl, ?_⟩
    have gd := f9.get (b := H1.size) (by simp; omega) (bx.nth 1 rfl)
    refine ⟨gd, ?_⟩
    have fd : Fr [H1.size] H9 (H9.setIfInBounds H1.size (.deferred none)) := Fr.set
    have s1' := e02.size
    refine hR _ _ ⟨B, c, rfl, ?_, fun i hi => by have := (hy i hi).1; omega, (eA.fr_trans f9 (fun i hi => by simp at hi; omega)).fr_trans fd (fun i hi => by simp at hi; omega)⟩
    have := (how.keep f9 (fun i hi => by have := (hy i hi).1; simp; omega)).keep fd (fun i hi => by have := (hy i hi).1; simp; omega)
    rwa [List.take_of_length_le (Nat.le_refl _)] at this
abbrev Slr := Option Addr × Nat × Nat
def slV (s : Slr) : Value := .slice s.1 s.2.1 s.2.2
def Each (A : Array Obj) (P : Nat → Prop) : List Slr → List (List Int) → Prop
  | [], [] => True
  | s :: ss, r :: rs => (Own A 21 1 s.1 r.length s.2.2 (i32s r) ∧ s.2.1 = r.length ∧ ∀ j ∈ blks s.1, P j) ∧ Each A P ss rs
  | _, _ => False
theorem Each.len {A : Array Obj} {P : Nat → Prop} : ∀ {ss : List Slr} {rs : List (List Int)}, Each A P ss rs → ss.length = rs.length
  | [], [], _ => rfl
  | _ :: ss, _ :: rs, h => by have := Each.len (ss := ss) (rs := rs) h.2; simp [this]
  | [], _ :: _, h => h.elim
  | _ :: _, [], h => h.elim
theorem Each.keep {A A' : Array Obj} {S : List Nat} {P P' : Nat → Prop} (f : Fr S A A') (hS : ∀ j, P j → j ∉ S) (hP : ∀ j, j < A.size → P j → P' j) : ∀ {ss : List Slr} {rs : List (List Int)}, Each A P ss rs → Each A' P' ss rs
  | [], [], _ => trivial
  | _ :: ss, _ :: rs, h => ⟨⟨h.1.1.keep f (fun j hj => hS j (h.1.2.2 j hj)), h.1.2.1, fun j hj => hP j (h.1.1.lt j hj) (h.1.2.2 j hj)⟩, Each.keep f hS hP (ss := ss) (rs := rs) h.2⟩
  | [], _ :: _, h => h.elim
  | _ :: _, [], h => h.elim
theorem Each.snoc {A : Array Obj} {P : Nat → Prop} {s : Slr} {r : List Int} (hs : Own A 21 1 s.1 r.length s.2.2 (i32s r) ∧ s.2.1 = r.length ∧ ∀ j ∈ blks s.1, P j) : ∀ {ss : List Slr} {rs : List (List Int)}, Each A P ss rs → Each A P (ss ++ [s]) (rs ++ [r])
  | [], [], _ => ⟨hs, trivial⟩
  | _ :: ss, _ :: rs, h => ⟨h.1, Each.snoc hs (ss := ss) (rs := rs) h.2⟩
  | [], _ :: _, h => h.elim
  | _ :: _, [], h => h.elim
theorem Each.get {A : Array Obj} {P : Nat → Prop} : ∀ {ss : List Slr} {rs : List (List Int)} (h : Each A P ss rs) (i : Nat) {r : List Int}, rs[i]? = some r → ∃ s : Slr, ss[i]? = some s ∧ Own A 21 1 s.1 r.length s.2.2 (i32s r) ∧ s.2.1 = r.length ∧ ∀ j ∈ blks s.1, P j
  | [], [], _, i, r, hr => by simp at hr
  | s :: ss, r0 :: rs, h, 0, r, hr => by
    simp only [List.getElem?_cons_zero, Option.some.injEq] at hr; subst hr
    exact ⟨s, rfl, h.1⟩
  | s :: ss, _ :: rs, h, i + 1, r, hr => by
    obtain ⟨s', h1, h2⟩ := Each.get (ss := ss) (rs := rs) h.2 i (by simpa using hr)
    exact ⟨s', by simpa using h1, h2⟩
  | [], _ :: _, h, _, _, _ => h.elim
  | _ :: _, [], h, _, _, _ => h.elim

def strs (m : Mem) (ws : List Int) : List (List Int) := (ws.filter fun w => m.typ w == 2).map fun w => runesOf (textOf m w)
theorem strs_snoc (m : Mem) (ws : List Int) (w : Int) : strs m (ws ++ [w]) = if m.typ w = 2 then strs m ws ++ [runesOf (textOf m w)] else strs m ws := by
  unfold strs
  by_cases h : m.typ w = 2
  · rw [if_pos h]; simp [h]
  · rw [if_neg h]; simp [h]
theorem strs_le (m : Mem) (ws : List Int) : (strs m ws).length ≤ ws.length := by unfold strs; rw [List.length_map]; exact List.length_filter_le ..
theorem strs_mem {m : Mem} {ws : List Int} {w : Int} (h : w ∈ ws) (ht : m.typ w = 2) : runesOf (textOf m w) ∈ strs m ws := by
  unfold strs; rw [List.mem_map]; exact ⟨w, by simp [h, ht], rfl⟩
set_option maxRecDepth 100000 in
theorem ofText_pre {H : Array Obj} {hv : Option Addr} {o : Option (Blk × Hp)} {argsB : Option Addr} {N : Nat} {ws : List Int} (V : View H hv o) (hsrc : SrcAt H argsB (wvs ws)) (hlen : N = ws.length) (hw : ∀ w ∈ ws, IsWord w) (hl : ws.length ≤ 1000000) (hrl : ∀ r ∈ strs (mof o) ws, r.length ≤ 1000000)
    {K : Option Addr → Nat → Nat → Array Obj → Prop}
    (hK : ∀ (allB : Option Addr) (allC : Nat) (A : Array Obj) (ss : List Slr), Own A 65 1 allB (strs (mof o) ws).length allC (ss.map slV) → Each A (fun j => H.size ≤ j ∧ j ∉ blks allB) ss (strs (mof o) ws) → (∀ j ∈ blks allB, H.size ≤ j) → Ext H A → K allB (strs (mof o) ws).length allC A) :
 ∃ (I11 : (Option Addr) → Nat → Nat → Int → Array Obj → Prop) (m11 : (Option Addr) → Nat → Nat → Int → Array Obj → Nat), I11 none 0 0 0 H ∧ ∀ (allB : Option Addr) (allN : Nat) (allC : Nat) (s16 : Int) (H1 : Array Obj), I11 allB allN allC s16 H1 →
 if s16 < (N : Int) then (
  ∃ argsBA : Addr, argsB = some argsBA ∧
  ((0 : Int) ≤ s16 ∧ s16 < (N : Int)) ∧
  ∃ x : Int, hat H1 (argsBA.add (Int.toNat s16 * 1)) = some (.int .u64 x) ∧
  texts_is.C hv x 2 H1 (fun v H2 => ∃ x_2 : Bool, v = .bool x_2 ∧ 
   if x_2 = true then (
    texts_runes.C hv x H2 (fun v_2 H3 => v_2 = v_2 ∧ 
     slices_Collect_rune.C v_2 H3 (fun v_3 H4 => ∃ xB : Option Addr, ∃ xN : Nat, ∃ xC : Nat, v_3 = .slice xB xN xC ∧ 
      ∀ (b : Nat) (H5 : Array Obj), b = H4.size → H5 = H4.push (.cells #[.slice xB xN xC] 65) →
      appendK 1 65 24 [.slice none 0 0] allB allN allC (some (Addr.mk b 0 none)) 1 H5 (fun ap apC H6 =>
       (I11 ap (allN + 1) apC (IntKind.wrap .i64 (s16 + 1)) H6 ∧ m11 ap (allN + 1) apC (IntKind.wrap .i64 (s16 + 1)) H6 < m11 allB allN allC s16 H1)))))
   else
   (I11 allB allN allC (IntKind.wrap .i64 (s16 + 1)) H2 ∧ m11 allB allN allC (IntKind.wrap .i64 (s16 + 1)) H2 < m11 allB allN allC s16 H1)))
 else
 K allB allN allC H1 := by
  subst hlen
  refine ⟨fun B n c i A => ∃ (k : Nat) (ss : List Slr), i = k ∧ k ≤ ws.length ∧ n = (strs (mof o) (ws.take k)).length ∧ Own A 65 1 B n c (ss.map slV) ∧ Each A (fun j => H.size ≤ j ∧ j ∉ blks B) ss (strs (mof o) (ws.take k)) ∧ (∀ j ∈ blks B, H.size ≤ j) ∧ Ext H A, fun _ _ _ i _ => (ws.length - i).toNat,
    ⟨0, [], rfl, by omega, rfl, own_nil, trivial, by simp, Ext.refl _⟩, ?_⟩
  rintro B n c i A ⟨k, ss, rfl, hk, rfl, how, hea, hyB, eA⟩
  by_cases hlt : (k : Int) < (ws.length : Int)
  · rw [if_pos hlt]
    have hlt' : k < ws.length := by omega
    have hsA := hsrc.ext eA
    obtain ⟨a, rfl, hat'⟩ : ∃ a, argsB = some a ∧ hat A (a.add (Int.toNat (k : Int) * 1)) = some (.int .u64 ws[k]) := by
      cases argsB with
      | none => have h0 : wvs ws = [] := hsrc
                have := congrArg List.length h0; simp [wvs] at this; subst this; simp at hlt'
      | some a =>
        refine ⟨a, rfl, ?_⟩
        rw [show Int.toNat (k : Int) * 1 = k by omega]
        have := rowAt_hat hsA k (.int .u64 ws[k]) (by simp [wvs, hlt'])
        rwa [Nat.zero_add] at this
    have hwk := hw _ (List.getElem_mem hlt')
    have htk : ws.take (k + 1) = ws.take k ++ [ws[k]] := List.take_succ_eq_append_getElem hlt'
    refine ⟨a, rfl, ⟨by omega, hlt⟩, ws[k], hat', HC.mono (texts_is_str (V.ext eA) hwk) ?_⟩
    rintro _ H2 ⟨rfl, e2⟩
    refine ⟨_, rfl, ?_⟩
    have hmeas : ((ws.length : Int) - IntKind.wrap .i64 ((k : Int) + 1)).toNat < ((ws.length : Int) - k).toNat := by rw [w64 (by omega)]; omega
    by_cases ht : (mof o).typ ws[k] = 2
    · rw [if_pos (by simpa using ht)]
      refine HC.mono texts_runes_c ?_
      rintro _ H3 ⟨p, q, rfl, gp, gq, hp, hq, e3⟩
      refine ⟨rfl, ?_⟩
      have e23 := e2.trans e3
      refine HC.mono (runes_collect (rs := runesOf (textOf (mof o) ws[k])) (V.ext (eA.trans e23)) hwk gp gq rfl (hrl _ (strs_mem (List.getElem_mem hlt') ht))) ?_
      rintro _ H4 ⟨B', c', rfl, how', hy', e4⟩
      refine ⟨_, _, _, rfl, fun b H5 hb hH5 => ?_⟩
      have e5 : Ext H4 H5 := Ext.push' hH5
      have e25 := (e23.trans e4).trans e5
      have hle := strs_le (mof o) (ws.take k)
      have hle2 : (ws.take k).length ≤ ws.length := by rw [List.length_take]; omega
      refine own_append (ys := [slV (B', (runesOf (textOf (mof o) ws[k])).length, c')]) (how.ext e25) (rowAt_blk (push_get hb hH5) _ 0 0 (fun j hj => by simp [slV])) (by simp) rfl rfl (by omega) ?_
      intro p' c'' H6 how6 f6 hnew
      have sA := eA.size
      have s23 := e23.size
      have s4 := e4.size
      have s5 := e5.size
      have hB : ∀ j ∈ blks B, j < A.size := fun j hj => how.lt j hj
      have hstr : strs (mof o) (ws.take (k + 1)) = strs (mof o) (ws.take k) ++ [runesOf (textOf (mof o) ws[k])] := by rw [htk, strs_snoc, if_pos ht]
      refine ⟨⟨k + 1, ss ++ [(B', _, c')], by rw [w64 (by omega)]; omega, by omega, by rw [hstr]; simp, by simpa using how6, ?_, fun j hj => ?_, (eA.trans e25).fr_trans f6 (fun j hj => hyB j hj)⟩, hmeas⟩
      · rw [hstr]
        have hin : ∀ j, j < H5.size → j ∉ blks B → j ∉ blks p' := fun j h1 h2 h3 => by
          rcases hnew j h3 with h | h
          · exact h2 h
          · omega
        refine Each.snoc ⟨(how'.ext e5).keep f6 (fun j hj h => by have := hy' j hj; have := hB j h; omega), rfl, fun j hj => ?_⟩ ?_
        · have h1 := hy' j hj
          have h2 := how'.lt j hj
          exact ⟨by omega, hin j (by omega) (fun h => by have := hB j h; omega)⟩
        · refine Each.keep f6 (P := fun j => (H.size ≤ j ∧ j ∉ blks B) ∧ j < A.size) (fun j h => h.1.2) (fun j _ h => ⟨h.1.1, hin j (by omega) h.1.2⟩) (Each.keep (S := []) e25.fr (fun j _ h => by cases h) (fun j h1 h2 => ⟨h2, h1⟩) hea)
      · rcases hnew j hj with h | h
        · exact hyB j h
        · omega
    · rw [if_neg (by simpa using ht)]
      have hstr : strs (mof o) (ws.take (k + 1)) = strs (mof o) (ws.take k) := by rw [htk, strs_snoc, if_neg ht]
      exact ⟨⟨k + 1, ss, by rw [w64 (by omega)]; omega, by omega, by rw [hstr], how.ext e2, by rw [hstr]; exact Each.keep (S := []) e2.fr (fun j _ h => by cases h) (fun j _ h => h) hea, hyB, eA.trans e2⟩, hmeas⟩
  · rw [if_neg hlt]
    obtain rfl : k = ws.length := by omega
    rw [List.take_length] at how hea ⊢
    exact hK _ _ _ _ how hea hyB eA
theorem zeros_one (v : Value) (h1 : allOne [v] = true) (k : Nat) : allOne (Builtin.zeroCells #[v] k).toList = true := by
  have : (Builtin.zeroCells #[v] k).toList = List.replicate k v := by
    refine List.ext_getElem? fun i => ?_
    have hs : (Builtin.zeroCells #[v] k).size = k := by rw [zeroCells_size]; simp
    rcases Nat.lt_or_ge i k with h | h
    · rw [List.getElem?_replicate_of_lt h]
      have := zeroCells_get (z := #[v]) (j := 0) h (by simp)
      simpa using this
    · rw [List.getElem?_eq_none (by simp; omega), List.getElem?_eq_none (by simp; omega)]
  rw [this]; exact allOne_replicate h1 k
theorem runes_grow {H : Array Obj} {n : Nat} (hn : n ≤ 1000000) : slices_Grow_rune_rune.C none 0 0 (n : Int) H (fun v H' => ∃ B c, v = .slice B 0 c ∧ Own H' 21 1 B 0 c [] ∧ (∀ i ∈ blks B, H.size ≤ i) ∧ Ext H H') := by
  refine HC.via fun R hR => slices_Grow_rune_rune.link ?_
  unfold slices_Grow_rune_rune.pt
  rw [if_neg (by omega)]
  have w0 : IntKind.wrap .i64 (((0 : Nat) : Int) - ((0 : Nat) : Int)) = 0 := by decide
  have w1 : IntKind.wrap .i64 ((n : Int) - 0) = n := w64 (by omega)
  rw [w0, w1]
  by_cases h0 : (n : Int) > 0
  · rw [if_pos h0]
    refine ⟨0, 0, rfl, rfl, by omega, by omega, fun sl hsl => ?_⟩
    rw [if_pos rfl] at hsl
    subst hsl
    refine ⟨⟨by omega, by omega⟩, by omega, by omega, zeros_one _ rfl _, fun h => by omega, fun h => ⟨[], rfl, fun _ => rfl, growslice_fits h (by omega), fun c' b H' hc' hb hH' => ?_⟩⟩
    refine ⟨0, 0, rfl, rfl, by omega, by omega, fun sl2 hsl2 => ?_⟩
    rw [if_neg (by omega)] at hsl2
    simp only [Option.map_some, Nat.zero_mul] at hsl2
    rw [addr_plus0] at hsl2
    subst hsl2
    refine hR _ _ ⟨some ⟨b, 0, none⟩, c', rfl, ⟨rfl, _, push_get hb hH', ?_, by omega, rfl, fun j hj => by omega⟩, fun i hi => by simp at hi; omega, Ext.push' hH'⟩
    rw [Array.size_append, zeroCells_size]
    simp only [List.nil_append, Array.toArray_toList, zeroCells_size, List.size_toArray, List.length_cons, List.length_nil]
    omega
  · rw [if_neg h0]
    exact hR _ _ ⟨none, 0, rfl, own_nil, by simp, Ext.refl _⟩
theorem runes_concat {H : Array Obj} {allB : Option Addr} {allC : Nat} {P : Nat → Prop} {ss : List Slr} {rss : List (List Int)} (how : Own H 65 1 allB ss.length allC (ss.map slV)) (hea : Each H P ss rss) (hl : ss.length ≤ 1000000) (hsum : rss.flatten.length ≤ 1000000) :
    slices_Concat_rune_rune.C allB ss.length allC H (fun v H' => ∃ B c, v = .slice B rss.flatten.length c ∧ Own H' 21 1 B rss.flatten.length c (i32s rss.flatten) ∧ (∀ i ∈ blks B, H.size ≤ i) ∧ Ext H H') := by
  have hlen := hea.len
  refine HC.via fun R hR => slices_Concat_rune_rune.link ?_
  unfold slices_Concat_rune_rune.pt
  have step : ∀ k (h : k < rss.length), (rss.take (k + 1)).flatten = (rss.take k).flatten ++ rss[k] := fun k h => by
    rw [List.take_succ_eq_append_getElem h, List.flatten_append]; simp only [List.flatten_cons, List.flatten_nil, List.append_nil]
  have small : ∀ k, (rss.take k).flatten.length ≤ rss.flatten.length := fun k => by
    conv => rhs; rw [← List.take_append_drop k rss]
    rw [List.flatten_append, List.length_append]; omega
  refine ⟨fun size i A => ∃ k : Nat, i = k ∧ k ≤ ss.length ∧ size = ((rss.take k).flatten.length : Int) ∧ H = A, fun _ i _ => (ss.length - i).toNat, ⟨0, rfl, by omega, rfl, rfl⟩, ?_⟩
  rintro size i A ⟨k, rfl, hk, rfl, hA⟩
  subst hA
  by_cases hlt : (k : Int) < (ss.length : Int)
  · rw [if_pos hlt]
    have hlt' : k < ss.length := by omega
    have hkr : k < rss.length := by omega
    obtain ⟨s, hs, ho, hn, _⟩ := hea.get k (List.getElem?_eq_getElem hkr)
    obtain ⟨a, rfl, ha⟩ := how.at (j := k) (v := slV s) (by rw [List.getElem?_map, hs]; rfl)
    refine ⟨a, rfl, ⟨by omega, hlt⟩, s.1, s.2.1, s.2.2, by rw [show Int.toNat (k : Int) * 1 = k by omega]; exact ha, ?_⟩
    have e1 : ((rss.take (k + 1)).flatten.length : Int) = ((rss.take k).flatten.length : Int) + (s.2.1 : Int) := by rw [step k hkr, List.length_append, hn]; omega
    have := small (k + 1)
    rw [← e1, w64 (by omega), if_neg (by omega), w64 (by omega)]
    exact ⟨⟨k + 1, by omega, by omega, rfl, rfl⟩, by show ((ss.length : Int) - (k + 1)).toNat < ((ss.length : Int) - k).toNat; omega⟩
  rw [if_neg hlt]
  obtain rfl : k = ss.length := by omega
  rw [show rss.take ss.length = rss by rw [hlen]; exact List.take_length]
  refine HC.mono (runes_grow hsum) ?_
  rintro _ H2 ⟨B, c, rfl, o2, hy2, e2⟩
  refine ⟨_, _, _, rfl, ?_⟩
  refine ⟨fun B n c i A => ∃ k : Nat, i = k ∧ k ≤ ss.length ∧ n = (rss.take k).flatten.length ∧ Own A 21 1 B n c (i32s (rss.take k).flatten) ∧ (∀ i ∈ blks B, H.size ≤ i) ∧ Ext H A, fun _ _ _ i _ => (ss.length - i).toNat, ⟨0, rfl, by omega, rfl, o2, hy2, e2⟩, ?_⟩
  rintro B n c i A ⟨k, rfl, hk, rfl, oA, hyA, eA⟩
  by_cases hlt : (k : Int) < (ss.length : Int)
  · rw [if_pos hlt]
    have hlt' : k < ss.length := by omega
    have hkr : k < rss.length := by omega
    obtain ⟨s, hs, ho, hn, _⟩ := hea.get k (List.getElem?_eq_getElem hkr)
    obtain ⟨a, rfl, ha⟩ := (how.ext eA).at (j := k) (v := slV s) (by rw [List.getElem?_map, hs]; rfl)
    refine ⟨a, rfl, ⟨by omega, hlt⟩, s.1, s.2.1, s.2.2, by rw [show Int.toNat (k : Int) * 1 = k by omega]; exact ha, ?_⟩
    have e1 : (rss.take (k + 1)).flatten.length = (rss.take k).flatten.length + s.2.1 := by rw [step k hkr, List.length_append, hn]
    have := small (k + 1)
    refine own_append (ys := i32s rss[k]) oA (ho.ext eA).src (by simp [i32s, hn]) (allOne_i32s _) rfl (by omega) ?_
    intro p' c' H4 o4 f4 hnew
    rw [w64 (by omega)]
    refine ⟨⟨k + 1, by omega, by omega, e1.symm, by rw [step k hkr, i32s, List.map_append]; exact o4, fun i hi => ?_, eA.fr_trans f4 (fun i hi => hyA i hi)⟩, by show ((ss.length : Int) - (k + 1)).toNat < ((ss.length : Int) - k).toNat; omega⟩
    rcases hnew i hi with h | h
    · exact hyA i h
    · have := eA.size; omega
  · rw [if_neg hlt]
    obtain rfl : k = ss.length := by omega
    rw [show rss.take ss.length = rss by rw [hlen]; exact List.take_length] at oA ⊢
    exact hR _ _ ⟨B, c, rfl, oA, hyA, eA⟩
theorem texts_number_c {H : Array Obj} {n : Int} (hn : 0 ≤ n ∧ n ≤ 1000) : texts_number.C (n * 8) H (fun v H' => v = .int .i64 n ∧ Ext H H') := by
  refine HC.via fun R hR => texts_number.link ?_
  unfold texts_number.pt
  refine HC.mono (word_Int_c ⟨by omega, by omega⟩) ?_
  rintro _ H1 ⟨rfl, e1⟩
  rw [if_pos (by omega)]
  refine ⟨_, _, rfl, hR _ _ ⟨?_, e1⟩⟩
  have : signed (n * 8) / 8 = n := by unfold signed; rw [if_neg (by omega)]; omega
  rw [this, if_neg (show ¬ (1000 : Int) < n by omega), if_pos (show (-1 : Int) < n by omega)]
theorem Thing.runes {m : Mem} {w more : Int} {rs : List Int} (t : Thing m w 2 more rs) (h : ∀ r ∈ rs, Letter r) : runesOf (textOf m w) = rs := by
  unfold textOf
  rw [if_pos ⟨t.obj, t.typ⟩, t.words, wordsText_letters h, runesOf_runesStr h]
theorem live_text {H0 H : Array Obj} {b : Blk} {x : Hp} (L : Live H0 H b x) (he : x.sp.mem.Even) {B : Option Addr} {n c : Nat} {rs : List Int} (hsrc : SrcAt H B (i32s rs)) (hn : B ≠ none → rs.length = n) (hlet : ∀ r ∈ rs, Letter r) (hl : rs.length ≤ 62) (hf : 1 ≤ x.sp.mem.free) (hc : x.sp.mem.count < 4611686018427387904) :
    texts_made.C (some ⟨b.h, 0, none⟩) B n c H (fun v H' => ∃ (w : Int) (x' : Hp), v = .tuple #[.int .u64 w, .int .i64 0] ∧ Live H0 H' b x' ∧ MadeOn x x' w 2 0 rs ∧ Fr b.all H H') := by
  refine HC.via fun R hR => texts_made.link ?_
  unfold texts_made.pt
  have hrr := runesOf_runesStr hlet
  refine ⟨rs, ⟨hsrc, hn⟩, HC.mono (live_String L he (s := runesStr rs) (by rw [hrr]; exact hl) hf hc) ?_⟩
  rw [hrr]
  rintro _ H1 ⟨w, x', rfl, L1, M1, f1⟩
  exact ⟨_, _, rfl, hR _ _ ⟨w, x', rfl, L1, M1, f1⟩⟩
theorem strs_nil (m : Mem) : strs m [] = [] := rfl
theorem strs_cons (m : Mem) (w : Int) (ws : List Int) : strs m (w :: ws) = if m.typ w = 2 then runesOf (textOf m w) :: strs m ws else strs m ws := by
  unfold strs
  by_cases h : m.typ w = 2
  · rw [if_pos h]; simp [h]
  · rw [if_neg h]; simp [h]
theorem num_typ {m : Mem} {n : Int} : m.typ (n * 8) ≠ 2 := by
  rw [nothing_typ (noAddr (by omega))]; decide
theorem row1 {A : Array Obj} {a : Addr} {v : Value} (h : hat A a = some v) : RowAt A a 0 [v] := rowAt_of fun q u hu => by
  have hq : q = 0 := by
    rcases Nat.lt_or_ge q 1 with h | h
    · omega
    · rw [List.getElem?_eq_none (by simpa using h)] at hu; cases hu
  subst hq
  simp only [List.getElem?_cons_zero, Option.some.injEq] at hu
  subst hu
  rw [addr_plus0]; exact h
theorem own_at0 {A : Array Obj} {T : TypeId} {n c : Nat} {a : Addr} {ss : List Slr} {s : Slr} (o : Own A T 1 (some a) n c (ss.map slV)) (h : ss[0]? = some s) : hat A (a.add 0) = some (slV s) := by
  obtain ⟨a', ha', h⟩ := o.at (j := 0) (v := slV s) (by rw [List.getElem?_map, h]; rfl)
  obtain rfl := Option.some.inj ha'
  exact h
theorem no_false {n : Nat} {R3 : Array Obj → Prop} {H : Array Obj} : (∃ i, i < n ∧ (fun _ : Nat => true) i = false) → ∀ A, Ext H A → R3 A := fun h => by obtain ⟨_, _, h⟩ := h; cases h
theorem okTrue {b : Bool} (h : b = true) {A A' : Array Obj} (e : Ext A A') : Value.bool b = .bool true ∧ Ext A A' := ⟨by rw [h], e⟩
set_option maxRecDepth 100000 in
theorem apply_ofText {H0 H : Array Obj} {k : Blk} {x : Hp} {b c : Nat} {n : Int} {ws : List Int} {R : Value → Array Obj → Prop} (hn : 17 ≤ n ∧ n ≤ 28 ∧ n ≠ 27) (L : Live H0 H k x) (hsrc : SrcAt H (some ⟨b, 0, none⟩) (wvs ws)) (hl : ws.length ≤ 1000) (hb : bad23 n.toNat ws.length = false)
    (hk : ∀ i (h : i < ws.length) A, Ext H A → texts_is.C (some ⟨k.h, 0, none⟩) ws[i] (kind23 n.toNat i) A (fun v A' => v = .bool true ∧ Ext A A'))
    (h : ∀ A, Ext H A → texts_ofText.C (some ⟨k.h, 0, none⟩) n (some ⟨b, 0, none⟩) ws.length c A R) (hR : ∀ v A, R v A → ∃ (ra rb : Int), v = .tuple #[.int .u64 ra, .int .i64 rb]) :
    texts_Apply.C (some ⟨k.h, 0, none⟩) n (some ⟨b, 0, none⟩) ws.length c H R := by
  have hn' : n = ((n.toNat : Nat) : Int) := by omega
  refine HC.via fun R' hR' => texts_Apply.link ?_
  unfold texts_Apply.pt
  rw [onPtr_some]
  refine ⟨_, L.at'.hPtr, ?_⟩
  have hrange : ((decide (n < 0)) || (decide (n ≥ 32))) = false := by rw [decide_eq_false (by omega), decide_eq_false (by omega)]; rfl
  rw [onPtr_some, hrange, if_neg (by decide)]
  refine texts_pre n.toNat (by omega) hn' hb hsrc rfl (by omega) (fun _ => true) hk no_false fun _ H5 e5 => ?_
  have h27 : ¬ ((n == 27) || (n == 31)) = true := by
    rw [Bool.or_eq_true, beq_iff_eq, beq_iff_eq]; omega
  rw [if_neg (by omega), if_neg (by omega), if_neg (by omega), if_neg (by omega), if_neg (by omega), if_neg (by omega), if_neg (by omega), if_neg h27, if_neg (by omega)]
  refine HC.mono (h H5 e5) ?_
  intro v A hv
  obtain ⟨ra, rb, rfl⟩ := hR v A hv
  exact ⟨ra, rb, rfl, hR' _ _ hv⟩
set_option maxRecDepth 100000 in
theorem apply_textlen {H0 H : Array Obj} {k : Blk} {x : Hp} {b : Nat} {w more : Int} {rs : List Int} (L : Live H0 H k x) (hb : H[b]? = some (.cells #[.int .u64 w] 35 (0, 0))) (t : Thing x.sp.mem w 2 more rs) (hlet : ∀ r ∈ rs, Letter r) :
    texts_Apply.C (some ⟨k.h, 0, none⟩) 17 (some ⟨b, 0, none⟩) 1 1 H (fun v H' => v = .tuple #[.int .u64 ((rs.length : Int) * 8), .int .i64 0] ∧ Ext H H') := by
  have h62 := t.le62
  have hs : strs x.sp.mem [w] = [rs] := by rw [strs_cons, if_pos t.typ, t.runes hlet, strs_nil]
  refine apply_ofText (ws := [w]) (by omega) L (arg1_src hb) (by simp) rfl (fun i hi A eA => ?_) (fun A eA => ?_) (fun v A h => ⟨_, _, h.1⟩)
  · obtain rfl : i = 0 := by simpa using hi
    refine HC.mono (texts_is_str (L.grow eA).view t.word) ?_
    rintro _ A' ⟨rfl, e⟩
    have : (mof (some (k, x))).typ w = 2 := t.typ
    exact ⟨by rw [show [w][0] = w from rfl, this]; rfl, e⟩
  refine HC.via fun R hR => texts_ofText.link ?_
  unfold texts_ofText.pt
  refine ofText_pre (o := some (k, x)) (L.grow eA).view ((arg1_src hb).ext eA) rfl (by simpa using t.word) (by simp) (by rw [show mof (some (k, x)) = x.sp.mem from rfl, hs]; simp; omega) fun allB allC A1 ss how hea hy e1 => ?_
  rw [show mof (some (k, x)) = x.sp.mem from rfl, hs] at how hea ⊢
  rw [if_pos rfl]
  obtain ⟨s, h1, ho, hn, _⟩ := hea.get 0 rfl
  obtain ⟨a, rfl, ha⟩ := how.at (j := 0) (v := slV s) (by rw [List.getElem?_map, h1]; rfl)
  refine ⟨a, rfl, ⟨by decide, by simp⟩, s.1, s.2.1, s.2.2, ha, ?_⟩
  rw [hn]
  refine HC.mono (word_Fix_c ⟨by omega, by omega⟩) ?_
  rw [if_pos (by omega)]
  rintro _ A2 ⟨rfl, e2⟩
  refine ⟨_, _, rfl, hR _ _ ⟨?_, (eA.trans e1).trans e2⟩⟩
  rw [show fixW (rs.length : Int) = (rs.length : Int) * 8 by unfold fixW; omega]
set_option maxRecDepth 100000 in
theorem apply_join {H0 H : Array Obj} {k : Blk} {x : Hp} {b c : Nat} {ws : List Int} {rss : List (List Int)} (L : Live H0 H k x) (he : x.sp.mem.Even) (hsrc : SrcAt H (some ⟨b, 0, none⟩) (wvs ws)) (hl : ws.length ≤ 1000) (hw : ∀ w ∈ ws, IsWord w ∧ x.sp.mem.typ w = 2) (hs : strs x.sp.mem ws = rss)
    (hlet : ∀ r ∈ rss.flatten, Letter r) (hlen : rss.flatten.length ≤ 62) (hrl : ∀ r ∈ rss, r.length ≤ 1000000) (hf : 1 ≤ x.sp.mem.free) (hc : x.sp.mem.count < 4611686018427387904) :
    texts_Apply.C (some ⟨k.h, 0, none⟩) 24 (some ⟨b, 0, none⟩) ws.length c H (fun v H' => ∃ (w : Int) (x' : Hp), v = .tuple #[.int .u64 w, .int .i64 0] ∧ Live H0 H' k x' ∧ MadeOn x x' w 2 0 rss.flatten ∧ Fr k.all H H') := by
  refine apply_ofText (ws := ws) (by omega) L hsrc hl (by rw [bad23, show lm23.getD (Int.toNat 24) (0, 0, 0) = (0, -1, 1) from rfl, decide_eq_false (by omega)]; rfl) (fun i hi A eA => ?_) (fun A eA => ?_) (fun v A h => by obtain ⟨w, x', h, _⟩ := h; exact ⟨_, _, h⟩)
  · have hm := hw _ (List.getElem_mem hi)
    rw [show kind23 (Int.toNat 24) i = 2 by rw [kind23, show kinds23.getD (Int.toNat 24) [] = [2] from rfl]; simp]
    refine HC.mono (texts_is_str (L.grow eA).view hm.1) ?_
    rintro _ A' ⟨rfl, e⟩
    have : (mof (some (k, x))).typ ws[i] = 2 := hm.2
    exact ⟨by rw [this]; rfl, e⟩
  refine HC.via fun R hR => texts_ofText.link ?_
  unfold texts_ofText.pt
  refine ofText_pre (o := some (k, x)) (L.grow eA).view (hsrc.ext eA) rfl (fun w h => (hw w h).1) (by omega) (by rw [show mof (some (k, x)) = x.sp.mem from rfl, hs]; exact hrl) fun allB allC A1 ss how hea hy e1 => ?_
  rw [show mof (some (k, x)) = x.sp.mem from rfl, hs] at how hea ⊢
  rw [if_neg (by decide), if_neg (by decide), if_neg (by decide)]
  refine ⟨fun q A => q = false ∧ A1 = A, by rw [if_neg (by decide), if_neg (by decide)]; exact ⟨rfl, rfl⟩, ?_⟩
  rintro _ A1' ⟨rfl, hA1⟩
  subst hA1
  rw [if_neg (by decide), if_neg (by decide), if_neg (by decide), if_neg (by decide)]
  have hsl := hea.len
  have hle := strs_le x.sp.mem ws
  rw [hs] at hle
  rw [← hsl] at how ⊢
  refine HC.mono (runes_concat how hea (by omega) (by omega)) ?_
  rintro _ A2 ⟨B, c', rfl, o2, hy2, e2⟩
  refine ⟨_, _, _, rfl, ?_⟩
  refine HC.mono (live_text (L.grow ((eA.trans e1).trans e2)) he o2.src (fun _ => rfl) hlet hlen hf hc) ?_
  rintro _ A3 ⟨w, x', rfl, L3, M3, f3⟩
  exact ⟨_, _, rfl, hR _ _ ⟨w, x', rfl, L3, M3, (((eA.trans e1).trans e2).fr (S := k.all)).trans f3⟩⟩
set_option maxRecDepth 100000 in
theorem apply_cut_no {H0 H : Array Obj} {k : Blk} {x : Hp} {b c : Nat} {w more i j : Int} {rs : List Int} (L : Live H0 H k x) (hb : H[b]? = some (.cells #[.int .u64 w, .int .u64 (i * 8), .int .u64 (j * 8)] 35 (0, 0))) (t : Thing x.sp.mem w 2 more rs) (hlet : ∀ r ∈ rs, Letter r)
    (hi : 0 ≤ i ∧ i ≤ 1000) (hj : 0 ≤ j ∧ j ≤ 1000) (hno : i > j ∨ j > rs.length) :
    texts_Apply.C (some ⟨k.h, 0, none⟩) 23 (some ⟨b, 0, none⟩) 3 c H (fun v H' => v = .tuple #[.int .u64 0, .int .i64 4] ∧ Ext H H') := by
  have h62 := t.le62
  have hs : strs x.sp.mem [w, i * 8, j * 8] = [rs] := by rw [strs_cons, if_pos t.typ, t.runes hlet, strs_cons, if_neg num_typ, strs_cons, if_neg num_typ, strs_nil]
  have hsrc : ∀ {A}, Ext H A → SrcAt A (some ⟨b, 0, none⟩) (wvs [w, i * 8, j * 8]) := fun e => rowAt_blk (e.get hb) _ 0 0 (fun q hq => by simp [wvs])
  have hww := t.word
  have hwi : IsWord (i * 8) := ⟨by omega, by omega⟩
  have hwj : IsWord (j * 8) := ⟨by omega, by omega⟩
  refine apply_ofText (ws := [w, i * 8, j * 8]) (by omega) L (hsrc (Ext.refl _)) (by simp) rfl (fun q hq A eA => ?_) (fun A eA => ?_) (fun v A h => ⟨_, _, h.1⟩)
  · have h3 : q = 0 ∨ q = 1 ∨ q = 2 := by simp at hq; omega
    rcases h3 with rfl | rfl | rfl
    · refine HC.mono (texts_is_str (L.grow eA).view t.word) ?_
      rintro _ A' ⟨rfl, e⟩
      have : (mof (some (k, x))).typ w = 2 := t.typ
      exact ⟨by rw [show [w, i * 8, j * 8][0] = w from rfl, this]; rfl, e⟩
    · refine HC.mono (texts_is_num hwi) ?_
      rintro _ A' ⟨rfl, e⟩
      exact okTrue (decide_eq_true (show i * 8 % 8 = 0 by omega)) e
    · refine HC.mono (texts_is_num hwj) ?_
      rintro _ A' ⟨rfl, e⟩
      exact okTrue (decide_eq_true (show j * 8 % 8 = 0 by omega)) e
  refine HC.via fun R hR => texts_ofText.link ?_
  unfold texts_ofText.pt
  refine ofText_pre (o := some (k, x)) (L.grow eA).view (hsrc eA) rfl (fun u hu => by simp at hu; rcases hu with rfl | rfl | rfl <;> assumption) (by simp) (by rw [show mof (some (k, x)) = x.sp.mem from rfl, hs]; simp; omega) fun allB allC A1 ss how hea hy e1 => ?_
  rw [show mof (some (k, x)) = x.sp.mem from rfl, hs] at how hea ⊢
  rw [if_neg (by decide), if_neg (by decide), if_neg (by decide)]
  refine ⟨fun q A => q = false ∧ A1 = A, by rw [if_neg (by decide), if_neg (by decide)]; exact ⟨rfl, rfl⟩, ?_⟩
  rintro _ A1' ⟨rfl, hA1⟩
  subst hA1
  rw [if_neg (by decide), if_pos rfl]
  obtain ⟨s, h1, ho, hn, _⟩ := hea.get 0 rfl
  obtain ⟨a, rfl, ha⟩ := how.at (j := 0) (v := slV s) (by rw [List.getElem?_map, h1]; rfl)
  have eb := eA.trans e1
  refine ⟨a, rfl, ⟨by decide, by simp⟩, s.1, s.2.1, s.2.2, ha, _, rfl, ⟨by decide, by simp⟩, i * 8, by rw [show Int.toNat 1 * 1 = 1 from rfl, box_get (eb.get hb) 1]; rfl, ⟨by decide, by simp⟩, j * 8, by rw [show Int.toNat 2 * 1 = 2 from rfl, box_get (eb.get hb) 2]; rfl, ?_⟩
  refine HC.mono (texts_number_c hi) ?_
  rintro _ A2 ⟨rfl, e2⟩
  have o2 := how.ext e2
  refine ⟨_, rfl, row1 (by rw [show Int.toNat 0 * 1 = 0 from rfl]; exact own_at0 o2 h1), row1 (by rw [show Int.toNat 2 * 1 = 2 from rfl, box_get ((eb.trans e2).get hb) 2]; rfl), ?_⟩
  refine HC.mono (texts_number_c hj) ?_
  rintro _ A3 ⟨rfl, e3⟩
  refine ⟨_, rfl, row1 (by rw [show Int.toNat 0 * 1 = 0 from rfl]; exact own_at0 (o2.ext e3) h1), ?_⟩
  refine HC.mono (R := fun v H' => v = .tuple #[.int .u64 0, .int .i64 4] ∧ A3 = H') (texts_cut.link ?_) ?_
  · unfold texts_cut.pt
    rw [if_pos]
    · exact ⟨rfl, rfl⟩
    · rw [hn, Bool.or_eq_true, Bool.or_eq_true, decide_eq_true_eq, decide_eq_true_eq, decide_eq_true_eq]; omega
  rintro _ A4 ⟨rfl, hA4⟩
  subst hA4
  exact ⟨_, _, rfl, hR _ _ ⟨rfl, (eb.trans e2).trans e3⟩⟩
set_option maxRecDepth 100000 in
theorem apply_text_no {H0 H : Array Obj} {k : Blk} {x : Hp} {b c : Nat} {w : Int} (L : Live H0 H k x) (hb : H[b]? = some (.cells #[.int .u64 w] 35 (0, 0))) (hw : IsWord w) (hno : ¬ isChr w) :
    texts_Apply.C (some ⟨k.h, 0, none⟩) 16 (some ⟨b, 0, none⟩) 1 c H (fun v H' => v = .tuple #[.int .u64 0, .int .i64 3] ∧ Ext H H') := by
  refine HC.via fun R hR => texts_Apply.link ?_
  unfold texts_Apply.pt
  rw [onPtr_some]
  refine ⟨_, L.at'.hPtr, ?_⟩
  rw [onPtr_some, if_neg (by decide)]
  refine texts_pre 16 (by decide) rfl rfl (arg1_src hb) rfl (by simp) (fun _ => false) (fun i hi A eA => ?_) (fun _ A eA => hR _ _ ⟨rfl, eA⟩) fun h => by cases h 0 (by simp)
  obtain rfl : i = 0 := by simpa using hi
  refine HC.mono (texts_is_chr hw) ?_
  rintro _ A' ⟨rfl, e⟩
  exact ⟨by rw [decide_eq_false (show ¬ isChr [w][0] from hno)], e⟩
end Go.Proofs.YthlohokmnajpoaaGreatDoor
