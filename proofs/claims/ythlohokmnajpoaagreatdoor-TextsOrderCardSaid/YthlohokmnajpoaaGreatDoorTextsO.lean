/-
  Texts in order: slices.Compare, stands, rises; primitives 20 to 22, and 25. Proves nothing of any one statement.
-/
import Derived.Test.YthlohokmnajpoaaGreatDoorTexts
import Derived.Test.YthlohokmnajpoaaGreatDoorFcmp
import Derived.Test.YthlohokmnajpoaaGreatDoorFslices
set_option linter.unusedVariables false
set_option linter.unusedSimpArgs false
namespace Go.Proofs.YthlohokmnajpoaaGreatDoor
open Go

theorem src_at {H : Array Obj} {B : Option Addr} {vs : List Value} (h : SrcAt H B vs) {k : Nat} {v : Value} (hk : vs[k]? = some v) : ∃ a, B = some a ∧ hat H (a.add (Int.toNat (k : Int) * 1)) = some v := by
  cases B with
  | none => have h0 : vs = [] := h
            subst h0; simp at hk
  | some a =>
    refine ⟨a, rfl, ?_⟩
    rw [show Int.toNat (k : Int) * 1 = k by omega]
    have := rowAt_hat h k v hk
    rwa [Nat.zero_add] at this
def cmpL : List Int → List Int → Int
  | [], [] => 0
  | [], _ :: _ => -1
  | _ :: _, [] => 1
  | x :: xs, y :: ys => if x < y then -1 else if x > y then 1 else cmpL xs ys
theorem cmpL_anti : ∀ a b : List Int, cmpL b a = - cmpL a b
  | [], [] => rfl
  | [], _ :: _ => rfl
  | _ :: _, [] => rfl
  | x :: xs, y :: ys => by
    have ih := cmpL_anti xs ys
    simp only [cmpL]
    by_cases h1 : x < y
    · rw [if_neg (show ¬ y < x by omega), if_pos (show y > x by omega), if_pos h1]; rfl
    by_cases h2 : y < x
    · rw [if_pos h2, if_neg h1, if_pos (show x > y by omega)]
    · rw [if_neg h2, if_neg (show ¬ y > x by omega), if_neg h1, if_neg (show ¬ x > y by omega)]; exact ih
theorem cmpL_self : ∀ a : List Int, cmpL a a = 0
  | [] => rfl
  | x :: xs => by simp only [cmpL]; rw [if_neg (by omega), if_neg (by omega)]; exact cmpL_self xs
theorem cmpL_eq : ∀ a b : List Int, cmpL a b = 0 → a = b
  | [], [], _ => rfl
  | [], _ :: _, h => by cases h
  | _ :: _, [], h => by cases h
  | x :: xs, y :: ys, h => by
    simp only [cmpL] at h
    by_cases h1 : x < y
    · rw [if_pos h1] at h; cases h
    by_cases h2 : x > y
    · rw [if_neg h1, if_pos h2] at h; cases h
    · rw [if_neg h1, if_neg h2] at h
      rw [cmpL_eq xs ys h, show x = y by omega]
theorem cmpL_snoc (r : Int) : ∀ a : List Int, cmpL a (a ++ [r]) = -1
  | [] => rfl
  | x :: xs => by rw [List.cons_append]; simp only [cmpL]; rw [if_neg (by omega), if_neg (by omega)]; exact cmpL_snoc r xs
def standsB (n o : Int) : Bool :=
  if n = 13 then (o == 0) || decide (o < 0) else if n = 11 then decide (o < 0) else if n = 21 then decide (o < 0) else if n = 14 then (o == 0) || decide (o > 0) else if n = 12 then decide (o > 0) else if n = 22 then decide (o > 0) else o == 0
def risesB (n : Int) : List (List Int) → Bool
  | a :: b :: l => standsB n (cmpL a b) && risesB n (b :: l)
  | _ => true
theorem cmp_Compare_rune_c {H : Array Obj} {x y : Int} : cmp_Compare_rune.C x y H (fun v H' => v = .int .i64 (if x < y then -1 else if x > y then 1 else 0) ∧ H = H') := by
  refine HC.via fun R hR => cmp_Compare_rune.link ?_
  unfold cmp_Compare_rune.pt
  refine cmp_isNaN_rune.link ?_
  unfold cmp_isNaN_rune.pt
  refine ⟨_, rfl, cmp_isNaN_rune.link ?_⟩
  unfold cmp_isNaN_rune.pt
  refine ⟨_, rfl, ?_⟩
  have hx : ¬ (x != x) = true := by simp
  have hy : ¬ (y != y) = true := by simp
  rw [if_neg hx, if_neg hy]
  by_cases h1 : x < y
  · rw [if_pos h1]; exact hR _ _ ⟨by rw [if_pos h1], rfl⟩
  rw [if_neg h1]
  by_cases h2 : x > y
  · rw [if_pos h2]; exact hR _ _ ⟨by rw [if_neg h1, if_pos h2], rfl⟩
  rw [if_neg h2]; exact hR _ _ ⟨by rw [if_neg h1, if_neg h2], rfl⟩
theorem slices_Compare_c {H : Array Obj} {B1 B2 : Option Addr} {n1 c1 n2 c2 : Nat} {l1 l2 : List Int} (s1 : SrcAt H B1 (i32s l1)) (h1 : n1 = l1.length) (s2 : SrcAt H B2 (i32s l2)) (h2 : n2 = l2.length) (hl : l1.length ≤ 1000000) :
    slices_Compare_rune_rune.C B1 n1 c1 B2 n2 c2 H (fun v H' => v = .int .i64 (cmpL l1 l2) ∧ H = H') := by
  subst h1; subst h2
  refine HC.via fun R hR => slices_Compare_rune_rune.link ?_
  unfold slices_Compare_rune_rune.pt
  refine ⟨fun i A => ∃ k : Nat, i = k ∧ k ≤ l1.length ∧ k ≤ l2.length ∧ cmpL (l1.drop k) (l2.drop k) = cmpL l1 l2 ∧ H = A, fun i _ => (l1.length - i).toNat, ⟨0, rfl, by omega, by omega, rfl, rfl⟩, ?_⟩
  rintro _ A ⟨k, rfl, hk1, hk2, hc, hA⟩
  subst hA
  by_cases hlt : (k : Int) < (l1.length : Int)
  · rw [if_pos hlt]
    have hlt' : k < l1.length := by omega
    obtain ⟨a, rfl, ha⟩ := src_at s1 (k := k) (v := .int .i32 l1[k]) (by simp [i32s, hlt'])
    refine ⟨a, rfl, ⟨by omega, hlt⟩, l1[k], ha, ?_⟩
    by_cases hge : (k : Int) ≥ (l2.length : Int)
    · rw [if_pos hge]
      refine hR _ _ ⟨?_, rfl⟩
      rw [← hc, List.drop_eq_getElem_cons hlt', List.drop_eq_nil_of_le (by omega : l2.length ≤ k)]; rfl
    · rw [if_neg hge]
      have hlt2 : k < l2.length := by omega
      obtain ⟨a2, rfl, ha2⟩ := src_at s2 (k := k) (v := .int .i32 l2[k]) (by simp [i32s, hlt2])
      refine ⟨a2, rfl, ⟨by omega, by omega⟩, l2[k], ha2, HC.mono cmp_Compare_rune_c ?_⟩
      rintro _ A2 ⟨rfl, hA2⟩
      subst hA2
      refine ⟨_, rfl, ?_⟩
      rw [List.drop_eq_getElem_cons hlt', List.drop_eq_getElem_cons hlt2] at hc
      by_cases h1 : l1[k] < l2[k]
      · rw [if_pos h1, if_neg (by decide)]
        refine hR _ _ ⟨?_, rfl⟩
        rw [← hc]; simp only [cmpL]; rw [if_pos h1]
      by_cases h2 : l1[k] > l2[k]
      · rw [if_neg h1, if_pos h2, if_neg (by decide)]
        refine hR _ _ ⟨?_, rfl⟩
        rw [← hc]; simp only [cmpL]; rw [if_neg h1, if_pos h2]
      · rw [if_neg h1, if_neg h2, if_pos rfl]
        refine ⟨⟨k + 1, by rw [w64 (by omega)]; omega, by omega, by omega, ?_, rfl⟩, by show ((l1.length : Int) - IntKind.wrap .i64 ((k : Int) + 1)).toNat < ((l1.length : Int) - k).toNat; rw [w64 (by omega)]; omega⟩
        rw [← hc]; simp only [cmpL]; rw [if_neg h1, if_neg h2]
  · rw [if_neg hlt]
    obtain rfl : k = l1.length := by omega
    rw [List.drop_length] at hc
    by_cases h : (l1.length : Int) < (l2.length : Int)
    · rw [if_pos h]
      refine hR _ _ ⟨?_, rfl⟩
      rw [← hc, List.drop_eq_getElem_cons (by omega)]; rfl
    · rw [if_neg h]
      refine hR _ _ ⟨?_, rfl⟩
      rw [← hc, List.drop_eq_nil_of_le (by omega)]; rfl
theorem texts_stands_c {H : Array Obj} {n o : Int} : texts_stands.C n o H (fun v H' => v = .bool (standsB n o) ∧ H = H') := by
  refine HC.via fun R hR => texts_stands.link ?_
  unfold texts_stands.pt
  unfold standsB at hR
  by_cases h : n = 13
  · rw [if_pos h] at hR ⊢; exact hR _ _ ⟨rfl, rfl⟩
  rw [if_neg h] at hR ⊢; clear h
  by_cases h : n = 11
  · rw [if_pos h] at hR ⊢; exact hR _ _ ⟨rfl, rfl⟩
  rw [if_neg h] at hR ⊢; clear h
  by_cases h : n = 21
  · rw [if_pos h] at hR ⊢; exact hR _ _ ⟨rfl, rfl⟩
  rw [if_neg h] at hR ⊢; clear h
  by_cases h : n = 14
  · rw [if_pos h] at hR ⊢; exact hR _ _ ⟨rfl, rfl⟩
  rw [if_neg h] at hR ⊢; clear h
  by_cases h : n = 12
  · rw [if_pos h] at hR ⊢; exact hR _ _ ⟨rfl, rfl⟩
  rw [if_neg h] at hR ⊢; clear h
  by_cases h : n = 22
  · rw [if_pos h] at hR ⊢; exact hR _ _ ⟨rfl, rfl⟩
  rw [if_neg h] at hR ⊢; exact hR _ _ ⟨rfl, rfl⟩
theorem texts_rises_c {H : Array Obj} {n : Int} {T : TypeId} {B : Option Addr} {c : Nat} {P : Nat → Prop} {ss : List Slr} {rss : List (List Int)} (how : Own H T 1 B ss.length c (ss.map slV)) (hea : Each H P ss rss) (hl : ss.length ≤ 1000000) (hrl : ∀ r ∈ rss, r.length ≤ 1000000) :
    texts_rises.C n B ss.length c H (fun v H' => v = .bool (risesB n rss) ∧ H = H') := by
  have hsl := hea.len
  refine HC.via fun R hR => texts_rises.link ?_
  unfold texts_rises.pt
  refine ⟨fun i A => ∃ k : Nat, i = ((k + 1 : Nat) : Int) ∧ (k + 1 ≤ ss.length ∨ k = 0) ∧ risesB n (rss.drop k) = risesB n rss ∧ H = A, fun i _ => (ss.length - i).toNat, ⟨0, rfl, .inr rfl, rfl, rfl⟩, ?_⟩
  rintro _ A ⟨k, rfl, hk, hc, hA⟩
  subst hA
  by_cases hlt : ((k + 1 : Nat) : Int) < (ss.length : Int)
  · rw [if_pos hlt]
    have hl0 : k < rss.length := by omega
    have hl1 : k + 1 < rss.length := by omega
    obtain ⟨s1, e1, o1, n1, _⟩ := hea.get k (List.getElem?_eq_getElem hl0)
    obtain ⟨s2, e2, o2, n2, _⟩ := hea.get (k + 1) (List.getElem?_eq_getElem hl1)
    obtain ⟨a, rfl, ha⟩ := how.at (j := k) (v := slV s1) (by rw [List.getElem?_map, e1]; rfl)
    obtain ⟨a', ha', hb⟩ := how.at (j := k + 1) (v := slV s2) (by rw [List.getElem?_map, e2]; rfl)
    obtain rfl := Option.some.inj ha'
    have hw : IntKind.wrap .i64 (((k + 1 : Nat) : Int) - 1) = (k : Int) := by rw [w64 (by omega)]; omega
    rw [hw]
    refine ⟨a, rfl, ⟨by omega, by omega⟩, s1.1, s1.2.1, s1.2.2, by rw [show Int.toNat (k : Int) * 1 = k by omega]; exact ha, ⟨by omega, hlt⟩, s2.1, s2.2.1, s2.2.2, by rw [show Int.toNat ((k + 1 : Nat) : Int) * 1 = k + 1 by omega]; exact hb, HC.mono (slices_Compare_c o1.src n1 o2.src n2 (hrl _ (List.getElem_mem hl0))) ?_⟩
    rintro _ A2 ⟨rfl, hA2⟩
    subst hA2
    refine ⟨_, rfl, HC.mono texts_stands_c ?_⟩
    rintro _ A3 ⟨rfl, hA3⟩
    subst hA3
    refine ⟨_, rfl, ?_⟩
    have hd : rss.drop (k + 1) = rss[k + 1] :: rss.drop (k + 1 + 1) := List.drop_eq_getElem_cons hl1
    rw [List.drop_eq_getElem_cons hl0, hd] at hc
    have hcc : risesB n (rss[k] :: rss[k + 1] :: rss.drop (k + 1 + 1)) = (standsB n (cmpL rss[k] rss[k + 1]) && risesB n (rss[k + 1] :: rss.drop (k + 1 + 1))) := rfl
    by_cases hs : standsB n (cmpL rss[k] rss[k + 1]) = true
    · rw [if_pos hs]
      refine ⟨⟨k + 1, by rw [w64 (by omega)]; omega, .inl (by omega), ?_, rfl⟩, by show ((ss.length : Int) - IntKind.wrap .i64 (((k + 1 : Nat) : Int) + 1)).toNat < ((ss.length : Int) - ((k + 1 : Nat) : Int)).toNat; rw [w64 (by omega)]; omega⟩
      rw [hd, ← hc, hcc, hs, Bool.true_and]
    · rw [if_neg hs]
      refine hR _ _ ⟨?_, rfl⟩
      rw [← hc, hcc, Bool.eq_false_iff.2 hs]; rfl
  · rw [if_neg hlt]
    refine hR _ _ ⟨?_, rfl⟩
    rw [← hc]
    have hd : (rss.drop k).length ≤ 1 := by rw [List.length_drop]; omega
    generalize rss.drop k = l at hd
    match l, hd with
    | [], _ => rfl
    | [_], _ => rfl
    | _ :: _ :: _, h => exfalso; simp at h
theorem ord_bad {n : Int} {N : Nat} (hn : n = 20 ∨ n = 21 ∨ n = 22) (h : 0 < N) : bad23 n.toNat N = false := by
  have h1 : lm23.getD n.toNat (0, 0, 0) = (1, -1, 1) := by rcases hn with rfl | rfl | rfl <;> rfl
  unfold bad23
  rw [h1, decide_eq_false (show ¬ (N : Int) < 1 by omega)]; rfl
theorem ord_kind {n : Int} (i : Nat) (hn : n = 20 ∨ n = 21 ∨ n = 22 ∨ n = 25) : kind23 n.toNat i = 2 := by
  have h1 : kinds23.getD n.toNat [] = [2] := by rcases hn with rfl | rfl | rfl | rfl <;> rfl
  unfold kind23
  rw [h1]; simp
set_option maxRecDepth 100000 in
theorem apply_order {H0 H : Array Obj} {k : Blk} {x : Hp} {b c : Nat} {n : Int} {ws : List Int} {rss : List (List Int)} (hn : n = 20 ∨ n = 21 ∨ n = 22) (L : Live H0 H k x) (hsrc : SrcAt H (some ⟨b, 0, none⟩) (wvs ws)) (hl0 : 0 < ws.length) (hl : ws.length ≤ 1000) (hw : ∀ w ∈ ws, IsWord w ∧ x.sp.mem.typ w = 2)
    (hs : strs x.sp.mem ws = rss) (hrl : ∀ r ∈ rss, r.length ≤ 1000000) :
    texts_Apply.C (some ⟨k.h, 0, none⟩) n (some ⟨b, 0, none⟩) ws.length c H (fun v H' => v = .tuple #[.int .u64 (truthW (risesB n rss)), .int .i64 0] ∧ Ext H H') := by
  refine apply_ofText (ws := ws) (by omega) L hsrc hl (ord_bad hn hl0) (fun i hi A eA => ?_) (fun A eA => ?_) (fun v A h => ⟨_, _, h.1⟩)
  · have hm := hw _ (List.getElem_mem hi)
    rw [ord_kind i (by omega)]
    refine HC.mono (texts_is_str (L.grow eA).view hm.1) ?_
    rintro _ A' ⟨rfl, e⟩
    have : (mof (some (k, x))).typ ws[i] = 2 := hm.2
    exact ⟨by rw [this]; rfl, e⟩
  refine HC.via fun R hR => texts_ofText.link ?_
  unfold texts_ofText.pt
  refine ofText_pre (o := some (k, x)) (L.grow eA).view (hsrc.ext eA) rfl (fun w h => (hw w h).1) (by omega) (by rw [show mof (some (k, x)) = x.sp.mem from rfl, hs]; exact hrl) fun allB allC A1 ss how hea hy e1 => ?_
  rw [show mof (some (k, x)) = x.sp.mem from rfl, hs] at how hea ⊢
  rw [if_neg (by omega), if_neg (by omega), if_neg (by omega)]
  refine ⟨fun q A => q = true ∧ A1 = A, ?_, ?_⟩
  · rcases hn with rfl | rfl | rfl
    · rw [if_pos rfl]; exact ⟨rfl, rfl⟩
    · rw [if_neg (by decide), if_pos rfl]; exact ⟨rfl, rfl⟩
    · rw [if_neg (by decide), if_neg (by decide)]; exact ⟨rfl, rfl⟩
  rintro _ A1' ⟨rfl, hA1⟩
  subst hA1
  rw [if_pos rfl]
  have hsl := hea.len
  have hle := strs_le x.sp.mem ws
  rw [hs] at hle
  rw [← hsl] at how ⊢
  refine HC.mono (texts_rises_c how hea (by omega) hrl) ?_
  rintro _ A2 ⟨rfl, hA2⟩
  subst hA2
  refine ⟨_, rfl, HC.mono texts_truth_c ?_⟩
  rintro _ A3 ⟨rfl, e3⟩
  exact ⟨_, _, rfl, hR _ _ ⟨rfl, (eA.trans e1).trans e3⟩⟩
set_option maxRecDepth 100000 in
theorem apply_copy {H0 H : Array Obj} {k : Blk} {x : Hp} {b c : Nat} {w more : Int} {rs : List Int} (L : Live H0 H k x) (he : x.sp.mem.Even) (hb : H[b]? = some (.cells #[.int .u64 w] 35 (0, 0))) (t : Thing x.sp.mem w 2 more rs) (hlet : ∀ r ∈ rs, Letter r) (hf : 1 ≤ x.sp.mem.free) (hc : x.sp.mem.count < 4611686018427387904) :
    texts_Apply.C (some ⟨k.h, 0, none⟩) 25 (some ⟨b, 0, none⟩) 1 c H (fun v H' => ∃ (w' : Int) (x' : Hp), v = .tuple #[.int .u64 w', .int .i64 0] ∧ Live H0 H' k x' ∧ MadeOn x x' w' 2 0 rs ∧ Fr k.all H H') := by
  have h62 := t.le62
  have hs : strs x.sp.mem [w] = [rs] := by rw [strs_cons, if_pos t.typ, t.runes hlet, strs_nil]
  refine apply_ofText (ws := [w]) (by omega) L (arg1_src hb) (by simp) rfl (fun i hi A eA => ?_) (fun A eA => ?_) (fun v A h => by obtain ⟨w', x', h, _⟩ := h; exact ⟨_, _, h⟩)
  · obtain rfl : i = 0 := by simpa using hi
    refine HC.mono (texts_is_str (L.grow eA).view t.word) ?_
    rintro _ A' ⟨rfl, e⟩
    have : (mof (some (k, x))).typ w = 2 := t.typ
    exact ⟨by rw [show [w][0] = w from rfl, this]; rfl, e⟩
  refine HC.via fun R hR => texts_ofText.link ?_
  unfold texts_ofText.pt
  refine ofText_pre (o := some (k, x)) (L.grow eA).view ((arg1_src hb).ext eA) rfl (by simpa using t.word) (by simp) (by rw [show mof (some (k, x)) = x.sp.mem from rfl, hs]; simp; omega) fun allB allC A1 ss how hea hy e1 => ?_
  rw [show mof (some (k, x)) = x.sp.mem from rfl, hs] at how hea ⊢
  rw [if_neg (by decide), if_neg (by decide), if_neg (by decide)]
  refine ⟨fun q A => q = false ∧ A1 = A, by rw [if_neg (by decide), if_neg (by decide)]; exact ⟨rfl, rfl⟩, ?_⟩
  rintro _ A1' ⟨rfl, hA1⟩
  subst hA1
  rw [if_neg (by decide), if_neg (by decide), if_neg (by decide), if_neg (by decide)]
  have hsl := hea.len
  rw [← hsl] at how ⊢
  refine HC.mono (runes_concat how hea (by rw [hsl]; simp) (by simp; omega)) ?_
  have hfl : [rs].flatten = rs := by simp
  rw [hfl]
  rintro _ A2 ⟨B, c', rfl, o2, hy2, e2⟩
  refine ⟨_, _, _, rfl, ?_⟩
  refine HC.mono (live_text (L.grow ((eA.trans e1).trans e2)) he o2.src (fun _ => rfl) hlet h62 hf hc) ?_
  rintro _ A3 ⟨w', x', rfl, L3, M3, f3⟩
  exact ⟨_, _, rfl, hR _ _ ⟨w', x', rfl, L3, M3, (((eA.trans e1).trans e2).fr (S := k.all)).trans f3⟩⟩
theorem conv_runes (s : ByteArray) : ∀ (k i : Nat) (acc : Array Value), (Conv.runesFrom s k i acc).toList = acc.toList ++ (runesFrom s k i).map (Value.int .i32)
  | 0, _, acc => by simp [Conv.runesFrom, runesFrom]
  | k + 1, i, acc => by
    unfold Conv.runesFrom runesFrom
    by_cases h : i < s.size
    · rw [if_pos h, if_pos h]
      show (Conv.runesFrom s k (i + (Utf8.decode s i).2) (acc.push (.int .i32 (Int.ofNat (Utf8.decode s i).1)))).toList = _
      rw [conv_runes s k]; simp
    · rw [if_neg h, if_neg h]; simp
theorem runes_inj {k : IntKind} : ∀ {us vs : List Int}, us.map (Value.int k) = vs.map (Value.int k) → us = vs
  | [], [], _ => rfl
  | [], b :: vs, h => by simp at h
  | a :: us, [], h => by simp at h
  | a :: us, b :: vs, h => by
    simp only [List.map_cons, List.cons.injEq, Value.int.injEq, true_and] at h
    rw [h.1, runes_inj h.2]
theorem runesOf_len (s : ByteArray) : (runesOf s).length ≤ s.size := by have := runesFrom_len s (s.size - 0) 0; show (runesFrom s (s.size - 0) 0).length ≤ s.size; omega
theorem torunes_in {e : TypeId} {s : ByteArray} {H : Array Obj} {K : Option Addr → Nat → Nat → Array Obj → Prop} (hl : s.size ≤ 1000000)
    (hk : ∀ (c b : Nat) H', b = H.size → Own H' e 1 (some ⟨b, 0, none⟩) (runesOf s).length c (i32s (runesOf s)) → Ext H H' → K (some ⟨b, 0, none⟩) (runesOf s).length c H') : torunesK e s H K := by
  intro rs hrs
  have h1 := conv_runes s s.size 0 #[]
  rw [hrs] at h1
  have hrr : rs = runesOf s := by
    have h2 : rs.map (Value.int .i32) = (runesFrom s s.size 0).map (Value.int .i32) := by simpa using h1
    have := runes_inj h2
    rw [this]; rfl
  subst hrr
  have := runesOf_len s
  refine ⟨by omega, fun c b H' hc hb hH' => hk c b H' hb ?_ (Ext.push' hH')⟩
  refine ⟨rfl, _, push_get hb hH', by simp; omega, hc, by simp [i32s], fun j hj => ?_⟩
  rw [Array.getElem?_append_left (by simp; omega)]; simp [i32s]
def fixR (r : Int) : Int := if Utf8.valid r = true then r else 65533
theorem fixR_letter (r : Int) : Letter (fixR r) := by
  unfold fixR
  by_cases h : Utf8.valid r = true
  · rw [if_pos h]; exact h
  · rw [if_neg h]; exact valid_err
theorem enc_fix (r : Int) : Utf8.encode r = Utf8.encode (fixR r) := by
  unfold fixR
  by_cases h : Utf8.valid r = true
  · rw [if_pos h]
  · rw [if_neg h]
    unfold Utf8.encode
    rw [if_neg h, if_pos (show Utf8.valid 65533 = true from valid_err)]; rfl
theorem catR_append (a b : List Int) : catR (a ++ b) = catR a ++ catR b := by
  induction a with
  | nil => exact (nil_ba _).symm
  | cons r a ih => rw [List.cons_append]; show Utf8.encode r ++ catR (a ++ b) = Utf8.encode r ++ catR a ++ catR b; rw [ih, ba_assoc]
theorem runes_snoc (rs : List Int) (r : Int) : runesStr rs ++ Utf8.encode r = runesStr (rs ++ [fixR r]) := by
  rw [enc_fix r, runesStr_cat, runesStr_cat, catR_append]
  show _ = catR rs ++ (Utf8.encode (fixR r) ++ ByteArray.empty)
  rw [ba_nil]
theorem enc_size (r : Int) : (Utf8.encode r).size ≤ 4 := by
  unfold Utf8.encode
  simp only []
  repeat' split
  all_goals first | exact Nat.le_refl 4 | exact (by decide : 1 ≤ 4) | exact (by decide : 2 ≤ 4) | exact (by decide : 3 ≤ 4)
theorem catR_size : ∀ rs : List Int, (catR rs).size ≤ 4 * rs.length
  | [] => Nat.le_refl 0
  | r :: rs => by
    have := enc_size r
    have := catR_size rs
    show (Utf8.encode r ++ catR rs).size ≤ _
    rw [ba_size, List.length_cons]; omega
end Go.Proofs.YthlohokmnajpoaaGreatDoor
