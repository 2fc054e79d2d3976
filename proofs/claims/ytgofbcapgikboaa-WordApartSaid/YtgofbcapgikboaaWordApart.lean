/- The law WordApart of morainelaw01 holds: called with any arguments it answers true and leaves what it was handed as it was. No condition. -/
import Derived.Test.YtgofbcapgikboaaLaws01
import Derived.Test.YtgofbcapgikboaaOwn
import Derived.Test.YtgofbcapgikboaaL01good
import Derived.Test.YtgofbcapgikboaaL01WordApart
import Derived.Test.YtgofbcapgikboaaLaw
namespace Go.Proofs.Ytgofbcapgikboaa.wordApart
open Go Go.Proofs.Ytgofbcapgikboaa
open Go.ChangeShapes Go.WideShapes Go.ChangeAt Go.RowKit
set_option linter.unusedVariables false

/-- words as values -/
abbrev vs (ws : List Int) : List Value := ws.map (Value.int .u64)
/-- a list of words in a block of its own, younger than what was handed in -/
structure L (H0 H : Array Obj) (p : Option Addr) (n c : Nat) (ws : List Int) : Prop where
  ext : Ext H0 H
  own : Own H 23 1 p n c (vs ws)
  young : ∀ b, b ∈ blks p → H0.size ≤ b
theorem L.len {H0 H : Array Obj} {p : Option Addr} {n c : Nat} {ws : List Int} (h : L H0 H p n c ws) : n = ws.length := by
  have := h.own.len; simpa using this.symm
theorem L.grow {H0 H H' : Array Obj} {p : Option Addr} {n c : Nat} {ws : List Int} (h : L H0 H p n c ws) (e : Ext H H') : L H0 H' p n c ws :=
  ⟨h.ext.trans e, h.own.ext e, h.young⟩
theorem L.at {H0 H : Array Obj} {p : Option Addr} {n c : Nat} {ws : List Int} (h : L H0 H p n c ws) {i : Nat} (hi : i < ws.length) : ∃ a, p = some a ∧ hat H (a.add i) = some (.int .u64 (ws[i])) :=
  h.own.at (by simp [hi])

theorem allOne_vs : ∀ ws : List Int, allOne (vs ws) = true
  | [] => rfl
  | w :: ws => by show (true && allOne (vs ws)) = true; rw [allOne_vs ws]; rfl

theorem more {H0 H : Array Obj} {p : Option Addr} {n c b m : Nat} {ws us : List Int} {K : Option Addr → Nat → Array Obj → Prop} (h : L H0 H p n c ws) (hg : H[b]? = some (.cells (vs us).toArray 23 (0, 0))) (hm : us.length = m) (hn : n + m ≤ 1000)
    (hK : ∀ p' c' H', L H0 H' p' (n + m) c' (ws ++ us) → K p' c' H') : appendK 1 23 8 [.int .u64 0] p n c (some ⟨b, 0, none⟩) m H K := by
  refine own_append (ys := vs us) h.own (rowAt_of fun j v hv => by rw [addr_add_mk, hat_blk hg]; simpa using hv) (by simp [hm]) (allOne_vs us) rfl (by omega) fun p' c' H' ho hf hb => ?_
  refine hK p' c' H' ⟨h.ext.fr_trans hf h.young, by rw [show vs (ws ++ us) = vs ws ++ vs us by simp [vs]]; exact ho, fun b' hb' => ?_⟩
  rcases hb b' hb' with h1 | h1
  · exact h.young b' h1
  · exact Nat.le_trans h.ext.size h1

theorem good_c {H0 H : Array Obj} {p : Option Addr} {n c : Nat} {ws : List Int} {w e : Int} (h : L H0 H p n c ws) (hn : n ≤ 500) :
    morainelaw01_good.C p n c w e H (fun v H' => ∃ p' n' c', v = .slice p' n' c' ∧ L H0 H' p' n' c' (if e = 0 then ws ++ [w] else ws)) := by
  refine HC.via fun R hR => morainelaw01_good.link ?_
  unfold morainelaw01_good.pt
  by_cases he : e = 0
  · rw [if_pos he] at hR ⊢
    intro b H1 hb hH
    refine more (us := [w]) (h.grow (Ext.push' hH)) (push_get hb hH) rfl (by omega) fun p' c' H' hL => hR _ _ ⟨_, _, _, rfl, hL⟩
  · rw [if_neg he] at hR ⊢
    exact hR _ _ ⟨_, _, _, rfl, h⟩

/-- words that may be, all unlike, each of which is of a class -/
def Apart (f : Int → Prop) (ws : List Int) : Prop := (∀ w ∈ ws, f w ∧ IsWord w ∧ mayW w = true) ∧ ws.Pairwise (· ≠ ·)
theorem Apart.nil {f : Int → Prop} : Apart f [] := ⟨by simp, List.Pairwise.nil⟩
theorem Apart.imp {f g : Int → Prop} {ws : List Int} (h : Apart f ws) (hi : ∀ w, IsWord w → f w → g w) : Apart g ws := ⟨fun w hw => ⟨hi w (h.1 w hw).2.1 (h.1 w hw).1, (h.1 w hw).2⟩, h.2⟩
theorem Apart.snoc {f g : Int → Prop} {ws : List Int} {w : Int} (h : Apart f ws) (hi : ∀ w, IsWord w → f w → g w) (hw : g w) (h1 : IsWord w) (h2 : mayW w = true) (hn : ∀ u, f u → u ≠ w) : Apart g (ws ++ [w]) := by
  refine ⟨fun u hu => ?_, ?_⟩
  · rcases List.mem_append.1 hu with hu | hu
    · exact ⟨hi u (h.1 u hu).2.1 (h.1 u hu).1, (h.1 u hu).2⟩
    · obtain rfl := List.mem_singleton.1 hu; exact ⟨hw, h1, h2⟩
  · refine List.pairwise_append.2 ⟨h.2, List.pairwise_singleton _ _, fun a ha b hb => ?_⟩
    obtain rfl := List.mem_singleton.1 hb
    exact hn a (h.1 a ha).1

theorem mayW_fix {x : Int} : mayW (fixW x) = true := mayW_0 (by unfold fixW; omega)
theorem word_fix (x : Int) : IsWord (fixW x) := by unfold fixW IsWord; omega
theorem mayW_char {c : Int} (h0 : 0 ≤ c) (h : letterB c = true) : mayW (c * 256 + 60) = true := by
  rw [mayW_4 (by omega), if_pos (by omega), show (c * 256 + 60) / 256 = c by omega, h]

theorem law (x y : Int) (c d : Int) (tag addr other kind n more_ : Int) (hx : -9223372036854775808 ≤ x ∧ x ≤ 9223372036854775807) (hy : -9223372036854775808 ≤ y ∧ y ≤ 9223372036854775807)
    (hc : -2147483648 ≤ c ∧ c ≤ 2147483647) (hd : -2147483648 ≤ d ∧ d ≤ 2147483647) (ht : -9223372036854775808 ≤ tag ∧ tag ≤ 9223372036854775807) (ha : -9223372036854775808 ≤ addr ∧ addr ≤ 9223372036854775807) (ho : -9223372036854775808 ≤ other ∧ other ≤ 9223372036854775807)
    (hk : -9223372036854775808 ≤ kind ∧ kind ≤ 9223372036854775807) (hn : -9223372036854775808 ≤ n ∧ n ≤ 9223372036854775807) (hm : IsWord more_) (H : Array Obj) :
    morainelaw01_WordApart.C x y c d tag addr other kind n more_ H (fun v H' => v = .bool true ∧ Ext H H') := by
  refine HC.via fun R hR => morainelaw01_WordApart.link ?_
  unfold morainelaw01_WordApart.pt
  -- the first fixnum
  refine HC.mono (word_Fix_c hx) ?_
  rintro _ H1 ⟨rfl, e1⟩
  rw [ite_tup2]
  refine ⟨_, _, rfl, ?_⟩
  have l0 : L H H1 none 0 0 [] := ⟨e1, own_nil, by simp⟩
  refine HC.mono (good_c l0 (by omega)) ?_
  rintro _ H2 ⟨p1, n1, c1, rfl, l1⟩
  refine ⟨_, _, _, rfl, ?_⟩
  have a1 : Apart (fun w => w = fixW x ∧ -1152921504606846976 ≤ x ∧ x < 1152921504606846976) (if (if -1152921504606846976 ≤ x ∧ x < 1152921504606846976 then (0 : Int) else 4) = 0 then [] ++ [if -1152921504606846976 ≤ x ∧ x < 1152921504606846976 then fixW x else 0] else []) ∧
      (if (if -1152921504606846976 ≤ x ∧ x < 1152921504606846976 then (0 : Int) else 4) = 0 then [] ++ [if -1152921504606846976 ≤ x ∧ x < 1152921504606846976 then fixW x else 0] else []).length ≤ 1 := by
    by_cases h : -1152921504606846976 ≤ x ∧ x < 1152921504606846976
    · rw [if_pos h, if_pos h, if_pos rfl]
      exact ⟨Apart.nil.snoc (f := fun _ => False) (fun _ _ h => h.elim) ⟨rfl, h⟩ (word_fix x) mayW_fix (fun _ h => h.elim), by simp⟩
    · rw [if_neg h, if_neg h, if_neg (by decide)]; exact ⟨Apart.nil, by simp⟩
  generalize (if (if -1152921504606846976 ≤ x ∧ x < 1152921504606846976 then (0 : Int) else 4) = 0 then [] ++ [if -1152921504606846976 ≤ x ∧ x < 1152921504606846976 then fixW x else 0] else []) = ws1 at a1 l1
  obtain ⟨a1, b1⟩ := a1
  -- the second
  refine ⟨fun p n c H' => ∃ ws, L H H' p n c ws ∧ Apart (fun w => w % 8 = 0) ws ∧ ws.length ≤ 2, ?_, ?_⟩
  · by_cases hxy : x = y
    · rw [if_pos hxy]
      exact ⟨ws1, l1, a1.imp (fun w _ h => by rw [h.1]; unfold fixW; omega), by omega⟩
    rw [if_neg hxy]
    refine HC.mono (word_Fix_c hy) ?_
    rintro _ H3 ⟨rfl, e3⟩
    rw [ite_tup2]
    refine ⟨_, _, rfl, ?_⟩
    refine HC.mono (good_c (l1.grow e3) (by have := l1.len; omega)) ?_
    rintro _ H4 ⟨p2, n2, c2, rfl, l2⟩
    refine ⟨_, _, _, rfl, ?_⟩
    by_cases h : -1152921504606846976 ≤ y ∧ y < 1152921504606846976
    · rw [if_pos h, if_pos h, if_pos rfl] at l2
      refine ⟨_, l2, a1.snoc (fun w _ h => by rw [h.1]; unfold fixW; omega) (by unfold fixW; omega) (word_fix y) mayW_fix (fun u hu he => hxy ?_), by simp; omega⟩
      rw [hu.1] at he
      unfold fixW at he
      omega
    · rw [if_neg h, if_neg h, if_neg (by decide)] at l2
      exact ⟨_, l2, a1.imp (fun w _ h => by rw [h.1]; unfold fixW; omega), by omega⟩
  rintro p2 n2 c2 H4 ⟨ws2, l2, a2, b2⟩
  -- the first character
  refine HC.mono (word_Char_c hc) ?_
  rintro _ H5 ⟨rfl, e5⟩
  rw [ite_tup2]
  refine ⟨_, _, rfl, ?_⟩
  refine HC.mono (good_c (l2.grow e5) (by have := l2.len; omega)) ?_
  rintro _ H6 ⟨p3, n3, c3, rfl, l3⟩
  refine ⟨_, _, _, rfl, ?_⟩
  have a3 : ∃ ws3, L H H6 p3 n3 c3 ws3 ∧ Apart (fun w => w % 8 = 0 ∨ (w = c * 256 + 60 ∧ 0 ≤ c)) ws3 ∧ ws3.length ≤ 3 := by
    by_cases h : 0 ≤ c ∧ letterB c = true
    · rw [if_pos h, if_pos h, if_pos rfl] at l3
      exact ⟨_, l3, a2.snoc (fun w _ h => .inl h) (.inr ⟨rfl, h.1⟩) ⟨by omega, by omega⟩ (mayW_char h.1 h.2) (fun u hu he => by omega), by simp; omega⟩
    · rw [if_neg h, if_neg h, if_neg (by decide)] at l3
      exact ⟨_, l3, a2.imp (fun w _ h => .inl h), by omega⟩
  clear l3
  obtain ⟨ws3, l3, a3, b3⟩ := a3
  -- the second
  refine ⟨fun p n c H' => ∃ ws, L H H' p n c ws ∧ Apart (fun w => w % 8 = 0 ∨ (w % 8 = 4 ∧ w / 8 % 32 = 7)) ws ∧ ws.length ≤ 4, ?_, ?_⟩
  · by_cases hcd : c = d
    · rw [if_pos hcd]
      exact ⟨ws3, l3, a3.imp (fun w _ h => by omega), by omega⟩
    rw [if_neg hcd]
    refine HC.mono (word_Char_c hd) ?_
    rintro _ H7 ⟨rfl, e7⟩
    rw [ite_tup2]
    refine ⟨_, _, rfl, ?_⟩
    refine HC.mono (good_c (l3.grow e7) (by have := l3.len; omega)) ?_
    rintro _ H8 ⟨p4, n4, c4, rfl, l4⟩
    refine ⟨_, _, _, rfl, ?_⟩
    by_cases h : 0 ≤ d ∧ letterB d = true
    · rw [if_pos h, if_pos h, if_pos rfl] at l4
      exact ⟨_, l4, a3.snoc (fun w _ h => by omega) (by have := h.1; omega) ⟨by have := h.1; omega, by omega⟩ (mayW_char h.1 h.2) (fun u hu he => by have := h.1; omega), by simp; omega⟩
    · rw [if_neg h, if_neg h, if_neg (by decide)] at l4
      exact ⟨_, l4, a3.imp (fun w _ h => by omega), by omega⟩
  rintro p4 n4 c4 H8 ⟨ws4, l4, a4, b4⟩
  -- the first address
  refine HC.mono (word_At_c ht ha) ?_
  rintro _ H9 ⟨rfl, e9⟩
  have v5 : ∃ (u e : Int), (if ¬ (tag = 1 ∨ tag = 2 ∨ tag = 3 ∨ tag = 6) then Value.tuple #[.int .u64 0, .int .i64 1] else if 0 ≤ addr ∧ addr < 65536 then .tuple #[.int .u64 (addr * 8 + tag), .int .i64 0] else .tuple #[.int .u64 0, .int .i64 18]) = .tuple #[.int .u64 u, .int .i64 e] ∧
      ((e = 0 ∧ (tag = 1 ∨ tag = 2 ∨ tag = 3 ∨ tag = 6) ∧ (0 ≤ addr ∧ addr < 65536) ∧ u = addr * 8 + tag) ∨ e ≠ 0) := by
    by_cases h1 : tag = 1 ∨ tag = 2 ∨ tag = 3 ∨ tag = 6
    · rw [if_neg (fun h => h h1)]
      by_cases h2 : 0 ≤ addr ∧ addr < 65536
      · rw [if_pos h2]; exact ⟨_, _, rfl, .inl ⟨rfl, h1, h2, rfl⟩⟩
      · rw [if_neg h2]; exact ⟨_, _, rfl, .inr (by decide)⟩
    · rw [if_pos h1]; exact ⟨_, _, rfl, .inr (by decide)⟩
  obtain ⟨u5, f5, h5, d5⟩ := v5
  refine ⟨u5, f5, h5, ?_⟩
  refine HC.mono (good_c (l4.grow e9) (by have := l4.len; omega)) ?_
  rintro _ H10 ⟨p5, n5, c5, rfl, l5⟩
  refine ⟨_, _, _, rfl, ?_⟩
  have mayA : ∀ a : Int, (tag = 1 ∨ tag = 2 ∨ tag = 3 ∨ tag = 6) → 0 ≤ a ∧ a < 65536 → mayW (a * 8 + tag) = true := fun a h1 h2 => by
    rw [mayW_a (by omega)]; exact decide_eq_true (by omega)
  have a5 : ∃ ws5, L H H10 p5 n5 c5 ws5 ∧ Apart (fun w => (w % 8 = 0 ∨ (w % 8 = 4 ∧ w / 8 % 32 = 7)) ∨ (w = addr * 8 + tag ∧ (tag = 1 ∨ tag = 2 ∨ tag = 3 ∨ tag = 6))) ws5 ∧ ws5.length ≤ 5 := by
    rcases d5 with ⟨rfl, h1, h2, rfl⟩ | hne
    · rw [if_pos rfl] at l5
      exact ⟨_, l5, a4.snoc (fun w _ h => .inl h) (.inr ⟨rfl, h1⟩) ⟨by omega, by omega⟩ (mayA _ h1 h2) (fun u hu he => by omega), by simp; omega⟩
    · rw [if_neg hne] at l5
      exact ⟨_, l5, a4.imp (fun w _ h => .inl h), by omega⟩
  clear l5 h5
  obtain ⟨ws5, l5, a5, b5⟩ := a5
  -- the second
  refine ⟨fun p n c H' => ∃ ws, L H H' p n c ws ∧ Apart (fun w => (w % 8 = 0 ∨ (w % 8 = 4 ∧ w / 8 % 32 = 7)) ∨ (w % 8 = 1 ∨ w % 8 = 2 ∨ w % 8 = 3 ∨ w % 8 = 6)) ws ∧ ws.length ≤ 6, ?_, ?_⟩
  · by_cases hao : addr = other
    · rw [if_pos hao]
      exact ⟨ws5, l5, a5.imp (fun w _ h => by omega), by omega⟩
    rw [if_neg hao]
    refine HC.mono (word_At_c ht ho) ?_
    rintro _ H11 ⟨rfl, e11⟩
    have v6 : ∃ (u e : Int), (if ¬ (tag = 1 ∨ tag = 2 ∨ tag = 3 ∨ tag = 6) then Value.tuple #[.int .u64 0, .int .i64 1] else if 0 ≤ other ∧ other < 65536 then .tuple #[.int .u64 (other * 8 + tag), .int .i64 0] else .tuple #[.int .u64 0, .int .i64 18]) = .tuple #[.int .u64 u, .int .i64 e] ∧
        ((e = 0 ∧ (tag = 1 ∨ tag = 2 ∨ tag = 3 ∨ tag = 6) ∧ (0 ≤ other ∧ other < 65536) ∧ u = other * 8 + tag) ∨ e ≠ 0) := by
      by_cases h1 : tag = 1 ∨ tag = 2 ∨ tag = 3 ∨ tag = 6
      · rw [if_neg (fun h => h h1)]
        by_cases h2 : 0 ≤ other ∧ other < 65536
        · rw [if_pos h2]; exact ⟨_, _, rfl, .inl ⟨rfl, h1, h2, rfl⟩⟩
        · rw [if_neg h2]; exact ⟨_, _, rfl, .inr (by decide)⟩
      · rw [if_pos h1]; exact ⟨_, _, rfl, .inr (by decide)⟩
    obtain ⟨u6, f6, h6, d6⟩ := v6
    refine ⟨u6, f6, h6, ?_⟩
    refine HC.mono (good_c (l5.grow e11) (by have := l5.len; omega)) ?_
    rintro _ H12 ⟨p6, n6, c6, rfl, l6⟩
    refine ⟨_, _, _, rfl, ?_⟩
    rcases d6 with ⟨rfl, h1, h2, rfl⟩ | hne
    · rw [if_pos rfl] at l6
      exact ⟨_, l6, a5.snoc (fun w _ h => by omega) (by omega) ⟨by omega, by omega⟩ (mayA _ h1 h2) (fun u hu he => by omega), by simp; omega⟩
    · rw [if_neg hne] at l6
      exact ⟨_, l6, a5.imp (fun w _ h => by omega), by omega⟩
  rintro p6 n6 c6 H12 ⟨ws6, l6, a6, b6⟩
  -- the header
  refine HC.mono (word_Header_c hk hn hm) ?_
  rintro _ H13 ⟨rfl, e13⟩
  rw [ite_tup2]
  refine ⟨_, _, rfl, ?_⟩
  refine HC.mono (good_c (l6.grow e13) (by have := l6.len; omega)) ?_
  rintro _ H14 ⟨p7, n7, c7, rfl, l7⟩
  refine ⟨_, _, _, rfl, ?_⟩
  have a7 : ∃ ws7, L H H14 p7 n7 c7 ws7 ∧ Apart (fun w => ((w % 8 = 0 ∨ (w % 8 = 4 ∧ w / 8 % 32 = 7)) ∨ (w % 8 = 1 ∨ w % 8 = 2 ∨ w % 8 = 3 ∨ w % 8 = 6)) ∨ w % 8 = 5) ws7 ∧ ws7.length ≤ 7 := by
    by_cases h : (1 ≤ kind ∧ kind ≤ 13) ∧ (0 ≤ n ∧ n ≤ 62) ∧ more_ < 281474976710656
    · rw [if_pos h, if_pos h, if_pos rfl] at l7
      have hm0 := hm.1
      refine ⟨_, l7, a6.snoc (fun w _ h => .inl h) (.inr (by omega)) ⟨by omega, by omega⟩ ?_ (fun u hu he => by omega), by simp; omega⟩
      rw [mayW_5 (by omega)]
      exact decide_eq_true (by omega)
    · rw [if_neg h, if_neg h, if_neg (by decide)] at l7
      exact ⟨_, l7, a6.imp (fun w _ h => .inl h), by omega⟩
  clear l7
  obtain ⟨ws7, l7, a7, b7⟩ := a7
  -- the constants
  intro b H15 hb hH15
  have hlen7 := l7.len
  refine more (us := [4, 12, 20, 28, 36, 44, 52]) (l7.grow (Ext.push' hH15)) (push_get hb hH15) rfl (by omega) ?_
  intro p8 c8 H16 l8
  have a8 : Apart (fun _ => True) (ws7 ++ [4, 12, 20, 28, 36, 44, 52]) := by
    refine ⟨fun w hw => ⟨trivial, ?_⟩, ?_⟩
    · rcases List.mem_append.1 hw with hw | hw
      · exact (a7.1 w hw).2
      · simp only [List.mem_cons, List.not_mem_nil, or_false] at hw
        rcases hw with rfl | rfl | rfl | rfl | rfl | rfl | rfl <;> exact ⟨by decide, by decide⟩
    · refine List.pairwise_append.2 ⟨a7.2, by decide, fun u hu w hw => ?_⟩
      have := (a7.1 u hu).1
      simp only [List.mem_cons, List.not_mem_nil, or_false] at hw
      omega
  generalize ws7 ++ [4, 12, 20, 28, 36, 44, 52] = ws at l8 a8
  have hlen : n7 + 7 = ws.length := l8.len
  refine ⟨fun i H' => 0 ≤ i ∧ i ≤ ws.length ∧ L H H' p8 (n7 + 7) c8 ws, fun i _ => (ws.length - i).toNat, ⟨by omega, by omega, l8⟩, ?_⟩
  rintro i H17 ⟨i0, i1, l9⟩
  by_cases hi : i < ((n7 : Int) + 7)
  · rw [if_pos hi]
    have hiN : i.toNat < ws.length := by omega
    obtain ⟨a, rfl, ha⟩ := l9.at hiN
    refine ⟨a, rfl, ⟨i0, hi⟩, ws[i.toNat], by rw [Nat.mul_one]; exact ha, ?_⟩
    have hw := a8.1 (ws[i.toNat]) (List.getElem_mem _)
    refine HC.mono (word_May_c hw.2.1) ?_
    rintro _ H18 ⟨rfl, e18⟩
    refine ⟨_, rfl, ?_⟩
    rw [if_pos hw.2.2]
    have l10 := l9.grow e18
    refine ⟨fun k H' => H' = H18 ∧ 0 ≤ k ∧ k ≤ i, fun k _ => (i - k).toNat, ⟨rfl, by omega, i0⟩, ?_⟩
    rintro k H19 ⟨rfl, k0, k1⟩
    by_cases hk' : k < i
    · rw [if_pos hk']
      have hkN : k.toNat < ws.length := by omega
      obtain ⟨a', ha', hak⟩ := l10.at hkN
      cases ha'
      obtain ⟨a', ha', hai⟩ := l10.at hiN
      cases ha'
      refine ⟨⟨k0, by omega⟩, ws[k.toNat], by rw [Nat.mul_one]; exact hak, ⟨i0, hi⟩, ws[i.toNat], by rw [Nat.mul_one]; exact hai, ?_⟩
      have hne : ws[k.toNat] ≠ ws[i.toNat] := List.pairwise_iff_getElem.1 a8.2 _ _ hkN hiN (by omega)
      rw [if_neg hne, w64 (n := k + 1) (by omega)]
      exact ⟨⟨rfl, by omega, by omega⟩, by show (i - (k + 1)).toNat < (i - k).toNat; omega⟩
    · rw [if_neg hk', w64 (n := i + 1) (by omega)]
      exact ⟨⟨by omega, by omega, l10⟩, by show ((ws.length : Int) - (i + 1)).toNat < ((ws.length : Int) - i).toNat; omega⟩
  · rw [if_neg hi]
    refine HC.mono awake01_c ?_
    rintro _ H18 ⟨rfl, e18⟩
    exact ⟨true, rfl, hR _ _ ⟨rfl, l9.ext.trans e18⟩⟩

set_option maxRecDepth 100000 in
theorem lifted (os : Os) (started : os.Started) (H : Type) (enc : TypeId × Value → H) :
    ReturnsInHanded {} Try.checked os 6 .any (Rows.wordApartSpec.pre6 enc Try.prog Try.f6 Rows.wordApartRow.domain false) (Rows.wordApartSpec.post enc Try.prog Try.f6 false true false false) := by
  refine law_lifted (tb := 4) started (by kernel_rfl) Try.func6
    (ChangeSpec.witness6 (enc := enc) (C := Try.checked) false ⟨#[], #[.int .i64 0, .int .i64 0, .int .i32 0, .int .i32 0, .int .i64 0, .int .i64 0, .int .i64 0, .int .i64 0, .int .i64 0, .int .u64 0], []⟩ 8 (by kernel_rfl) (by kernel_rfl) (by kernel_rfl) (by kernel_rfl))
    rfl (by kernel_rfl) rfl Try.underlying4 (fun ds hds => ?_) ?_
  · match ds, hds with
    | [d0, d1, d2, d3, d4, d5, d6, d7, d8, d9], _ => rfl
  intro W base args ds p hval hA _
  rw [Try.params6] at hA hval
  obtain ⟨v0, vs0, d0, ds0, p0, q0, hargs, rfl, rfl, h0, r0⟩ := trodAll_cons hA
  obtain ⟨v1, vs1, d1, ds1, p1, q1, rfl, rfl, rfl, h1, r1⟩ := trodAll_cons r0
  obtain ⟨v2, vs2, d2, ds2, p2, q2, rfl, rfl, rfl, h2, r2⟩ := trodAll_cons r1
  obtain ⟨v3, vs3, d3, ds3, p3, q3, rfl, rfl, rfl, h3, r3⟩ := trodAll_cons r2
  obtain ⟨v4, vs4, d4, ds4, p4, q4, rfl, rfl, rfl, h4, r4⟩ := trodAll_cons r3
  obtain ⟨v5, vs5, d5, ds5, p5, q5, rfl, rfl, rfl, h5, r5⟩ := trodAll_cons r4
  obtain ⟨v6, vs6, d6, ds6, p6, q6, rfl, rfl, rfl, h6, r6⟩ := trodAll_cons r5
  obtain ⟨v7, vs7, d7, ds7, p7, q7, rfl, rfl, rfl, h7, r7⟩ := trodAll_cons r6
  obtain ⟨v8, vs8, d8, ds8, p8, q8, rfl, rfl, rfl, h8, r8⟩ := trodAll_cons r7
  obtain ⟨v9, vs9, d9, ds9, p9, q9, rfl, rfl, rfl, h9, r9⟩ := trodAll_cons r8
  obtain ⟨rfl, rfl, rfl⟩ := trodAll_nil r9
  obtain rfl : args = #[v0, v1, v2, v3, v4, v5, v6, v7, v8, v9] := by cases args; simp_all
  obtain ⟨a0, rfl, rfl, rfl, w0⟩ := open_int Try.underlying2 (hval 0 2 v0 rfl rfl) h0
  obtain ⟨a1, rfl, rfl, rfl, w1⟩ := open_int Try.underlying2 (hval 1 2 v1 rfl rfl) h1
  obtain ⟨a2, rfl, rfl, rfl, w2⟩ := open_int Try.underlying21 (hval 2 21 v2 rfl rfl) h2
  obtain ⟨a3, rfl, rfl, rfl, w3⟩ := open_int Try.underlying21 (hval 3 21 v3 rfl rfl) h3
  obtain ⟨a4, rfl, rfl, rfl, w4⟩ := open_int Try.underlying3 (hval 4 3 v4 rfl rfl) h4
  obtain ⟨a5, rfl, rfl, rfl, w5⟩ := open_int Try.underlying3 (hval 5 3 v5 rfl rfl) h5
  obtain ⟨a6, rfl, rfl, rfl, w6⟩ := open_int Try.underlying3 (hval 6 3 v6 rfl rfl) h6
  obtain ⟨a7, rfl, rfl, rfl, w7⟩ := open_int Try.underlying3 (hval 7 3 v7 rfl rfl) h7
  obtain ⟨a8, rfl, rfl, rfl, w8⟩ := open_int Try.underlying3 (hval 8 3 v8 rfl rfl) h8
  obtain ⟨a9, rfl, rfl, rfl, w9⟩ := open_int Try.underlying22 (hval 9 22 v9 rfl rfl) h9
  exact law a0 a1 a2 a3 a4 a5 a6 a7 a8 a9 (wf_i64 w0) (wf_i64 w1) (wf_i32 w2) (wf_i32 w3) (wf_i64 w4) (wf_i64 w5) (wf_i64 w6) (wf_i64 w7) (wf_i64 w8) (wf_u64 w9) W.heap

theorem over : Rows.wordApartRow.holds Try.pinned (OpenSpec.ofChange Rows.wordApartSpec) :=
  OpenClaim.holds_of_wide 6 Try.f6 rfl rfl rfl rfl rfl rfl rfl ⟨rfl, rfl, rfl, rfl, rfl⟩ rfl rfl rfl rfl rfl (by kernel_rfl) Try.func6 (by kernel_rfl)
    (of_decide_eq_true (by kernel_rfl)) (by unfold Func.isWrapper; first | (rw [if_pos (by decide +kernel)]; kernel_rfl) | (rw [if_neg (by decide +kernel)]; exact ⟨rfl, rfl⟩))
    (fun os started H enc _ => lifted os started H enc)

theorem proved : Rows.WordApartSaid :=
  over
#print axioms proved
end Go.Proofs.Ytgofbcapgikboaa.wordApart
