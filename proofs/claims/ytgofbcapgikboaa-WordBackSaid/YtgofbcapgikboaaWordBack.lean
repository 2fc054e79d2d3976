/- The law WordBack of morainelaw01 holds: called with any arguments it answers true and leaves what it was handed as it was. No condition. -/
import Derived.Test.YtgofbcapgikboaaLaws01
import Derived.Test.YtgofbcapgikboaaL01WordBack
import Derived.Test.YtgofbcapgikboaaLaw
namespace Go.Proofs.Ytgofbcapgikboaa.wordBack
open Go Go.Proofs.Ytgofbcapgikboaa
open Go.ChangeShapes Go.WideShapes Go.ChangeAt Go.RowKit
set_option linter.unusedVariables false

/-- one if it is so -/
def bi (b : Bool) : Int := if b then 1 else 0
theorem bi_t : bi true = 1 := rfl
theorem bi_f : bi false = 0 := rfl
theorem bi01 (b : Bool) : 0 ≤ bi b ∧ bi b ≤ 1 := by cases b <;> decide

theorem law (w : Int) (hw : IsWord w) (H : Array Obj) :
    morainelaw01_WordBack.C w H (fun v H' => v = .bool true ∧ Ext H H') := by
  refine HC.via fun R hR => morainelaw01_WordBack.link ?_
  unfold morainelaw01_WordBack.pt
  refine HC.mono (word_Int_c hw) ?_
  rintro _ H1 ⟨rfl, e1⟩
  have h1 : ∃ (x : Int) (fix : Bool), (if w % 8 = 0 then Value.tuple #[.int .i64 (signed w / 8), .bool true] else .tuple #[.int .i64 0, .bool false]) = .tuple #[.int .i64 x, .bool fix] ∧ ((w % 8 = 0 ∧ fix = true ∧ x = signed w / 8) ∨ (¬ w % 8 = 0 ∧ fix = false)) := by
    by_cases h : w % 8 = 0
    · rw [if_pos h]; exact ⟨_, _, rfl, .inl ⟨h, rfl, rfl⟩⟩
    · rw [if_neg h]; exact ⟨_, _, rfl, .inr ⟨h, rfl⟩⟩
  obtain ⟨x, fix, hv1, d1⟩ := h1
  refine ⟨x, fix, hv1, ?_⟩
  refine HC.mono (word_Rune_c hw) ?_
  rintro _ H2 ⟨rfl, e2⟩
  have h2 : ∃ (c : Int) (letter : Bool), (if w % 8 = 4 ∧ w / 8 % 32 = 7 ∧ letterB (w / 256) = true then Value.tuple #[.int .i32 (w / 256), .bool true] else .tuple #[.int .i32 0, .bool false]) = .tuple #[.int .i32 c, .bool letter] ∧ ((w % 8 = 4 ∧ w / 8 % 32 = 7 ∧ letterB (w / 256) = true ∧ letter = true ∧ c = w / 256) ∨ (¬ (w % 8 = 4 ∧ w / 8 % 32 = 7 ∧ letterB (w / 256) = true) ∧ letter = false)) := by
    by_cases h : w % 8 = 4 ∧ w / 8 % 32 = 7 ∧ letterB (w / 256) = true
    · rw [if_pos h]; exact ⟨_, _, rfl, .inl ⟨h.1, h.2.1, h.2.2, rfl, rfl⟩⟩
    · rw [if_neg h]; exact ⟨_, _, rfl, .inr ⟨h, rfl⟩⟩
  obtain ⟨c, letter, hv2, d2⟩ := h2
  refine ⟨c, letter, hv2, ?_⟩
  refine HC.mono (word_Addr_c hw) ?_
  rintro _ H3 ⟨rfl, e3⟩
  have h3 : ∃ (a : Int) (place : Bool), (if (w % 8 = 1 ∨ w % 8 = 2 ∨ w % 8 = 3 ∨ w % 8 = 6) ∧ w / 8 < 65536 then Value.tuple #[.int .i64 (w / 8), .bool true] else .tuple #[.int .i64 0, .bool false]) = .tuple #[.int .i64 a, .bool place] ∧ (((w % 8 = 1 ∨ w % 8 = 2 ∨ w % 8 = 3 ∨ w % 8 = 6) ∧ w / 8 < 65536 ∧ place = true ∧ a = w / 8) ∨ (¬ ((w % 8 = 1 ∨ w % 8 = 2 ∨ w % 8 = 3 ∨ w % 8 = 6) ∧ w / 8 < 65536) ∧ place = false)) := by
    by_cases h : (w % 8 = 1 ∨ w % 8 = 2 ∨ w % 8 = 3 ∨ w % 8 = 6) ∧ w / 8 < 65536
    · rw [if_pos h]; exact ⟨_, _, rfl, .inl ⟨h.1, h.2, rfl, rfl⟩⟩
    · rw [if_neg h]; exact ⟨_, _, rfl, .inr ⟨h, rfl⟩⟩
  obtain ⟨a, place, hv3, d3⟩ := h3
  refine ⟨a, place, hv3, ?_⟩
  refine HC.mono (word_Head_c hw) ?_
  rintro _ H4 ⟨rfl, e4⟩
  have h4 : ∃ (p q r : Int) (d : Bool), (if w % 8 = 5 ∧ (1 ≤ w / 8 % 32 ∧ w / 8 % 32 ≤ 13 ∧ w / 256 % 256 ≤ 62) then Value.tuple #[.int .i64 (w / 8 % 32), .int .i64 (w / 256 % 256), .int .u64 (w / 65536), .bool true] else .tuple #[.int .i64 0, .int .i64 0, .int .u64 0, .bool false]) = .tuple #[.int .i64 p, .int .i64 q, .int .u64 r, .bool d] ∧
      ((w % 8 = 5 ∧ (1 ≤ w / 8 % 32 ∧ w / 8 % 32 ≤ 13 ∧ w / 256 % 256 ≤ 62) ∧ d = true ∧ p = w / 8 % 32 ∧ q = w / 256 % 256 ∧ r = w / 65536) ∨ (¬ (w % 8 = 5 ∧ (1 ≤ w / 8 % 32 ∧ w / 8 % 32 ≤ 13 ∧ w / 256 % 256 ≤ 62)) ∧ d = false)) := by
    by_cases h : w % 8 = 5 ∧ (1 ≤ w / 8 % 32 ∧ w / 8 % 32 ≤ 13 ∧ w / 256 % 256 ≤ 62)
    · rw [if_pos h]; exact ⟨_, _, _, _, rfl, .inl ⟨h.1, h.2, rfl, rfl, rfl, rfl⟩⟩
    · rw [if_neg h]; exact ⟨_, _, _, _, rfl, .inr ⟨h, rfl⟩⟩
  obtain ⟨p, q, r, head, hv4, d4⟩ := h4
  refine ⟨p, q, r, head, hv4, ?_⟩
  have d5 : ∃ const : Bool, (((((((w == 4) || (w == 12)) || (w == 20)) || (w == 28)) || (w == 36)) || (w == 44)) || (w == 52)) = const ∧ ((w % 8 = 4 ∧ w / 8 ≤ 6 ∧ const = true) ∨ (¬ (w % 8 = 4 ∧ w / 8 ≤ 6) ∧ const = false)) := by
    refine ⟨_, rfl, ?_⟩
    by_cases h : w % 8 = 4 ∧ w / 8 ≤ 6
    · refine .inl ⟨h.1, h.2, ?_⟩; simp; omega
    · refine .inr ⟨h, ?_⟩; simp; omega
  obtain ⟨const, hv5, d5⟩ := d5
  rw [hv5]
  clear hv1 hv2 hv3 hv4 hv5
  intro b H5 hb hH5
  have e5 : Ext H4 H5 := Ext.push' hH5
  have g5 := push_get hb hH5
  have e0 : Ext H H5 := (((e1.trans e2).trans e3).trans e4).trans e5
  refine ⟨fun count i H' => H' = H5 ∧ ((i = 0 ∧ count = 0) ∨ (i = 1 ∧ count = bi fix) ∨ (i = 2 ∧ count = bi fix + bi letter) ∨ (i = 3 ∧ count = bi fix + bi letter + bi place) ∨ (i = 4 ∧ count = bi fix + bi letter + bi place + bi head) ∨ (i = 5 ∧ count = bi fix + bi letter + bi place + bi head + bi const)),
    fun count i _ => (5 - i).toNat, ⟨rfl, .inl ⟨rfl, rfl⟩⟩, ?_⟩
  rintro count i H6 ⟨rfl, hJ⟩
  have b1 := bi01 fix
  have b2 := bi01 letter
  have b3 := bi01 place
  have b4 := bi01 head
  have b5 := bi01 const
  by_cases hi : i < 5
  · rw [if_pos hi]
    refine ⟨by omega, ?_⟩
    have step : ∀ (j : Nat) (y : Bool), i = j → (#[Value.bool fix, .bool letter, .bool place, .bool head, .bool const] : Array Value)[j]? = some (.bool y) → count + bi y = count + bi y →
        (∀ count', count' = count + bi y → ((j + 1 = 1 ∧ count' = bi fix) ∨ (j + 1 = 2 ∧ count' = bi fix + bi letter) ∨ (j + 1 = 3 ∧ count' = bi fix + bi letter + bi place) ∨ (j + 1 = 4 ∧ count' = bi fix + bi letter + bi place + bi head) ∨ (j + 1 = 5 ∧ count' = bi fix + bi letter + bi place + bi head + bi const))) →
        ∃ x, hat H6 ((Addr.mk b 0 none).add (i.toNat * 1)) = some (.bool x) ∧
          if x = true then ((H6 = H6 ∧ ((IntKind.wrap .i64 (i + 1) = 0 ∧ IntKind.wrap .i64 (count + 1) = 0) ∨ (IntKind.wrap .i64 (i + 1) = 1 ∧ IntKind.wrap .i64 (count + 1) = bi fix) ∨ (IntKind.wrap .i64 (i + 1) = 2 ∧ IntKind.wrap .i64 (count + 1) = bi fix + bi letter) ∨ (IntKind.wrap .i64 (i + 1) = 3 ∧ IntKind.wrap .i64 (count + 1) = bi fix + bi letter + bi place) ∨ (IntKind.wrap .i64 (i + 1) = 4 ∧ IntKind.wrap .i64 (count + 1) = bi fix + bi letter + bi place + bi head) ∨ (IntKind.wrap .i64 (i + 1) = 5 ∧ IntKind.wrap .i64 (count + 1) = bi fix + bi letter + bi place + bi head + bi const))) ∧ (5 - IntKind.wrap .i64 (i + 1)).toNat < (5 - i).toNat)
          else ((H6 = H6 ∧ ((IntKind.wrap .i64 (i + 1) = 0 ∧ count = 0) ∨ (IntKind.wrap .i64 (i + 1) = 1 ∧ count = bi fix) ∨ (IntKind.wrap .i64 (i + 1) = 2 ∧ count = bi fix + bi letter) ∨ (IntKind.wrap .i64 (i + 1) = 3 ∧ count = bi fix + bi letter + bi place) ∨ (IntKind.wrap .i64 (i + 1) = 4 ∧ count = bi fix + bi letter + bi place + bi head) ∨ (IntKind.wrap .i64 (i + 1) = 5 ∧ count = bi fix + bi letter + bi place + bi head + bi const))) ∧ (5 - IntKind.wrap .i64 (i + 1)).toNat < (5 - i).toNat) := by
      intro j y hj hy _ hn
      subst hj
      refine ⟨y, by rw [addr_add_mk, hat_blk g5, Int.toNat_natCast, Nat.mul_one, Nat.zero_add]; exact hy, ?_⟩
      rw [w64 (n := (j : Int) + 1) (by omega), w64 (n := count + 1) (by omega)]
      cases y
      · rw [if_neg (by decide)]
        have := hn count (by rw [bi_f]; omega)
        refine ⟨⟨rfl, ?_⟩, by omega⟩
        omega
      · rw [if_pos rfl]
        have := hn (count + 1) (by rw [bi_t])
        refine ⟨⟨rfl, ?_⟩, by omega⟩
        omega
    rcases hJ with ⟨rfl, hc⟩ | ⟨rfl, hc⟩ | ⟨rfl, hc⟩ | ⟨rfl, hc⟩ | ⟨rfl, hc⟩ | ⟨rfl, hc⟩
    · exact step 0 fix rfl rfl rfl (fun c' h => by omega)
    · exact step 1 letter rfl rfl rfl (fun c' h => by omega)
    · exact step 2 place rfl rfl rfl (fun c' h => by omega)
    · exact step 3 head rfl rfl rfl (fun c' h => by omega)
    · exact step 4 const rfl rfl rfl (fun c' h => by omega)
    · omega
  rw [if_neg hi]
  have hc : count = bi fix + bi letter + bi place + bi head + bi const := by omega
  clear hJ b1 b2 b3 b4 b5
  have awake : ∀ H7, Ext H6 H7 → morainelaw01_awake.C H7 (fun v H3 => ∃ x : Bool, v = .bool x ∧ R (.bool x) H3) := fun H7 e7 => by
    refine HC.mono awake01_c ?_
    rintro _ H3 ⟨rfl, e3⟩
    exact ⟨true, rfl, hR _ _ ⟨rfl, (e0.trans e7).trans e3⟩⟩
  rcases d1 with ⟨h0, rfl, rfl⟩ | ⟨h0, rfl⟩
  · -- a fixnum
    rcases d2 with ⟨h, _⟩ | ⟨_, rfl⟩
    · omega
    rcases d3 with ⟨h, _⟩ | ⟨_, rfl⟩
    · omega
    rcases d4 with ⟨h, _⟩ | ⟨_, rfl⟩
    · omega
    rcases d5 with ⟨h, _⟩ | ⟨_, rfl⟩
    · omega
    have hc1 : count = 1 := hc
    subst hc1
    rw [if_neg (by decide)]
    refine HC.mono (word_May_c hw) ?_
    rintro _ H7 ⟨rfl, e7⟩
    refine ⟨_, rfl, ?_⟩
    have hm : mayW w = ((1 : Int) == 1) := by rw [mayW_0 h0]; rfl
    rw [if_pos hm, if_pos rfl]
    have hs : -9223372036854775808 ≤ signed w ∧ signed w < 9223372036854775808 := by unfold signed; split <;> omega
    have hs8 : signed w / 8 * 8 % 18446744073709551616 = w := by unfold signed; split <;> omega
    refine HC.mono (word_Fix_c (by omega)) ?_
    rintro _ H8 ⟨rfl, e8⟩
    rw [if_pos (by omega)]
    refine ⟨_, _, rfl, ?_⟩
    rw [if_pos rfl, if_pos (by unfold fixW; exact hs8)]
    exact awake _ (e7.trans e8)
  rcases d2 with ⟨h4, h7, hl, rfl, rfl⟩ | ⟨hn2, rfl⟩
  · -- a character
    rcases d3 with ⟨h, _⟩ | ⟨_, rfl⟩
    · omega
    rcases d4 with ⟨h, _⟩ | ⟨_, rfl⟩
    · omega
    rcases d5 with ⟨h, _⟩ | ⟨_, rfl⟩
    · omega
    have hc1 : count = 1 := hc
    subst hc1
    rw [if_neg (by decide)]
    refine HC.mono (word_May_c hw) ?_
    rintro _ H7 ⟨rfl, e7⟩
    refine ⟨_, rfl, ?_⟩
    rw [if_pos (by rw [mayW_4 h4, if_pos h7, hl]; rfl), if_neg (by decide), if_pos rfl]
    have hb : w / 256 ≤ 1114111 := by unfold letterB at hl; simp at hl; exact hl.1
    refine HC.mono (word_Char_c (by omega)) ?_
    rintro _ H8 ⟨rfl, e8⟩
    rw [if_pos ⟨by omega, hl⟩]
    refine ⟨_, _, rfl, ?_⟩
    rw [if_pos rfl, if_pos (by omega)]
    exact awake _ (e7.trans e8)
  rcases d3 with ⟨ha, hl, rfl, rfl⟩ | ⟨hn3, rfl⟩
  · -- an address
    rcases d4 with ⟨h, _⟩ | ⟨_, rfl⟩
    · omega
    rcases d5 with ⟨h, _⟩ | ⟨_, rfl⟩
    · omega
    have hc1 : count = 1 := hc
    subst hc1
    rw [if_neg (by decide)]
    refine HC.mono (word_May_c hw) ?_
    rintro _ H7 ⟨rfl, e7⟩
    refine ⟨_, rfl, ?_⟩
    rw [if_pos (by rw [mayW_a ha, decide_eq_true hl]; rfl), if_neg (by decide), if_neg (by decide), if_pos rfl]
    refine HC.mono (word_Tag_c hw) ?_
    rintro _ H8 ⟨rfl, e8⟩
    refine ⟨_, rfl, ?_⟩
    refine HC.mono (word_At_c (by omega) (by omega)) ?_
    rintro _ H9 ⟨rfl, e9⟩
    rw [if_neg (fun h => h ha), if_pos (by omega)]
    refine ⟨_, _, rfl, ?_⟩
    rw [if_pos rfl, if_pos (by omega)]
    exact awake _ ((e7.trans e8).trans e9)
  rcases d4 with ⟨h5, hh, rfl, rfl, rfl, rfl⟩ | ⟨hn4, rfl⟩
  · -- a header
    rcases d5 with ⟨h, _⟩ | ⟨_, rfl⟩
    · omega
    have hc1 : count = 1 := hc
    subst hc1
    rw [if_neg (by decide)]
    refine HC.mono (word_May_c hw) ?_
    rintro _ H7 ⟨rfl, e7⟩
    refine ⟨_, rfl, ?_⟩
    rw [if_pos (by rw [mayW_5 h5, decide_eq_true hh]; rfl), if_neg (by decide), if_neg (by decide), if_neg (by decide), if_pos rfl]
    refine HC.mono (word_Header_c (by omega) (by omega) ⟨by omega, by omega⟩) ?_
    rintro _ H8 ⟨rfl, e8⟩
    rw [if_pos (by omega)]
    refine ⟨_, _, rfl, ?_⟩
    rw [if_pos rfl, if_pos (by omega)]
    exact awake _ (e7.trans e8)
  rcases d5 with ⟨h4, hl, rfl⟩ | ⟨hn5, rfl⟩
  · -- a constant
    have hc1 : count = 1 := hc
    subst hc1
    rw [if_neg (by decide)]
    refine HC.mono (word_May_c hw) ?_
    rintro _ H7 ⟨rfl, e7⟩
    refine ⟨_, rfl, ?_⟩
    rw [if_pos (by rw [mayW_4 h4, if_neg (by omega), decide_eq_true hl]; rfl), if_neg (by decide), if_neg (by decide), if_neg (by decide), if_neg (by decide)]
    exact awake _ e7
  · -- nothing
    have hc1 : count = 0 := hc
    subst hc1
    rw [if_neg (by decide)]
    refine HC.mono (word_May_c hw) ?_
    rintro _ H7 ⟨rfl, e7⟩
    refine ⟨_, rfl, ?_⟩
    have hm : mayW w = false := by
      have h8 : w % 8 = 1 ∨ w % 8 = 2 ∨ w % 8 = 3 ∨ w % 8 = 6 ∨ w % 8 = 4 ∨ w % 8 = 5 ∨ w % 8 = 7 := by omega
      by_cases ha : w % 8 = 1 ∨ w % 8 = 2 ∨ w % 8 = 3 ∨ w % 8 = 6
      · rw [mayW_a ha]; exact decide_eq_false (fun h => hn3 ⟨ha, h⟩)
      by_cases h4 : w % 8 = 4
      · rw [mayW_4 h4]
        by_cases h7 : w / 8 % 32 = 7
        · rw [if_pos h7]
          have : ¬ letterB (w / 256) = true := fun h => hn2 ⟨h4, h7, h⟩
          simpa using this
        · rw [if_neg h7]; exact decide_eq_false (fun h => hn5 ⟨h4, h⟩)
      by_cases h5 : w % 8 = 5
      · rw [mayW_5 h5]; exact decide_eq_false (fun h => hn4 ⟨h5, h⟩)
      · exact mayW_7 (by omega)
    rw [if_pos (by rw [hm]; rfl), if_neg (by decide), if_neg (by decide), if_neg (by decide), if_neg (by decide)]
    exact awake _ e7

set_option maxRecDepth 100000 in
theorem lifted (os : Os) (started : os.Started) (H : Type) (enc : TypeId × Value → H) :
    ReturnsInHanded {} Try.checked os 8 .any (Rows.wordBackSpec.pre6 enc Try.prog Try.f8 Rows.wordBackRow.domain false) (Rows.wordBackSpec.post enc Try.prog Try.f8 false true false false) := by
  refine law_lifted (tb := 4) started (by kernel_rfl) Try.func8
    (ChangeSpec.witness6 (enc := enc) (C := Try.checked) false ⟨#[], #[.int .u64 0], []⟩ 8 (by kernel_rfl) (by kernel_rfl) (by kernel_rfl) (by kernel_rfl))
    rfl (by kernel_rfl) rfl Try.underlying4 (fun ds hds => ?_) ?_
  · match ds, hds with
    | [d0], _ => rfl
  intro W base args ds p hval hA _
  rw [Try.params8] at hA hval
  obtain ⟨v0, vs0, d0, ds0, p0, q0, hargs, rfl, rfl, h0, r0⟩ := trodAll_cons hA
  obtain ⟨rfl, rfl, rfl⟩ := trodAll_nil r0
  obtain rfl : args = #[v0] := by cases args; simp_all
  obtain ⟨a0, rfl, rfl, rfl, w0⟩ := open_int Try.underlying23 (hval 0 23 v0 rfl rfl) h0
  exact law a0 (wf_u64 w0) W.heap

theorem over : Rows.wordBackRow.holds Try.pinned (OpenSpec.ofChange Rows.wordBackSpec) :=
  OpenClaim.holds_of_wide 8 Try.f8 rfl rfl rfl rfl rfl rfl rfl ⟨rfl, rfl, rfl, rfl, rfl⟩ rfl rfl rfl rfl rfl (by kernel_rfl) Try.func8 (by kernel_rfl)
    (of_decide_eq_true (by kernel_rfl)) (by unfold Func.isWrapper; first | (rw [if_pos (by decide +kernel)]; kernel_rfl) | (rw [if_neg (by decide +kernel)]; exact ⟨rfl, rfl⟩))
    (fun os started H enc _ => lifted os started H enc)

theorem proved : Rows.WordBackSaid :=
  over
#print axioms proved
end Go.Proofs.Ytgofbcapgikboaa.wordBack
