/- The law WordFixes of morainelaw01 holds: called with any int64 and any rune it answers true and leaves what it was handed as it was. No condition. -/
import Derived.Test.YtgofbcapgikboaaLaws01
import Derived.Test.YtgofbcapgikboaaL01WordFixes
import Derived.Test.YtgofbcapgikboaaLaw
namespace Go.Proofs.Ytgofbcapgikboaa.wordFixes
open Go Go.Proofs.Ytgofbcapgikboaa
open Go.ChangeShapes Go.WideShapes Go.ChangeAt Go.RowKit
set_option linter.unusedVariables false

theorem law (x c : Int) (hx : -9223372036854775808 ≤ x ∧ x ≤ 9223372036854775807) (hc : -2147483648 ≤ c ∧ c ≤ 2147483647) (H : Array Obj) :
    morainelaw01_WordFixes.C x c H (fun v H' => v = .bool true ∧ Ext H H') := by
  refine HC.via fun R hR => morainelaw01_WordFixes.link ?_
  unfold morainelaw01_WordFixes.pt
  refine HC.mono (word_Fix_c hx) ?_
  rintro _ H1 ⟨rfl, e1⟩
  have hfix : ∃ ra rb : Int, (if -1152921504606846976 ≤ x ∧ x < 1152921504606846976 then Value.tuple #[.int .u64 (fixW x), .int .i64 0] else Value.tuple #[.int .u64 0, .int .i64 4]) = .tuple #[.int .u64 ra, .int .i64 rb] ∧
      ((-1152921504606846976 ≤ x ∧ x < 1152921504606846976 ∧ ra = fixW x ∧ rb = 0) ∨ (¬ (-1152921504606846976 ≤ x ∧ x < 1152921504606846976) ∧ ra = 0 ∧ rb = 4)) := by
    by_cases h : -1152921504606846976 ≤ x ∧ x < 1152921504606846976
    · rw [if_pos h]; exact ⟨_, _, rfl, .inl ⟨h.1, h.2, rfl, rfl⟩⟩
    · rw [if_neg h]; exact ⟨_, _, rfl, .inr ⟨h, rfl, rfl⟩⟩
  obtain ⟨ra, rb, hv, hr⟩ := hfix
  rw [hv]
  refine ⟨ra, rb, rfl, ?_⟩
  refine HC.mono ref01_Fixes_c ?_
  rintro _ H2 ⟨rfl, e2⟩
  refine ⟨_, rfl, fun H' => Ext H H', ?_, ?_⟩
  · rcases hr with ⟨h1, h2, rfl, rfl⟩ | ⟨h, rfl, rfl⟩
    · rw [if_pos (decide_eq_true ⟨h1, h2⟩), if_pos rfl]
      refine HC.mono (ref01_Word_c (by unfold RefThing; rw [if_pos rfl]; omega)) ?_
      rintro _ H9 ⟨rfl, e9⟩
      refine ⟨_, rfl, ?_⟩
      rw [if_pos (by unfold refWord; rw [if_pos rfl]; rfl)]
      exact (e1.trans e2).trans e9
    · rw [if_neg (by simpa using h), if_neg (by decide)]
      exact e1.trans e2
  · intro H3 e3
    refine HC.mono (word_Char_c hc) ?_
    rintro _ H4 ⟨rfl, e4⟩
    have hch : ∃ ra rb : Int, (if 0 ≤ c ∧ letterB c = true then Value.tuple #[.int .u64 (c * 256 + 60), .int .i64 0] else Value.tuple #[.int .u64 0, .int .i64 4]) = .tuple #[.int .u64 ra, .int .i64 rb] ∧
        ((0 ≤ c ∧ letterB c = true ∧ ra = c * 256 + 60 ∧ rb = 0) ∨ (¬ (0 ≤ c ∧ letterB c = true) ∧ ra = 0 ∧ rb = 4)) := by
      by_cases h : 0 ≤ c ∧ letterB c = true
      · rw [if_pos h]; exact ⟨_, _, rfl, .inl ⟨h.1, h.2, rfl, rfl⟩⟩
      · rw [if_neg h]; exact ⟨_, _, rfl, .inr ⟨h, rfl, rfl⟩⟩
    obtain ⟨ra2, rb2, hv2, hr2⟩ := hch
    rw [hv2]
    refine ⟨ra2, rb2, rfl, ?_⟩
    refine HC.mono ref01_Letter_c ?_
    rintro _ H5 ⟨rfl, e5⟩
    refine ⟨_, rfl, ?_⟩
    have e35 := (e3.trans e4).trans e5
    rcases hr2 with ⟨h1, h2, rfl, rfl⟩ | ⟨h, rfl, rfl⟩
    · rw [if_pos (by simp [h1, h2]), if_pos rfl, w64 (by omega)]
      refine HC.mono (ref01_Word_c (by unfold RefThing; rw [if_neg (by decide), if_neg (by decide), if_neg (by decide), if_pos rfl]; omega)) ?_
      rintro _ H6 ⟨rfl, e6⟩
      refine ⟨_, rfl, ?_⟩
      rw [if_pos (by unfold refWord; rw [if_neg (by decide), if_neg (by decide), if_neg (by decide), if_pos rfl])]
      refine HC.mono awake01_c ?_
      rintro _ H7 ⟨rfl, e7⟩
      exact ⟨true, rfl, hR _ _ ⟨rfl, (e35.trans e6).trans e7⟩⟩
    · rw [if_neg (by simpa using h), if_pos rfl, if_pos rfl]
      refine HC.mono awake01_c ?_
      rintro _ H7 ⟨rfl, e7⟩
      exact ⟨true, rfl, hR _ _ ⟨rfl, e35.trans e7⟩⟩

set_option maxRecDepth 100000 in
theorem lifted (os : Os) (started : os.Started) (H : Type) (enc : TypeId × Value → H) :
    ReturnsInHanded {} Try.checked os 3 .any (Rows.wordFixesSpec.pre6 enc Try.prog Try.f3 Rows.wordFixesRow.domain false) (Rows.wordFixesSpec.post enc Try.prog Try.f3 false true false false) := by
  refine law_lifted (tb := 4) started (by kernel_rfl) Try.func3
    (ChangeSpec.witness6 (enc := enc) (C := Try.checked) false ⟨#[], #[.int .i64 0, .int .i32 0], []⟩ 8 (by kernel_rfl) (by kernel_rfl) (by kernel_rfl) (by kernel_rfl))
    rfl (by kernel_rfl) rfl Try.underlying4 (fun ds hds => ?_) ?_
  · match ds, hds with
    | [a, b], _ => rfl
  intro W base args ds p hval hA _
  rw [Try.params3] at hA hval
  obtain ⟨v0, vs0, d0, ds0, p0, q0, hargs, rfl, rfl, h0, r0⟩ := trodAll_cons hA
  obtain ⟨v1, vs1, d1, ds1, p1, q1, rfl, rfl, rfl, h1, r1⟩ := trodAll_cons r0
  obtain ⟨rfl, rfl, rfl⟩ := trodAll_nil r1
  obtain rfl : args = #[v0, v1] := by cases args; simp_all
  obtain ⟨a0, rfl, rfl, rfl, w0⟩ := open_int Try.underlying2 (hval 0 2 v0 rfl rfl) h0
  obtain ⟨a1, rfl, rfl, rfl, w1⟩ := open_int Try.underlying21 (hval 1 21 v1 rfl rfl) h1
  exact law a0 a1 (wf_i64 w0) (wf_i32 w1) W.heap

theorem over : Rows.wordFixesRow.holds Try.pinned (OpenSpec.ofChange Rows.wordFixesSpec) :=
  OpenClaim.holds_of_wide 3 Try.f3 rfl rfl rfl rfl rfl rfl rfl ⟨rfl, rfl, rfl, rfl, rfl⟩ rfl rfl rfl rfl rfl (by kernel_rfl) Try.func3 (by kernel_rfl)
    (of_decide_eq_true (by kernel_rfl)) (by unfold Func.isWrapper; first | (rw [if_pos (by decide +kernel)]; kernel_rfl) | (rw [if_neg (by decide +kernel)]; exact ⟨rfl, rfl⟩))
    (fun os started H enc _ => lifted os started H enc)

theorem proved : Rows.WordFixesSaid :=
  over
#print axioms proved
end Go.Proofs.Ytgofbcapgikboaa.wordFixes
