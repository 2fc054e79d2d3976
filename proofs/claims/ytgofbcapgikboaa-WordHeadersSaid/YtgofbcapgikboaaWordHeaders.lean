/- The law WordHeaders of morainelaw01 holds: called with any arguments it answers true and leaves what it was handed as it was. No condition. -/
import Derived.Test.YtgofbcapgikboaaLaws01
import Derived.Test.YtgofbcapgikboaaL01WordHeaders
import Derived.Test.YtgofbcapgikboaaLaw
namespace Go.Proofs.Ytgofbcapgikboaa.wordHeaders
open Go Go.Proofs.Ytgofbcapgikboaa
open Go.ChangeShapes Go.WideShapes Go.ChangeAt Go.RowKit
set_option linter.unusedVariables false

theorem law (kind n more : Int) (hk : -9223372036854775808 ≤ kind ∧ kind ≤ 9223372036854775807) (hn : -9223372036854775808 ≤ n ∧ n ≤ 9223372036854775807) (hm : IsWord more) (H : Array Obj) :
    morainelaw01_WordHeaders.C kind n more H (fun v H' => v = .bool true ∧ Ext H H') := by
  refine HC.via fun R hR => morainelaw01_WordHeaders.link ?_
  unfold morainelaw01_WordHeaders.pt
  refine HC.mono (word_Header_c hk hn hm) ?_
  rintro _ H1 ⟨rfl, e1⟩
  have awake : ∀ H2, Ext H H2 → morainelaw01_awake.C H2 (fun v H3 => ∃ x : Bool, v = .bool x ∧ R (.bool x) H3) := fun H2 e2 => by
    refine HC.mono awake01_c ?_
    rintro _ H3 ⟨rfl, e3⟩
    exact ⟨true, rfl, hR _ _ ⟨rfl, e2.trans e3⟩⟩
  by_cases h : (1 ≤ kind ∧ kind ≤ 13) ∧ (0 ≤ n ∧ n ≤ 62) ∧ more < 281474976710656
  · rw [if_pos h]
    refine ⟨_, _, rfl, ?_⟩
    rw [if_neg (by simp; omega), if_pos rfl]
    refine HC.mono (ref01_Word_c (by unfold RefThing; rw [if_neg (by decide), if_neg (by decide), if_neg (by decide), if_neg (by decide)]; omega)) ?_
    rintro _ H4 ⟨rfl, e4⟩
    refine ⟨_, rfl, ?_⟩
    rw [if_pos (by unfold refWord; rw [if_neg (by decide), if_neg (by decide), if_neg (by decide), if_neg (by decide)])]
    exact awake _ (e1.trans e4)
  · rw [if_neg h]
    refine ⟨_, _, rfl, ?_⟩
    rw [if_pos (by simp; omega), if_pos rfl, if_pos rfl]
    exact awake _ e1

set_option maxRecDepth 100000 in
theorem lifted (os : Os) (started : os.Started) (H : Type) (enc : TypeId × Value → H) :
    ReturnsInHanded {} Try.checked os 5 .any (Rows.wordHeadersSpec.pre6 enc Try.prog Try.f5 Rows.wordHeadersRow.domain false) (Rows.wordHeadersSpec.post enc Try.prog Try.f5 false true false false) := by
  refine law_lifted (tb := 4) started (by kernel_rfl) Try.func5
    (ChangeSpec.witness6 (enc := enc) (C := Try.checked) false ⟨#[], #[.int .i64 0, .int .i64 0, .int .u64 0], []⟩ 8 (by kernel_rfl) (by kernel_rfl) (by kernel_rfl) (by kernel_rfl))
    rfl (by kernel_rfl) rfl Try.underlying4 (fun ds hds => ?_) ?_
  · match ds, hds with
    | [d0, d1, d2], _ => rfl
  intro W base args ds p hval hA _
  rw [Try.params5] at hA hval
  obtain ⟨v0, vs0, d0, ds0, p0, q0, hargs, rfl, rfl, h0, r0⟩ := trodAll_cons hA
  obtain ⟨v1, vs1, d1, ds1, p1, q1, rfl, rfl, rfl, h1, r1⟩ := trodAll_cons r0
  obtain ⟨v2, vs2, d2, ds2, p2, q2, rfl, rfl, rfl, h2, r2⟩ := trodAll_cons r1
  obtain ⟨rfl, rfl, rfl⟩ := trodAll_nil r2
  obtain rfl : args = #[v0, v1, v2] := by cases args; simp_all
  obtain ⟨a0, rfl, rfl, rfl, w0⟩ := open_int Try.underlying3 (hval 0 3 v0 rfl rfl) h0
  obtain ⟨a1, rfl, rfl, rfl, w1⟩ := open_int Try.underlying3 (hval 1 3 v1 rfl rfl) h1
  obtain ⟨a2, rfl, rfl, rfl, w2⟩ := open_int Try.underlying22 (hval 2 22 v2 rfl rfl) h2
  exact law a0 a1 a2 (wf_i64 w0) (wf_i64 w1) (wf_u64 w2) W.heap

theorem over : Rows.wordHeadersRow.holds Try.pinned (OpenSpec.ofChange Rows.wordHeadersSpec) :=
  OpenClaim.holds_of_wide 5 Try.f5 rfl rfl rfl rfl rfl rfl rfl ⟨rfl, rfl, rfl, rfl, rfl⟩ rfl rfl rfl rfl rfl (by kernel_rfl) Try.func5 (by kernel_rfl)
    (of_decide_eq_true (by kernel_rfl)) (by unfold Func.isWrapper; first | (rw [if_pos (by decide +kernel)]; kernel_rfl) | (rw [if_neg (by decide +kernel)]; exact ⟨rfl, rfl⟩))
    (fun os started H enc _ => lifted os started H enc)

theorem proved : Rows.WordHeadersSaid :=
  over
#print axioms proved
end Go.Proofs.Ytgofbcapgikboaa.wordHeaders
