/- The law WordPlaces of morainelaw01 holds: called with any arguments it answers true and leaves what it was handed as it was. No condition. -/
import Derived.Test.YtgofbcapgikboaaLaws01
import Derived.Test.YtgofbcapgikboaaL01WordPlaces
import Derived.Test.YtgofbcapgikboaaLaw
namespace Go.Proofs.Ytgofbcapgikboaa.wordPlaces
open Go Go.Proofs.Ytgofbcapgikboaa
open Go.ChangeShapes Go.WideShapes Go.ChangeAt Go.RowKit
set_option linter.unusedVariables false

theorem law (tag addr : Int) (ht : -9223372036854775808 ≤ tag ∧ tag ≤ 9223372036854775807) (ha : -9223372036854775808 ≤ addr ∧ addr ≤ 9223372036854775807) (H : Array Obj) :
    morainelaw01_WordPlaces.C tag addr H (fun v H' => v = .bool true ∧ Ext H H') := by
  refine HC.via fun R hR => morainelaw01_WordPlaces.link ?_
  unfold morainelaw01_WordPlaces.pt
  refine HC.mono (word_At_c ht ha) ?_
  rintro _ H1 ⟨rfl, e1⟩
  have awake : ∀ H2, Ext H H2 → morainelaw01_awake.C H2 (fun v H3 => ∃ x : Bool, v = .bool x ∧ R (.bool x) H3) := fun H2 e2 => by
    refine HC.mono awake01_c ?_
    rintro _ H3 ⟨rfl, e3⟩
    exact ⟨true, rfl, hR _ _ ⟨rfl, e2.trans e3⟩⟩
  by_cases hp : tag = 1 ∨ tag = 2 ∨ tag = 3 ∨ tag = 6
  · rw [if_neg (fun h => h hp)]
    by_cases hl : 0 ≤ addr ∧ addr < 65536
    · rw [if_pos hl]
      refine ⟨_, _, rfl, ?_⟩
      rw [if_neg (by simp; omega), if_neg (by simp; omega), if_pos rfl]
      refine HC.mono (ref01_Word_c (by unfold RefThing; rw [if_neg (by decide), if_pos rfl]; omega)) ?_
      rintro _ H4 ⟨rfl, e4⟩
      refine ⟨_, rfl, ?_⟩
      rw [if_pos (by unfold refWord; rw [if_neg (by decide), if_pos rfl])]
      exact awake _ (e1.trans e4)
    · rw [if_neg hl]
      refine ⟨_, _, rfl, ?_⟩
      rw [if_neg (by simp; omega), if_pos (by simp; omega), if_pos rfl, if_pos rfl]
      exact awake _ e1
  · rw [if_pos hp]
    refine ⟨_, _, rfl, ?_⟩
    rw [if_pos (by simp; omega), if_pos rfl, if_pos rfl]
    exact awake _ e1

set_option maxRecDepth 100000 in
theorem lifted (os : Os) (started : os.Started) (H : Type) (enc : TypeId × Value → H) :
    ReturnsInHanded {} Try.checked os 4 .any (Rows.wordPlacesSpec.pre6 enc Try.prog Try.f4 Rows.wordPlacesRow.domain false) (Rows.wordPlacesSpec.post enc Try.prog Try.f4 false true false false) := by
  refine law_lifted (tb := 4) started (by kernel_rfl) Try.func4
    (ChangeSpec.witness6 (enc := enc) (C := Try.checked) false ⟨#[], #[.int .i64 0, .int .i64 0], []⟩ 8 (by kernel_rfl) (by kernel_rfl) (by kernel_rfl) (by kernel_rfl))
    rfl (by kernel_rfl) rfl Try.underlying4 (fun ds hds => ?_) ?_
  · match ds, hds with
    | [d0, d1], _ => rfl
  intro W base args ds p hval hA _
  rw [Try.params4] at hA hval
  obtain ⟨v0, vs0, d0, ds0, p0, q0, hargs, rfl, rfl, h0, r0⟩ := trodAll_cons hA
  obtain ⟨v1, vs1, d1, ds1, p1, q1, rfl, rfl, rfl, h1, r1⟩ := trodAll_cons r0
  obtain ⟨rfl, rfl, rfl⟩ := trodAll_nil r1
  obtain rfl : args = #[v0, v1] := by cases args; simp_all
  obtain ⟨a0, rfl, rfl, rfl, w0⟩ := open_int Try.underlying3 (hval 0 3 v0 rfl rfl) h0
  obtain ⟨a1, rfl, rfl, rfl, w1⟩ := open_int Try.underlying3 (hval 1 3 v1 rfl rfl) h1
  exact law a0 a1 (wf_i64 w0) (wf_i64 w1) W.heap

theorem over : Rows.wordPlacesRow.holds Try.pinned (OpenSpec.ofChange Rows.wordPlacesSpec) :=
  OpenClaim.holds_of_wide 4 Try.f4 rfl rfl rfl rfl rfl rfl rfl ⟨rfl, rfl, rfl, rfl, rfl⟩ rfl rfl rfl rfl rfl (by kernel_rfl) Try.func4 (by kernel_rfl)
    (of_decide_eq_true (by kernel_rfl)) (by unfold Func.isWrapper; first | (rw [if_pos (by decide +kernel)]; kernel_rfl) | (rw [if_neg (by decide +kernel)]; exact ⟨rfl, rfl⟩))
    (fun os started H enc _ => lifted os started H enc)

theorem proved : Rows.WordPlacesSaid :=
  over
#print axioms proved
end Go.Proofs.Ytgofbcapgikboaa.wordPlaces
