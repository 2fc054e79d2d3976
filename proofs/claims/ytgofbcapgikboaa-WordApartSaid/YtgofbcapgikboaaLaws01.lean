/-
  The walk of 'awake' of morainelaw01 and what the laws of that package do.
-/
import Derived.Test.YtgofbcapgikboaaRef01
import Derived.Test.YtgofbcapgikboaaL01awake
namespace Go.Proofs.Ytgofbcapgikboaa
open Go
set_option linter.unusedVariables false

theorem awake01_c {H : Array Obj} : morainelaw01_awake.C H (fun v H' => v = .bool true ∧ Ext H H') := by
  refine HC.via fun R hR => morainelaw01_awake.link ?_
  unfold morainelaw01_awake.pt
  refine HC.mono (word_Fix_c (by decide)) ?_
  rintro _ H1 ⟨rfl, e1⟩
  refine ⟨18446744073709551608, 0, rfl, ?_⟩
  refine HC.mono (word_Char_c (by decide)) ?_
  rintro _ H2 ⟨rfl, e2⟩
  refine ⟨24892, 0, rfl, ?_⟩
  refine HC.mono (word_At_c (by decide) (by decide)) ?_
  rintro _ H3 ⟨rfl, e3⟩
  refine ⟨41, 0, rfl, ?_⟩
  refine HC.mono (word_Header_c (by decide) (by decide) (by decide)) ?_
  rintro _ H4 ⟨rfl, e4⟩
  refine ⟨781, 0, rfl, ?_⟩
  refine HC.mono (word_Fix_c (by decide)) ?_
  rintro _ H5 ⟨rfl, e5⟩
  refine ⟨0, 4, rfl, ?_⟩
  rw [if_pos rfl, if_pos rfl, if_pos rfl, if_pos rfl, if_pos rfl, if_pos rfl, if_pos rfl, if_pos rfl, if_pos rfl]
  refine HC.mono word_Truth_c ?_
  rintro _ H6 ⟨rfl, e6⟩
  refine ⟨true, rfl, ?_⟩
  rw [if_pos rfl]
  refine HC.mono word_Truth_c ?_
  rintro _ H7 ⟨rfl, e7⟩
  exact ⟨false, rfl, hR _ _ ⟨rfl, (((((e1.trans e2).trans e3).trans e4).trans e5).trans e6).trans e7⟩⟩
end Go.Proofs.Ytgofbcapgikboaa
