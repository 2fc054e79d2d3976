/-
  No cell of these rows narrows 'for every input' (looked for: loops, veiled, ifaces, maps, wideKeys, modest, calm, conditions, laid).
  DERIVED. THE GIVEN ROWS OF THIS SEAT. 6 by the template 'for every input the law returns true; each argument reads behind the call as it read before'; 0 by the template 'total and deterministic' (their statements: YtgofbcapgikboaaTotals.lean).
  GIVEN WITH THE SEED: the statements are not yours to turn. If you find one false, say at which input.
  Laid BY PROGRAM, IN A SANDBOX (cutbox-rows.mjs): the forced cells as the released guide's own fill.sh prints them over the translation 0c0f0f740d8f3543… (all of the seat's roots in one cut). By AI agents, Wed Nov 11 2026. No macro, syntax, notation, axiom, sorry.
-/
import Derived.Test.YtgofbcapgikboaaChecked
import GoSem.Claim
import GoSem.ClaimJoined
import GoSem.ClaimMapViews
import Derived.JoinedTies
import Derived.KernelRfl
namespace Go.Proofs.Ytgofbcapgikboaa
/- THE CELL 'sum', in the pinned program and in every row, IS THE sha256 OF THE DUMP (.gsa) THAT YtgofbcapgikboaaProg.lean LOADS. Nothing in Lean hashes anything: it is a label: what it is worth is what the hold of that sum in a sandbox is worth. -/
noncomputable def Try.pinned : Pinned := { name := "ytgofbcapgikboaa", sum := "0c0f0f740d8f35434c6dc16becd9c192a2a7e7e54c833ef95a4b873665f719d6", checked := Try.checked }
namespace Rows
def none {H : Type} : Left H := { results := [], args := [] }

/-- 'morainelaw01.WordFixes': WHATEVER THE INPUT: true; the input reads as it did. -/
def wordFixesSpec : ChangeSpec := { name := "wordFixes", fn := fun _ => fun
  | [d1, d2] => { results := [.lit (.bool true)], args := [d1, d2] }
  | _ => none }
def wordFixesRow : OpenClaim := { program := "ytgofbcapgikboaa", sum := "0c0f0f740d8f35434c6dc16becd9c192a2a7e7e54c833ef95a4b873665f719d6", func := "moraine/morainelaw01.WordFixes", spec := "wordFixes", apart := false }
def WordFixesSaid : Prop := wordFixesRow.holds Try.pinned (OpenSpec.ofChange wordFixesSpec)

/-- ITS FALSE NEIGHBOUR: 'it returns false'. Refute it at one input. -/
def wordFixesWrong : ChangeSpec := { name := "wordFixes", fn := fun _ => fun
  | [d1, d2] => { results := [.lit (.bool false)], args := [d1, d2] }
  | _ => none }
def WordFixesWrongFalsely : Prop := wordFixesRow.holds Try.pinned (OpenSpec.ofChange wordFixesWrong)

/-- 'morainelaw01.WordPlaces': WHATEVER THE INPUT: true; the input reads as it did. -/
def wordPlacesSpec : ChangeSpec := { name := "wordPlaces", fn := fun _ => fun
  | [d1, d2] => { results := [.lit (.bool true)], args := [d1, d2] }
  | _ => none }
def wordPlacesRow : OpenClaim := { program := "ytgofbcapgikboaa", sum := "0c0f0f740d8f35434c6dc16becd9c192a2a7e7e54c833ef95a4b873665f719d6", func := "moraine/morainelaw01.WordPlaces", spec := "wordPlaces", apart := false }
def WordPlacesSaid : Prop := wordPlacesRow.holds Try.pinned (OpenSpec.ofChange wordPlacesSpec)

/-- ITS FALSE NEIGHBOUR: 'it returns false'. Refute it at one input. -/
def wordPlacesWrong : ChangeSpec := { name := "wordPlaces", fn := fun _ => fun
  | [d1, d2] => { results := [.lit (.bool false)], args := [d1, d2] }
  | _ => none }
def WordPlacesWrongFalsely : Prop := wordPlacesRow.holds Try.pinned (OpenSpec.ofChange wordPlacesWrong)

/-- 'morainelaw01.WordHeaders': WHATEVER THE INPUT: true; the input reads as it did. -/
def wordHeadersSpec : ChangeSpec := { name := "wordHeaders", fn := fun _ => fun
  | [d1, d2, d3] => { results := [.lit (.bool true)], args := [d1, d2, d3] }
  | _ => none }
def wordHeadersRow : OpenClaim := { program := "ytgofbcapgikboaa", sum := "0c0f0f740d8f35434c6dc16becd9c192a2a7e7e54c833ef95a4b873665f719d6", func := "moraine/morainelaw01.WordHeaders", spec := "wordHeaders", apart := false }
def WordHeadersSaid : Prop := wordHeadersRow.holds Try.pinned (OpenSpec.ofChange wordHeadersSpec)

/-- ITS FALSE NEIGHBOUR: 'it returns false'. Refute it at one input. -/
def wordHeadersWrong : ChangeSpec := { name := "wordHeaders", fn := fun _ => fun
  | [d1, d2, d3] => { results := [.lit (.bool false)], args := [d1, d2, d3] }
  | _ => none }
def WordHeadersWrongFalsely : Prop := wordHeadersRow.holds Try.pinned (OpenSpec.ofChange wordHeadersWrong)

/-- 'morainelaw01.WordApart': WHATEVER THE INPUT: true; the input reads as it did. -/
def wordApartSpec : ChangeSpec := { name := "wordApart", fn := fun _ => fun
  | [d1, d2, d3, d4, d5, d6, d7, d8, d9, d10] => { results := [.lit (.bool true)], args := [d1, d2, d3, d4, d5, d6, d7, d8, d9, d10] }
  | _ => none }
def wordApartRow : OpenClaim := { program := "ytgofbcapgikboaa", sum := "0c0f0f740d8f35434c6dc16becd9c192a2a7e7e54c833ef95a4b873665f719d6", func := "moraine/morainelaw01.WordApart", spec := "wordApart", unfollowed := true, recurses := true, apart := false }
def WordApartSaid : Prop := wordApartRow.holds Try.pinned (OpenSpec.ofChange wordApartSpec)

/-- ITS FALSE NEIGHBOUR: 'it returns false'. Refute it at one input. -/
def wordApartWrong : ChangeSpec := { name := "wordApart", fn := fun _ => fun
  | [d1, d2, d3, d4, d5, d6, d7, d8, d9, d10] => { results := [.lit (.bool false)], args := [d1, d2, d3, d4, d5, d6, d7, d8, d9, d10] }
  | _ => none }
def WordApartWrongFalsely : Prop := wordApartRow.holds Try.pinned (OpenSpec.ofChange wordApartWrong)

/-- 'morainelaw01.WordTells': WHATEVER THE INPUT: true; the input reads as it did. -/
def wordTellsSpec : ChangeSpec := { name := "wordTells", fn := fun _ => fun
  | [d] => { results := [.lit (.bool true)], args := [d] }
  | _ => none }
def wordTellsRow : OpenClaim := { program := "ytgofbcapgikboaa", sum := "0c0f0f740d8f35434c6dc16becd9c192a2a7e7e54c833ef95a4b873665f719d6", func := "moraine/morainelaw01.WordTells", spec := "wordTells", unfollowed := true, recurses := true, apart := false }
def WordTellsSaid : Prop := wordTellsRow.holds Try.pinned (OpenSpec.ofChange wordTellsSpec)

/-- ITS FALSE NEIGHBOUR: 'it returns false'. Refute it at one input. -/
def wordTellsWrong : ChangeSpec := { name := "wordTells", fn := fun _ => fun
  | [d] => { results := [.lit (.bool false)], args := [d] }
  | _ => none }
def WordTellsWrongFalsely : Prop := wordTellsRow.holds Try.pinned (OpenSpec.ofChange wordTellsWrong)

/-- 'morainelaw01.WordBack': WHATEVER THE INPUT: true; the input reads as it did. -/
def wordBackSpec : ChangeSpec := { name := "wordBack", fn := fun _ => fun
  | [d] => { results := [.lit (.bool true)], args := [d] }
  | _ => none }
def wordBackRow : OpenClaim := { program := "ytgofbcapgikboaa", sum := "0c0f0f740d8f35434c6dc16becd9c192a2a7e7e54c833ef95a4b873665f719d6", func := "moraine/morainelaw01.WordBack", spec := "wordBack", unfollowed := true, recurses := true, apart := false }
def WordBackSaid : Prop := wordBackRow.holds Try.pinned (OpenSpec.ofChange wordBackSpec)

/-- ITS FALSE NEIGHBOUR: 'it returns false'. Refute it at one input. -/
def wordBackWrong : ChangeSpec := { name := "wordBack", fn := fun _ => fun
  | [d] => { results := [.lit (.bool false)], args := [d] }
  | _ => none }
def WordBackWrongFalsely : Prop := wordBackRow.holds Try.pinned (OpenSpec.ofChange wordBackWrong)

/- THE SECOND FORM. 'bulk': how many values and letters a reading holds, each counted each time it is reached (what is shared counts as often as it is met; a slice's spare places count too). A statement '..UptoSaid' is the law's where the arguments, and the package variables that the reading takes, are together of bulk at most 1048576: NARROWER than '..Said'. Prove '..Said' where nothing that the law and all that it calls make is longer than what came in: it says more and counts as full. Else prove '..UptoSaid'. A law counts once. -/
mutual
def uptoBulk {H : Type} : DataW H → Nat
  | .lit (.string bytes) => bytes.length + 1
  | .lit _ => 1
  | .nil => 1
  | .ptr d => uptoBulk d + 1
  | .slice elems spare => uptoBulkAll elems + uptoBulkAll spare + 1
  | .agg parts => uptoBulkAll parts + 1
  | .iface _ d => uptoBulk d + 1
  | .map entries => uptoBulkEntries entries + 1
  | .held _ => 1
def uptoBulkAll {H : Type} : List (DataW H) → Nat
  | [] => 0
  | d :: r => uptoBulk d + uptoBulkAll r
def uptoBulkEntries {H : Type} : List (Lit × DataW H) → Nat
  | [] => 0
  | x :: r => uptoBulkEntry x + uptoBulkEntries r
def uptoBulkEntry {H : Type} : Lit × DataW H → Nat
  | (.string bytes, d) => bytes.length + uptoBulk d + 1
  | (_, d) => uptoBulk d + 1
 end
def uptoSmall : (H : Type) → List (DataW H) → Bool := fun _ ds => decide (uptoBulkAll ds ≤ 1048576)
def OpenSpec.upto (s : _root_.Go.ChangeSpec) : _root_.Go.OpenSpec := { _root_.Go.OpenSpec.ofChange s with cond := some uptoSmall }

/-- 'morainelaw01.WordFixes', WHERE WHAT IT READS IS OF BULK AT MOST 1048576: true; the input reads as it did. -/
def wordFixesUptoRow : OpenClaim := { program := "ytgofbcapgikboaa", sum := "0c0f0f740d8f35434c6dc16becd9c192a2a7e7e54c833ef95a4b873665f719d6", func := "moraine/morainelaw01.WordFixes", spec := "wordFixes", apart := false, narrowed := true }
def WordFixesUptoSaid : Prop := wordFixesUptoRow.holds Try.pinned (OpenSpec.upto wordFixesSpec)

/-- 'morainelaw01.WordPlaces', WHERE WHAT IT READS IS OF BULK AT MOST 1048576: true; the input reads as it did. -/
def wordPlacesUptoRow : OpenClaim := { program := "ytgofbcapgikboaa", sum := "0c0f0f740d8f35434c6dc16becd9c192a2a7e7e54c833ef95a4b873665f719d6", func := "moraine/morainelaw01.WordPlaces", spec := "wordPlaces", apart := false, narrowed := true }
def WordPlacesUptoSaid : Prop := wordPlacesUptoRow.holds Try.pinned (OpenSpec.upto wordPlacesSpec)

/-- 'morainelaw01.WordHeaders', WHERE WHAT IT READS IS OF BULK AT MOST 1048576: true; the input reads as it did. -/
def wordHeadersUptoRow : OpenClaim := { program := "ytgofbcapgikboaa", sum := "0c0f0f740d8f35434c6dc16becd9c192a2a7e7e54c833ef95a4b873665f719d6", func := "moraine/morainelaw01.WordHeaders", spec := "wordHeaders", apart := false, narrowed := true }
def WordHeadersUptoSaid : Prop := wordHeadersUptoRow.holds Try.pinned (OpenSpec.upto wordHeadersSpec)

/-- 'morainelaw01.WordApart', WHERE WHAT IT READS IS OF BULK AT MOST 1048576: true; the input reads as it did. -/
def wordApartUptoRow : OpenClaim := { program := "ytgofbcapgikboaa", sum := "0c0f0f740d8f35434c6dc16becd9c192a2a7e7e54c833ef95a4b873665f719d6", func := "moraine/morainelaw01.WordApart", spec := "wordApart", unfollowed := true, recurses := true, apart := false, narrowed := true }
def WordApartUptoSaid : Prop := wordApartUptoRow.holds Try.pinned (OpenSpec.upto wordApartSpec)

/-- 'morainelaw01.WordTells', WHERE WHAT IT READS IS OF BULK AT MOST 1048576: true; the input reads as it did. -/
def wordTellsUptoRow : OpenClaim := { program := "ytgofbcapgikboaa", sum := "0c0f0f740d8f35434c6dc16becd9c192a2a7e7e54c833ef95a4b873665f719d6", func := "moraine/morainelaw01.WordTells", spec := "wordTells", unfollowed := true, recurses := true, apart := false, narrowed := true }
def WordTellsUptoSaid : Prop := wordTellsUptoRow.holds Try.pinned (OpenSpec.upto wordTellsSpec)

/-- 'morainelaw01.WordBack', WHERE WHAT IT READS IS OF BULK AT MOST 1048576: true; the input reads as it did. -/
def wordBackUptoRow : OpenClaim := { program := "ytgofbcapgikboaa", sum := "0c0f0f740d8f35434c6dc16becd9c192a2a7e7e54c833ef95a4b873665f719d6", func := "moraine/morainelaw01.WordBack", spec := "wordBack", unfollowed := true, recurses := true, apart := false, narrowed := true }
def WordBackUptoSaid : Prop := wordBackUptoRow.holds Try.pinned (OpenSpec.upto wordBackSpec)

end Rows
end Go.Proofs.Ytgofbcapgikboaa
