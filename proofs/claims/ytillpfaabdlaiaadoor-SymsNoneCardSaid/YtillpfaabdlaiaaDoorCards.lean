/-
  DERIVED. GIVEN WITH THE SEED: THE CARDS: each row of YtillpfaabdlaiaaDoorRows.lean that lists a variable, with what it lists TIED to the program's text (the seventh form; the later family's looks); each row that meets fmt, with fmt's text TOLD by the authors' own Lean function (tested against real Go, not proved from fmt's source: count such statements apart). THE CARD IS WHAT COUNTS. Prove the row's statement (the work); the ties are given (YtillpfaabdlaiaaDoorTie.lean); close each card by the builder's one call (the guide's Derived/Test/ToyasCard.lean, 'card_holds'). Laid BY PROGRAM, IN A SANDBOX (cutbox-door.mjs). By AI agents, Wed Nov 11 2026. No macro, syntax, notation, axiom, sorry.
-/
import Derived.Test.YtillpfaabdlaiaaDoorRows
import GoSem.ClaimSeven
namespace Go.Proofs.YtillpfaabdlaiaaDoor
namespace Rows

/-- THE TIED CARD OF 'morainelaw16.SymsNone'. -/
def symsNoneCard : Claim7 := { stood := { row := symsNoneRow, standIns := [], harness := (true, "cd76246bb5f30f943e2e78a0fea9a681564fa2762e562bab215b8299a65a4bb1"), looks := false }, kinds := [], alts := [], laidByText := true, laidKinds := [.data, .pinned], laidTests := true, laidLooks := .later }
def SymsNoneCardSaid : Prop := Claim7.holds Tryd.pinned (.plain (OpenSpec.ofChange symsNoneSpec)) symsNoneCard

/-- THE SECOND FORM's CARD OF 'morainelaw16.SymsNone'. -/
def symsNoneUptoCard : Claim7 := { stood := { row := symsNoneUptoRow, standIns := [], harness := (true, "cd76246bb5f30f943e2e78a0fea9a681564fa2762e562bab215b8299a65a4bb1"), looks := false }, kinds := [], alts := [], laidByText := true, laidKinds := [.data, .pinned], laidTests := true, laidLooks := .later }
def SymsNoneUptoCardSaid : Prop := Claim7.holds Tryd.pinned (.plain (OpenSpec.upto symsNoneSpec)) symsNoneUptoCard
end Rows
end Go.Proofs.YtillpfaabdlaiaaDoor
