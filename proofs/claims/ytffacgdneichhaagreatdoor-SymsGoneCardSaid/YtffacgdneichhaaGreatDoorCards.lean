/-
  DERIVED. GIVEN WITH THE SEED: THE CARDS: each row of YtffacgdneichhaaGreatDoorRows.lean that lists a variable, with what it lists TIED to the program's text (the seventh form; the later family's looks); each row that meets fmt, with fmt's text TOLD by the authors' own Lean function (tested against real Go, not proved from fmt's source: count such statements apart). THE CARD IS WHAT COUNTS. Prove the row's statement (the work); the ties are given (YtffacgdneichhaaGreatDoorTie.lean); close each card by the builder's one call (the guide's Derived/Test/ToyasCard.lean, 'card_holds'). Laid BY PROGRAM, IN A SANDBOX (cutbox-door.mjs). By AI agents, Wed Nov 11 2026. No macro, syntax, notation, axiom, sorry.
-/
import Derived.Test.YtffacgdneichhaaGreatDoorRows
import GoSem.ClaimSeven
namespace Go.Proofs.YtffacgdneichhaaGreatDoor
namespace Rows

/-- THE TIED CARD OF 'morainelaw16.SymsOne'. -/
def symsOneCard : Claim7 := { stood := { row := symsOneRow, standIns := [], harness := (true, "b6bc01cf4bb9f4cbd1fef1c07a6ed00ad375863604883af91f598663071c1e71"), looks := false }, kinds := [], alts := [], laidByText := true, laidKinds := [.data, .pinned], laidTests := true, laidLooks := .later }
def SymsOneCardSaid : Prop := Claim7.holds Tryz.pinned (.plain (OpenSpec.ofChange symsOneSpec)) symsOneCard

/-- THE TIED CARD OF 'morainelaw16.SymsGone'. -/
def symsGoneCard : Claim7 := { stood := { row := symsGoneRow, standIns := [], harness := (true, "b6bc01cf4bb9f4cbd1fef1c07a6ed00ad375863604883af91f598663071c1e71"), looks := false }, kinds := [], alts := [], laidByText := true, laidKinds := [.data, .pinned], laidTests := true, laidLooks := .later }
def SymsGoneCardSaid : Prop := Claim7.holds Tryz.pinned (.plain (OpenSpec.ofChange symsGoneSpec)) symsGoneCard

/-- THE SECOND FORM's CARD OF 'morainelaw16.SymsOne'. -/
def symsOneUptoCard : Claim7 := { stood := { row := symsOneUptoRow, standIns := [], harness := (true, "b6bc01cf4bb9f4cbd1fef1c07a6ed00ad375863604883af91f598663071c1e71"), looks := false }, kinds := [], alts := [], laidByText := true, laidKinds := [.data, .pinned], laidTests := true, laidLooks := .later }
def SymsOneUptoCardSaid : Prop := Claim7.holds Tryz.pinned (.plain (OpenSpec.upto symsOneSpec)) symsOneUptoCard

/-- THE SECOND FORM's CARD OF 'morainelaw16.SymsGone'. -/
def symsGoneUptoCard : Claim7 := { stood := { row := symsGoneUptoRow, standIns := [], harness := (true, "b6bc01cf4bb9f4cbd1fef1c07a6ed00ad375863604883af91f598663071c1e71"), looks := false }, kinds := [], alts := [], laidByText := true, laidKinds := [.data, .pinned], laidTests := true, laidLooks := .later }
def SymsGoneUptoCardSaid : Prop := Claim7.holds Tryz.pinned (.plain (OpenSpec.upto symsGoneSpec)) symsGoneUptoCard
end Rows
end Go.Proofs.YtffacgdneichhaaGreatDoor
