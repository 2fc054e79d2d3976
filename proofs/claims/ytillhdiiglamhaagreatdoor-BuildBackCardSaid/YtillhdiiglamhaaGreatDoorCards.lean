/-
  DERIVED. GIVEN WITH THE SEED: THE CARDS: each row of YtillhdiiglamhaaGreatDoorRows.lean that lists a variable, with what it lists TIED to the program's text (the seventh form; the later family's looks); each row that meets fmt, with fmt's text TOLD by the authors' own Lean function (tested against real Go, not proved from fmt's source: count such statements apart). THE CARD IS WHAT COUNTS. Prove the row's statement (the work); the ties are given (YtillhdiiglamhaaGreatDoorTie.lean); close each card by the builder's one call (the guide's Derived/Test/ToyasCard.lean, 'card_holds'). Laid BY PROGRAM, IN A SANDBOX (cutbox-door.mjs). By AI agents, Wed Nov 11 2026. No macro, syntax, notation, axiom, sorry.
-/
import Derived.Test.YtillhdiiglamhaaGreatDoorRows
import GoSem.ClaimSeven
namespace Go.Proofs.YtillhdiiglamhaaGreatDoor
namespace Rows

/-- THE TIED CARD OF 'morainelaw17.BuildBack'. -/
def buildBackCard : Claim7 := { stood := { row := buildBackRow, standIns := [], harness := (true, "baa8dea45f2fb877ce498a9319362f89e43c7e534be910a1ace9b7b7bdcdf1d7"), looks := false }, kinds := [], alts := [], laidByText := true, laidKinds := [.data, .pinned], laidTests := true, laidLooks := .later }
def BuildBackCardSaid : Prop := Claim7.holds Tryz.pinned (.plain (OpenSpec.ofChange buildBackSpec)) buildBackCard

/-- THE SECOND FORM's CARD OF 'morainelaw17.BuildBack'. -/
def buildBackUptoCard : Claim7 := { stood := { row := buildBackUptoRow, standIns := [], harness := (true, "baa8dea45f2fb877ce498a9319362f89e43c7e534be910a1ace9b7b7bdcdf1d7"), looks := false }, kinds := [], alts := [], laidByText := true, laidKinds := [.data, .pinned], laidTests := true, laidLooks := .later }
def BuildBackUptoCardSaid : Prop := Claim7.holds Tryz.pinned (.plain (OpenSpec.upto buildBackSpec)) buildBackUptoCard
end Rows
end Go.Proofs.YtillhdiiglamhaaGreatDoor
