/-
  DERIVED. GIVEN WITH THE SEED: THE CARDS: each row of YtdgejifkcfgliaaGreatDoorRows.lean that lists a variable, with what it lists TIED to the program's text (the seventh form; the later family's looks); each row that meets fmt, with fmt's text TOLD by the authors' own Lean function (tested against real Go, not proved from fmt's source: count such statements apart). THE CARD IS WHAT COUNTS. Prove the row's statement (the work); the ties are given (YtdgejifkcfgliaaGreatDoorTie.lean); close each card by the builder's one call (the guide's Derived/Test/ToyasCard.lean, 'card_holds'). Laid BY PROGRAM, IN A SANDBOX (cutbox-door.mjs). By AI agents, Wed Nov 11 2026. No macro, syntax, notation, axiom, sorry.
-/
import Derived.Test.YtdgejifkcfgliaaGreatDoorRows
import GoSem.ClaimSeven
namespace Go.Proofs.YtdgejifkcfgliaaGreatDoor
namespace Rows

/-- THE TIED CARD OF 'morainelaw17.BuildTwice'. -/
def buildTwiceCard : Claim7 := { stood := { row := buildTwiceRow, standIns := [], harness := (true, "260eacdc949dbcf8dd2b376585e551b10b5e35c3c6f259e7d29fe38b7d106f6f"), looks := false }, kinds := [], alts := [], laidByText := true, laidKinds := [.data, .pinned], laidTests := true, laidLooks := .later }
def BuildTwiceCardSaid : Prop := Claim7.holds Tryz.pinned (.plain (OpenSpec.ofChange buildTwiceSpec)) buildTwiceCard

/-- THE TIED CARD OF 'morainelaw17.BuildTells'. -/
def buildTellsCard : Claim7 := { stood := { row := buildTellsRow, standIns := [], harness := (true, "260eacdc949dbcf8dd2b376585e551b10b5e35c3c6f259e7d29fe38b7d106f6f"), looks := false }, kinds := [], alts := [], laidByText := true, laidKinds := [.data, .pinned], laidTests := true, laidLooks := .later }
def BuildTellsCardSaid : Prop := Claim7.holds Tryz.pinned (.plain (OpenSpec.ofChange buildTellsSpec)) buildTellsCard

/-- THE TIED CARD OF 'morainelaw17.BuildSize'. -/
def buildSizeCard : Claim7 := { stood := { row := buildSizeRow, standIns := [], harness := (true, "260eacdc949dbcf8dd2b376585e551b10b5e35c3c6f259e7d29fe38b7d106f6f"), looks := false }, kinds := [], alts := [], laidByText := true, laidKinds := [.data, .pinned], laidTests := true, laidLooks := .later }
def BuildSizeCardSaid : Prop := Claim7.holds Tryz.pinned (.plain (OpenSpec.ofChange buildSizeSpec)) buildSizeCard

/-- THE SECOND FORM's CARD OF 'morainelaw17.BuildTwice'. -/
def buildTwiceUptoCard : Claim7 := { stood := { row := buildTwiceUptoRow, standIns := [], harness := (true, "260eacdc949dbcf8dd2b376585e551b10b5e35c3c6f259e7d29fe38b7d106f6f"), looks := false }, kinds := [], alts := [], laidByText := true, laidKinds := [.data, .pinned], laidTests := true, laidLooks := .later }
def BuildTwiceUptoCardSaid : Prop := Claim7.holds Tryz.pinned (.plain (OpenSpec.upto buildTwiceSpec)) buildTwiceUptoCard

/-- THE SECOND FORM's CARD OF 'morainelaw17.BuildTells'. -/
def buildTellsUptoCard : Claim7 := { stood := { row := buildTellsUptoRow, standIns := [], harness := (true, "260eacdc949dbcf8dd2b376585e551b10b5e35c3c6f259e7d29fe38b7d106f6f"), looks := false }, kinds := [], alts := [], laidByText := true, laidKinds := [.data, .pinned], laidTests := true, laidLooks := .later }
def BuildTellsUptoCardSaid : Prop := Claim7.holds Tryz.pinned (.plain (OpenSpec.upto buildTellsSpec)) buildTellsUptoCard

/-- THE SECOND FORM's CARD OF 'morainelaw17.BuildSize'. -/
def buildSizeUptoCard : Claim7 := { stood := { row := buildSizeUptoRow, standIns := [], harness := (true, "260eacdc949dbcf8dd2b376585e551b10b5e35c3c6f259e7d29fe38b7d106f6f"), looks := false }, kinds := [], alts := [], laidByText := true, laidKinds := [.data, .pinned], laidTests := true, laidLooks := .later }
def BuildSizeUptoCardSaid : Prop := Claim7.holds Tryz.pinned (.plain (OpenSpec.upto buildSizeSpec)) buildSizeUptoCard
end Rows
end Go.Proofs.YtdgejifkcfgliaaGreatDoor
