/-
  DERIVED. GIVEN WITH THE SEED: THE CARDS: each row of YthlohokmnajpoaaGreatDoorRows.lean that lists a variable, with what it lists TIED to the program's text (the seventh form; the later family's looks); each row that meets fmt, with fmt's text TOLD by the authors' own Lean function (tested against real Go, not proved from fmt's source: count such statements apart). THE CARD IS WHAT COUNTS. Prove the row's statement (the work); the ties are given (YthlohokmnajpoaaGreatDoorTie.lean); close each card by the builder's one call (the guide's Derived/Test/ToyasCard.lean, 'card_holds'). Laid BY PROGRAM, IN A SANDBOX (cutbox-door.mjs). By AI agents, Wed Nov 11 2026. No macro, syntax, notation, axiom, sorry.
-/
import Derived.Test.YthlohokmnajpoaaGreatDoorRows
import GoSem.ClaimSeven
namespace Go.Proofs.YthlohokmnajpoaaGreatDoor
namespace Rows

/-- THE TIED CARD OF 'morainelaw17.BuildTwice'. -/
def buildTwiceCard : Claim7 := { stood := { row := buildTwiceRow, standIns := [], harness := (true, "7894965f36cbce92406310930e64986d2ea7bf966cf13c5e6d826dd7bc3f29f6"), looks := false }, kinds := [], alts := [], laidByText := true, laidKinds := [.data, .pinned], laidTests := true, laidLooks := .later }
def BuildTwiceCardSaid : Prop := Claim7.holds Tryz.pinned (.plain (OpenSpec.ofChange buildTwiceSpec)) buildTwiceCard

/-- THE TIED CARD OF 'morainelaw17.BuildTells'. -/
def buildTellsCard : Claim7 := { stood := { row := buildTellsRow, standIns := [], harness := (true, "7894965f36cbce92406310930e64986d2ea7bf966cf13c5e6d826dd7bc3f29f6"), looks := false }, kinds := [], alts := [], laidByText := true, laidKinds := [.data, .pinned], laidTests := true, laidLooks := .later }
def BuildTellsCardSaid : Prop := Claim7.holds Tryz.pinned (.plain (OpenSpec.ofChange buildTellsSpec)) buildTellsCard

/-- THE TIED CARD OF 'morainelaw23.TextsBack'. -/
def textsBackCard : Claim7 := { stood := { row := textsBackRow, standIns := [], harness := (true, "7894965f36cbce92406310930e64986d2ea7bf966cf13c5e6d826dd7bc3f29f6"), looks := false }, kinds := [], alts := [], laidByText := true, laidKinds := [.data, .pinned], laidTests := true, laidLooks := .later }
def TextsBackCardSaid : Prop := Claim7.holds Tryz.pinned (.plain (OpenSpec.ofChange textsBackSpec)) textsBackCard

/-- THE TIED CARD OF 'morainelaw23.TextsOrder'. -/
def textsOrderCard : Claim7 := { stood := { row := textsOrderRow, standIns := [], harness := (true, "7894965f36cbce92406310930e64986d2ea7bf966cf13c5e6d826dd7bc3f29f6"), looks := false }, kinds := [], alts := [], laidByText := true, laidKinds := [.data, .pinned], laidTests := true, laidLooks := .later }
def TextsOrderCardSaid : Prop := Claim7.holds Tryz.pinned (.plain (OpenSpec.ofChange textsOrderSpec)) textsOrderCard

/-- THE TIED CARD OF 'morainelaw23.TextsCase'. -/
def textsCaseCard : Claim7 := { stood := { row := textsCaseRow, standIns := [], harness := (true, "7894965f36cbce92406310930e64986d2ea7bf966cf13c5e6d826dd7bc3f29f6"), looks := false }, kinds := [], alts := [], laidByText := true, laidKinds := [.data, .pinned], laidTests := true, laidLooks := .later }
def TextsCaseCardSaid : Prop := Claim7.holds Tryz.pinned (.plain (OpenSpec.ofChange textsCaseSpec)) textsCaseCard

/-- THE TIED CARD OF 'morainelaw17.BuildSize'. -/
def buildSizeCard : Claim7 := { stood := { row := buildSizeRow, standIns := [], harness := (true, "7894965f36cbce92406310930e64986d2ea7bf966cf13c5e6d826dd7bc3f29f6"), looks := false }, kinds := [], alts := [], laidByText := true, laidKinds := [.data, .pinned], laidTests := true, laidLooks := .later }
def BuildSizeCardSaid : Prop := Claim7.holds Tryz.pinned (.plain (OpenSpec.ofChange buildSizeSpec)) buildSizeCard

/-- THE TIED CARD OF 'morainelaw23.TextsNobody'. -/
def textsNobodyCard : Claim7 := { stood := { row := textsNobodyRow, standIns := [], harness := (true, "7894965f36cbce92406310930e64986d2ea7bf966cf13c5e6d826dd7bc3f29f6"), looks := false }, kinds := [], alts := [], laidByText := true, laidKinds := [.data, .pinned], laidTests := true, laidLooks := .later }
def TextsNobodyCardSaid : Prop := Claim7.holds Tryz.pinned (.plain (OpenSpec.ofChange textsNobodySpec)) textsNobodyCard

/-- THE SECOND FORM's CARD OF 'morainelaw17.BuildTwice'. -/
def buildTwiceUptoCard : Claim7 := { stood := { row := buildTwiceUptoRow, standIns := [], harness := (true, "7894965f36cbce92406310930e64986d2ea7bf966cf13c5e6d826dd7bc3f29f6"), looks := false }, kinds := [], alts := [], laidByText := true, laidKinds := [.data, .pinned], laidTests := true, laidLooks := .later }
def BuildTwiceUptoCardSaid : Prop := Claim7.holds Tryz.pinned (.plain (OpenSpec.upto buildTwiceSpec)) buildTwiceUptoCard

/-- THE SECOND FORM's CARD OF 'morainelaw17.BuildTells'. -/
def buildTellsUptoCard : Claim7 := { stood := { row := buildTellsUptoRow, standIns := [], harness := (true, "7894965f36cbce92406310930e64986d2ea7bf966cf13c5e6d826dd7bc3f29f6"), looks := false }, kinds := [], alts := [], laidByText := true, laidKinds := [.data, .pinned], laidTests := true, laidLooks := .later }
def BuildTellsUptoCardSaid : Prop := Claim7.holds Tryz.pinned (.plain (OpenSpec.upto buildTellsSpec)) buildTellsUptoCard

/-- THE SECOND FORM's CARD OF 'morainelaw23.TextsBack'. -/
def textsBackUptoCard : Claim7 := { stood := { row := textsBackUptoRow, standIns := [], harness := (true, "7894965f36cbce92406310930e64986d2ea7bf966cf13c5e6d826dd7bc3f29f6"), looks := false }, kinds := [], alts := [], laidByText := true, laidKinds := [.data, .pinned], laidTests := true, laidLooks := .later }
def TextsBackUptoCardSaid : Prop := Claim7.holds Tryz.pinned (.plain (OpenSpec.upto textsBackSpec)) textsBackUptoCard

/-- THE SECOND FORM's CARD OF 'morainelaw23.TextsOrder'. -/
def textsOrderUptoCard : Claim7 := { stood := { row := textsOrderUptoRow, standIns := [], harness := (true, "7894965f36cbce92406310930e64986d2ea7bf966cf13c5e6d826dd7bc3f29f6"), looks := false }, kinds := [], alts := [], laidByText := true, laidKinds := [.data, .pinned], laidTests := true, laidLooks := .later }
def TextsOrderUptoCardSaid : Prop := Claim7.holds Tryz.pinned (.plain (OpenSpec.upto textsOrderSpec)) textsOrderUptoCard

/-- THE SECOND FORM's CARD OF 'morainelaw23.TextsCase'. -/
def textsCaseUptoCard : Claim7 := { stood := { row := textsCaseUptoRow, standIns := [], harness := (true, "7894965f36cbce92406310930e64986d2ea7bf966cf13c5e6d826dd7bc3f29f6"), looks := false }, kinds := [], alts := [], laidByText := true, laidKinds := [.data, .pinned], laidTests := true, laidLooks := .later }
def TextsCaseUptoCardSaid : Prop := Claim7.holds Tryz.pinned (.plain (OpenSpec.upto textsCaseSpec)) textsCaseUptoCard

/-- THE SECOND FORM's CARD OF 'morainelaw17.BuildSize'. -/
def buildSizeUptoCard : Claim7 := { stood := { row := buildSizeUptoRow, standIns := [], harness := (true, "7894965f36cbce92406310930e64986d2ea7bf966cf13c5e6d826dd7bc3f29f6"), looks := false }, kinds := [], alts := [], laidByText := true, laidKinds := [.data, .pinned], laidTests := true, laidLooks := .later }
def BuildSizeUptoCardSaid : Prop := Claim7.holds Tryz.pinned (.plain (OpenSpec.upto buildSizeSpec)) buildSizeUptoCard

/-- THE SECOND FORM's CARD OF 'morainelaw23.TextsNobody'. -/
def textsNobodyUptoCard : Claim7 := { stood := { row := textsNobodyUptoRow, standIns := [], harness := (true, "7894965f36cbce92406310930e64986d2ea7bf966cf13c5e6d826dd7bc3f29f6"), looks := false }, kinds := [], alts := [], laidByText := true, laidKinds := [.data, .pinned], laidTests := true, laidLooks := .later }
def TextsNobodyUptoCardSaid : Prop := Claim7.holds Tryz.pinned (.plain (OpenSpec.upto textsNobodySpec)) textsNobodyUptoCard
end Rows
end Go.Proofs.YthlohokmnajpoaaGreatDoor
