/-
  NARROWER THAN 'FOR EVERY INPUT', by the rows' own cells (each row's printed sentence says how): BuildTwice: loops, laid · BuildTells: laid · TextsBack: laid · TextsOrder: laid · TextsCase: laid · BuildSize: loops, laid · TextsNobody: laid.
  DERIVED. THE GIVEN ROWS OF THIS SEAT. 7 by the template 'for every input the law returns true; each argument reads behind the call as it read before'; 0 by the template 'total and deterministic' (their statements: YthlohokmnajpoaaGreatDoorTotals.lean).
  GIVEN WITH THE SEED: the statements are not yours to turn. If you find one false, say at which input.
  Laid BY PROGRAM, IN A SANDBOX (cutbox-rows.mjs): the forced cells as the released guide's own fill.sh prints them over the translation 12ae21daace3bb7d… (all of the seat's roots in one cut). By AI agents, Wed Nov 11 2026. No macro, syntax, notation, axiom, sorry.
-/
import Derived.Test.YthlohokmnajpoaaGreatDoorChecked
import GoSem.PinnedTables
import GoSem.Claim
import GoSem.ClaimJoined
import GoSem.ClaimMapViews
import Derived.JoinedTies
import Derived.KernelRfl
namespace Go.Proofs.YthlohokmnajpoaaGreatDoor
/- THE CELL 'sum', in the pinned program and in every row, IS THE sha256 OF THE DUMP (.gsa) THAT YthlohokmnajpoaaGreatDoorProg.lean LOADS. Nothing in Lean hashes anything: it is a label: what it is worth is what the hold of that sum in a sandbox is worth. -/
noncomputable def Tryz.pinned : Pinned := { name := "ythlohokmnajpoaagreatdoor", sum := "12ae21daace3bb7d27f858ad99fd075402764662c2c2223b8e12348b3a574dae", checked := Tryz.checked }
namespace Rows
def none {H : Type} : Left H := { results := [], args := [] }

/- WHAT THE LISTED PACKAGE-LEVEL VARIABLES READ AS WHEN THE CALL BEGINS. Each datum BY PROGRAM (the guide's laid-datum.mjs) off the statement by which the dump's own 'gosem.cut.vars' lays the variable. In a bare row this is a premise. The card (YthlohokmnajpoaaGreatDoorCards.lean) ties it to the program's text. -/
def laid_unicode_utf8_acceptRanges {H : Type} : DataW H := .agg [.agg [.lit (.int .u8 128), .lit (.int .u8 191)], .agg [.lit (.int .u8 160), .lit (.int .u8 191)], .agg [.lit (.int .u8 128), .lit (.int .u8 159)], .agg [.lit (.int .u8 144), .lit (.int .u8 191)], .agg [.lit (.int .u8 128), .lit (.int .u8 143)], .agg [.lit (.int .u8 0), .lit (.int .u8 0)], .agg [.lit (.int .u8 0), .lit (.int .u8 0)], .agg [.lit (.int .u8 0), .lit (.int .u8 0)], .agg [.lit (.int .u8 0), .lit (.int .u8 0)], .agg [.lit (.int .u8 0), .lit (.int .u8 0)], .agg [.lit (.int .u8 0), .lit (.int .u8 0)], .agg [.lit (.int .u8 0), .lit (.int .u8 0)], .agg [.lit (.int .u8 0), .lit (.int .u8 0)], .agg [.lit (.int .u8 0), .lit (.int .u8 0)], .agg [.lit (.int .u8 0), .lit (.int .u8 0)], .agg [.lit (.int .u8 0), .lit (.int .u8 0)]]
/-- One of Go's own tables, pinned by name: the form's constant. -/
def laid_unicode_utf8_first : DataW Unit := Go.Pinned.utf8First

/-- 'morainelaw17.BuildTwice': WHATEVER THE INPUT: true; the input reads as it did. -/
def buildTwiceSpec : ChangeSpec := { name := "buildTwice", fn := fun _ => fun
  | [d] => { results := [.lit (.bool true)], args := [d] }
  | _ => none }
def buildTwiceRow : OpenClaim := { program := "ythlohokmnajpoaagreatdoor", sum := "12ae21daace3bb7d27f858ad99fd075402764662c2c2223b8e12348b3a574dae", func := "moraine/morainelaw17.BuildTwice", spec := "buildTwice", unfollowed := true, recurses := true, named := ["unicode/utf8.first", "unicode/utf8.acceptRanges"], loops := true, apart := false, laid := [("unicode/utf8.acceptRanges", laid_unicode_utf8_acceptRanges), ("unicode/utf8.first", laid_unicode_utf8_first)] }
def BuildTwiceSaid : Prop := buildTwiceRow.holds Tryz.pinned (OpenSpec.ofChange buildTwiceSpec)

/-- ITS FALSE NEIGHBOUR: 'it returns false'. Refute it at one input. -/
def buildTwiceWrong : ChangeSpec := { name := "buildTwice", fn := fun _ => fun
  | [d] => { results := [.lit (.bool false)], args := [d] }
  | _ => none }
def BuildTwiceWrongFalsely : Prop := buildTwiceRow.holds Tryz.pinned (OpenSpec.ofChange buildTwiceWrong)

/-- 'morainelaw17.BuildTells': WHATEVER THE INPUT: true; the input reads as it did. -/
def buildTellsSpec : ChangeSpec := { name := "buildTells", fn := fun _ => fun
  | [d] => { results := [.lit (.bool true)], args := [d] }
  | _ => none }
def buildTellsRow : OpenClaim := { program := "ythlohokmnajpoaagreatdoor", sum := "12ae21daace3bb7d27f858ad99fd075402764662c2c2223b8e12348b3a574dae", func := "moraine/morainelaw17.BuildTells", spec := "buildTells", unfollowed := true, recurses := true, named := ["unicode/utf8.first", "unicode/utf8.acceptRanges"], apart := false, laid := [("unicode/utf8.acceptRanges", laid_unicode_utf8_acceptRanges), ("unicode/utf8.first", laid_unicode_utf8_first)] }
def BuildTellsSaid : Prop := buildTellsRow.holds Tryz.pinned (OpenSpec.ofChange buildTellsSpec)

/-- ITS FALSE NEIGHBOUR: 'it returns false'. Refute it at one input. -/
def buildTellsWrong : ChangeSpec := { name := "buildTells", fn := fun _ => fun
  | [d] => { results := [.lit (.bool false)], args := [d] }
  | _ => none }
def BuildTellsWrongFalsely : Prop := buildTellsRow.holds Tryz.pinned (OpenSpec.ofChange buildTellsWrong)

/-- 'morainelaw23.TextsBack': WHATEVER THE INPUT: true; the input reads as it did. -/
def textsBackSpec : ChangeSpec := { name := "textsBack", fn := fun _ => fun
  | [d1, d2] => { results := [.lit (.bool true)], args := [d1, d2] }
  | _ => none }
def textsBackRow : OpenClaim := { program := "ythlohokmnajpoaagreatdoor", sum := "12ae21daace3bb7d27f858ad99fd075402764662c2c2223b8e12348b3a574dae", func := "moraine/morainelaw23.TextsBack", spec := "textsBack", inPlace := ["internal/bytealg.IndexByteString"], unfollowed := true, recurses := true, named := ["unicode/utf8.first", "unicode/utf8.acceptRanges"], apart := false, laid := [("unicode/utf8.acceptRanges", laid_unicode_utf8_acceptRanges), ("unicode/utf8.first", laid_unicode_utf8_first)] }
def TextsBackSaid : Prop := textsBackRow.holds Tryz.pinned (OpenSpec.ofChange textsBackSpec)

/-- ITS FALSE NEIGHBOUR: 'it returns false'. Refute it at one input. -/
def textsBackWrong : ChangeSpec := { name := "textsBack", fn := fun _ => fun
  | [d1, d2] => { results := [.lit (.bool false)], args := [d1, d2] }
  | _ => none }
def TextsBackWrongFalsely : Prop := textsBackRow.holds Tryz.pinned (OpenSpec.ofChange textsBackWrong)

/-- 'morainelaw23.TextsOrder': WHATEVER THE INPUT: true; the input reads as it did. -/
def textsOrderSpec : ChangeSpec := { name := "textsOrder", fn := fun _ => fun
  | [d1, d2, d3] => { results := [.lit (.bool true)], args := [d1, d2, d3] }
  | _ => none }
def textsOrderRow : OpenClaim := { program := "ythlohokmnajpoaagreatdoor", sum := "12ae21daace3bb7d27f858ad99fd075402764662c2c2223b8e12348b3a574dae", func := "moraine/morainelaw23.TextsOrder", spec := "textsOrder", inPlace := ["internal/bytealg.IndexByteString"], unfollowed := true, recurses := true, named := ["unicode/utf8.first", "unicode/utf8.acceptRanges"], apart := false, laid := [("unicode/utf8.acceptRanges", laid_unicode_utf8_acceptRanges), ("unicode/utf8.first", laid_unicode_utf8_first)] }
def TextsOrderSaid : Prop := textsOrderRow.holds Tryz.pinned (OpenSpec.ofChange textsOrderSpec)

/-- ITS FALSE NEIGHBOUR: 'it returns false'. Refute it at one input. -/
def textsOrderWrong : ChangeSpec := { name := "textsOrder", fn := fun _ => fun
  | [d1, d2, d3] => { results := [.lit (.bool false)], args := [d1, d2, d3] }
  | _ => none }
def TextsOrderWrongFalsely : Prop := textsOrderRow.holds Tryz.pinned (OpenSpec.ofChange textsOrderWrong)

/-- 'morainelaw23.TextsCase': WHATEVER THE INPUT: true; the input reads as it did. -/
def textsCaseSpec : ChangeSpec := { name := "textsCase", fn := fun _ => fun
  | [d] => { results := [.lit (.bool true)], args := [d] }
  | _ => none }
def textsCaseRow : OpenClaim := { program := "ythlohokmnajpoaagreatdoor", sum := "12ae21daace3bb7d27f858ad99fd075402764662c2c2223b8e12348b3a574dae", func := "moraine/morainelaw23.TextsCase", spec := "textsCase", inPlace := ["internal/bytealg.IndexByteString"], unfollowed := true, recurses := true, named := ["unicode/utf8.first", "unicode/utf8.acceptRanges"], apart := false, laid := [("unicode/utf8.acceptRanges", laid_unicode_utf8_acceptRanges), ("unicode/utf8.first", laid_unicode_utf8_first)] }
def TextsCaseSaid : Prop := textsCaseRow.holds Tryz.pinned (OpenSpec.ofChange textsCaseSpec)

/-- ITS FALSE NEIGHBOUR: 'it returns false'. Refute it at one input. -/
def textsCaseWrong : ChangeSpec := { name := "textsCase", fn := fun _ => fun
  | [d] => { results := [.lit (.bool false)], args := [d] }
  | _ => none }
def TextsCaseWrongFalsely : Prop := textsCaseRow.holds Tryz.pinned (OpenSpec.ofChange textsCaseWrong)

/-- 'morainelaw17.BuildSize': WHATEVER THE INPUT: true; the input reads as it did. -/
def buildSizeSpec : ChangeSpec := { name := "buildSize", fn := fun _ => fun
  | [d] => { results := [.lit (.bool true)], args := [d] }
  | _ => none }
def buildSizeRow : OpenClaim := { program := "ythlohokmnajpoaagreatdoor", sum := "12ae21daace3bb7d27f858ad99fd075402764662c2c2223b8e12348b3a574dae", func := "moraine/morainelaw17.BuildSize", spec := "buildSize", unfollowed := true, recurses := true, named := ["unicode/utf8.first", "unicode/utf8.acceptRanges"], loops := true, apart := false, laid := [("unicode/utf8.acceptRanges", laid_unicode_utf8_acceptRanges), ("unicode/utf8.first", laid_unicode_utf8_first)] }
def BuildSizeSaid : Prop := buildSizeRow.holds Tryz.pinned (OpenSpec.ofChange buildSizeSpec)

/-- ITS FALSE NEIGHBOUR: 'it returns false'. Refute it at one input. -/
def buildSizeWrong : ChangeSpec := { name := "buildSize", fn := fun _ => fun
  | [d] => { results := [.lit (.bool false)], args := [d] }
  | _ => none }
def BuildSizeWrongFalsely : Prop := buildSizeRow.holds Tryz.pinned (OpenSpec.ofChange buildSizeWrong)

/-- 'morainelaw23.TextsNobody': WHATEVER THE INPUT: true; the input reads as it did. -/
def textsNobodySpec : ChangeSpec := { name := "textsNobody", fn := fun _ => fun
  | [d1, d2] => { results := [.lit (.bool true)], args := [d1, d2] }
  | _ => none }
def textsNobodyRow : OpenClaim := { program := "ythlohokmnajpoaagreatdoor", sum := "12ae21daace3bb7d27f858ad99fd075402764662c2c2223b8e12348b3a574dae", func := "moraine/morainelaw23.TextsNobody", spec := "textsNobody", inPlace := ["internal/bytealg.IndexByteString"], unfollowed := true, recurses := true, named := ["unicode/utf8.first", "unicode/utf8.acceptRanges"], apart := false, laid := [("unicode/utf8.acceptRanges", laid_unicode_utf8_acceptRanges), ("unicode/utf8.first", laid_unicode_utf8_first)] }
def TextsNobodySaid : Prop := textsNobodyRow.holds Tryz.pinned (OpenSpec.ofChange textsNobodySpec)

/-- ITS FALSE NEIGHBOUR: 'it returns false'. Refute it at one input. -/
def textsNobodyWrong : ChangeSpec := { name := "textsNobody", fn := fun _ => fun
  | [d1, d2] => { results := [.lit (.bool false)], args := [d1, d2] }
  | _ => none }
def TextsNobodyWrongFalsely : Prop := textsNobodyRow.holds Tryz.pinned (OpenSpec.ofChange textsNobodyWrong)

/- THE SECOND FORM. 'bulk': how many values and letters a reading holds, each counted each time it is reached (what is shared counts as often as it is met; a slice's spare places count too). A statement '..UptoSaid' is the law's where the arguments, and the package variables that the reading takes, are together of bulk at most 1048576: NARROWER than '..Said'. Prove '..Said' where nothing that the law and all that it calls make is longer than what came in: it says more and counts as full. Else prove '..UptoSaid'. A law counts once. -/
mutual
def uptoBulk {H : Type} : DataW H → Nat
  | .lit (.string bytes) => bytes.length + 1
  | .lit _ => 1
  | .nil => 1
  | .ptr d => uptoBulk d + 1
  | .slice elems spare => uptoBulkAll elems + uptoBulkAll spare + 1
  | .agg parts => uptoBulkAll parts + 1
  | .iface _ d => uptoBulk d + 1
  | .map entries => uptoBulkEntries entries + 1
  | .held _ => 1
def uptoBulkAll {H : Type} : List (DataW H) → Nat
  | [] => 0
  | d :: r => uptoBulk d + uptoBulkAll r
def uptoBulkEntries {H : Type} : List (Lit × DataW H) → Nat
  | [] => 0
  | x :: r => uptoBulkEntry x + uptoBulkEntries r
def uptoBulkEntry {H : Type} : Lit × DataW H → Nat
  | (.string bytes, d) => bytes.length + uptoBulk d + 1
  | (_, d) => uptoBulk d + 1
 end
def uptoSmall : (H : Type) → List (DataW H) → Bool := fun _ ds => decide (uptoBulkAll ds ≤ 1048576)
def OpenSpec.upto (s : _root_.Go.ChangeSpec) : _root_.Go.OpenSpec := { _root_.Go.OpenSpec.ofChange s with cond := some uptoSmall }

/-- 'morainelaw17.BuildTwice', WHERE WHAT IT READS IS OF BULK AT MOST 1048576: true; the input reads as it did. -/
def buildTwiceUptoRow : OpenClaim := { program := "ythlohokmnajpoaagreatdoor", sum := "12ae21daace3bb7d27f858ad99fd075402764662c2c2223b8e12348b3a574dae", func := "moraine/morainelaw17.BuildTwice", spec := "buildTwice", unfollowed := true, recurses := true, named := ["unicode/utf8.first", "unicode/utf8.acceptRanges"], loops := true, apart := false, laid := [("unicode/utf8.acceptRanges", laid_unicode_utf8_acceptRanges), ("unicode/utf8.first", laid_unicode_utf8_first)], narrowed := true }
def BuildTwiceUptoSaid : Prop := buildTwiceUptoRow.holds Tryz.pinned (OpenSpec.upto buildTwiceSpec)

/-- 'morainelaw17.BuildTells', WHERE WHAT IT READS IS OF BULK AT MOST 1048576: true; the input reads as it did. -/
def buildTellsUptoRow : OpenClaim := { program := "ythlohokmnajpoaagreatdoor", sum := "12ae21daace3bb7d27f858ad99fd075402764662c2c2223b8e12348b3a574dae", func := "moraine/morainelaw17.BuildTells", spec := "buildTells", unfollowed := true, recurses := true, named := ["unicode/utf8.first", "unicode/utf8.acceptRanges"], apart := false, laid := [("unicode/utf8.acceptRanges", laid_unicode_utf8_acceptRanges), ("unicode/utf8.first", laid_unicode_utf8_first)], narrowed := true }
def BuildTellsUptoSaid : Prop := buildTellsUptoRow.holds Tryz.pinned (OpenSpec.upto buildTellsSpec)

/-- 'morainelaw23.TextsBack', WHERE WHAT IT READS IS OF BULK AT MOST 1048576: true; the input reads as it did. -/
def textsBackUptoRow : OpenClaim := { program := "ythlohokmnajpoaagreatdoor", sum := "12ae21daace3bb7d27f858ad99fd075402764662c2c2223b8e12348b3a574dae", func := "moraine/morainelaw23.TextsBack", spec := "textsBack", inPlace := ["internal/bytealg.IndexByteString"], unfollowed := true, recurses := true, named := ["unicode/utf8.first", "unicode/utf8.acceptRanges"], apart := false, laid := [("unicode/utf8.acceptRanges", laid_unicode_utf8_acceptRanges), ("unicode/utf8.first", laid_unicode_utf8_first)], narrowed := true }
def TextsBackUptoSaid : Prop := textsBackUptoRow.holds Tryz.pinned (OpenSpec.upto textsBackSpec)

/-- 'morainelaw23.TextsOrder', WHERE WHAT IT READS IS OF BULK AT MOST 1048576: true; the input reads as it did. -/
def textsOrderUptoRow : OpenClaim := { program := "ythlohokmnajpoaagreatdoor", sum := "12ae21daace3bb7d27f858ad99fd075402764662c2c2223b8e12348b3a574dae", func := "moraine/morainelaw23.TextsOrder", spec := "textsOrder", inPlace := ["internal/bytealg.IndexByteString"], unfollowed := true, recurses := true, named := ["unicode/utf8.first", "unicode/utf8.acceptRanges"], apart := false, laid := [("unicode/utf8.acceptRanges", laid_unicode_utf8_acceptRanges), ("unicode/utf8.first", laid_unicode_utf8_first)], narrowed := true }
def TextsOrderUptoSaid : Prop := textsOrderUptoRow.holds Tryz.pinned (OpenSpec.upto textsOrderSpec)

/-- 'morainelaw23.TextsCase', WHERE WHAT IT READS IS OF BULK AT MOST 1048576: true; the input reads as it did. -/
def textsCaseUptoRow : OpenClaim := { program := "ythlohokmnajpoaagreatdoor", sum := "12ae21daace3bb7d27f858ad99fd075402764662c2c2223b8e12348b3a574dae", func := "moraine/morainelaw23.TextsCase", spec := "textsCase", inPlace := ["internal/bytealg.IndexByteString"], unfollowed := true, recurses := true, named := ["unicode/utf8.first", "unicode/utf8.acceptRanges"], apart := false, laid := [("unicode/utf8.acceptRanges", laid_unicode_utf8_acceptRanges), ("unicode/utf8.first", laid_unicode_utf8_first)], narrowed := true }
def TextsCaseUptoSaid : Prop := textsCaseUptoRow.holds Tryz.pinned (OpenSpec.upto textsCaseSpec)

/-- 'morainelaw17.BuildSize', WHERE WHAT IT READS IS OF BULK AT MOST 1048576: true; the input reads as it did. -/
def buildSizeUptoRow : OpenClaim := { program := "ythlohokmnajpoaagreatdoor", sum := "12ae21daace3bb7d27f858ad99fd075402764662c2c2223b8e12348b3a574dae", func := "moraine/morainelaw17.BuildSize", spec := "buildSize", unfollowed := true, recurses := true, named := ["unicode/utf8.first", "unicode/utf8.acceptRanges"], loops := true, apart := false, laid := [("unicode/utf8.acceptRanges", laid_unicode_utf8_acceptRanges), ("unicode/utf8.first", laid_unicode_utf8_first)], narrowed := true }
def BuildSizeUptoSaid : Prop := buildSizeUptoRow.holds Tryz.pinned (OpenSpec.upto buildSizeSpec)

/-- 'morainelaw23.TextsNobody', WHERE WHAT IT READS IS OF BULK AT MOST 1048576: true; the input reads as it did. -/
def textsNobodyUptoRow : OpenClaim := { program := "ythlohokmnajpoaagreatdoor", sum := "12ae21daace3bb7d27f858ad99fd075402764662c2c2223b8e12348b3a574dae", func := "moraine/morainelaw23.TextsNobody", spec := "textsNobody", inPlace := ["internal/bytealg.IndexByteString"], unfollowed := true, recurses := true, named := ["unicode/utf8.first", "unicode/utf8.acceptRanges"], apart := false, laid := [("unicode/utf8.acceptRanges", laid_unicode_utf8_acceptRanges), ("unicode/utf8.first", laid_unicode_utf8_first)], narrowed := true }
def TextsNobodyUptoSaid : Prop := textsNobodyUptoRow.holds Tryz.pinned (OpenSpec.upto textsNobodySpec)

end Rows
end Go.Proofs.YthlohokmnajpoaaGreatDoor
