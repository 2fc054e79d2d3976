/-
  No cell of these rows narrows 'for every input' (looked for: loops, veiled, ifaces, maps, wideKeys, modest, calm, conditions, laid).
  DERIVED. THE GIVEN ROWS OF THIS SEAT. 5 by the template 'for every input the law returns true; each argument reads behind the call as it read before'; 0 by the template 'total and deterministic' (their statements: YtgnokbjknicahaaGreatTotals.lean).
  GIVEN WITH THE SEED: the statements are not yours to turn. If you find one false, say at which input.
  Laid BY PROGRAM, IN A SANDBOX (cutbox-rows.mjs): the forced cells as the released guide's own fill.sh prints them over the translation f75f56cbef1fcbb7… (all of the seat's roots in one cut). By AI agents, Wed Nov 11 2026. No macro, syntax, notation, axiom, sorry.
-/
import Derived.Test.YtgnokbjknicahaaGreatChecked
import GoSem.Claim
import GoSem.ClaimJoined
import GoSem.ClaimMapViews
import Derived.JoinedTies
import Derived.KernelRfl
namespace Go.Proofs.YtgnokbjknicahaaGreat
/- THE CELL 'sum', in the pinned program and in every row, IS THE sha256 OF THE DUMP (.gsa) THAT YtgnokbjknicahaaGreatProg.lean LOADS. Nothing in Lean hashes anything: it is a label: what it is worth is what the hold of that sum in a sandbox is worth. -/
noncomputable def Tryz.pinned : Pinned := { name := "ytgnokbjknicahaagreat", sum := "f75f56cbef1fcbb7f1c42f5d5fdccbcc7bfc934ee1a6bc0077979d1889ef39e0", checked := Tryz.checked }
namespace Rows
def none {H : Type} : Left H := { results := [], args := [] }

/-- 'morainelaw13.GcNobody': WHATEVER THE INPUT: true; the input reads as it did. -/
def gcNobodySpec : ChangeSpec := { name := "gcNobody", fn := fun _ => fun
  | [d1, d2] => { results := [.lit (.bool true)], args := [d1, d2] }
  | _ => none }
def gcNobodyRow : OpenClaim := { program := "ytgnokbjknicahaagreat", sum := "f75f56cbef1fcbb7f1c42f5d5fdccbcc7bfc934ee1a6bc0077979d1889ef39e0", func := "moraine/morainelaw13.GcNobody", spec := "gcNobody", unfollowed := true, recurses := true, apart := false }
def GcNobodySaid : Prop := gcNobodyRow.holds Tryz.pinned (OpenSpec.ofChange gcNobodySpec)

/-- ITS FALSE NEIGHBOUR: 'it returns false'. Refute it at one input. -/
def gcNobodyWrong : ChangeSpec := { name := "gcNobody", fn := fun _ => fun
  | [d1, d2] => { results := [.lit (.bool false)], args := [d1, d2] }
  | _ => none }
def GcNobodyWrongFalsely : Prop := gcNobodyRow.holds Tryz.pinned (OpenSpec.ofChange gcNobodyWrong)

/-- 'morainelaw13.GcShape': WHATEVER THE INPUT: true; the input reads as it did. -/
def gcShapeSpec : ChangeSpec := { name := "gcShape", fn := fun _ => fun
  | [d1, d2] => { results := [.lit (.bool true)], args := [d1, d2] }
  | _ => none }
def gcShapeRow : OpenClaim := { program := "ytgnokbjknicahaagreat", sum := "f75f56cbef1fcbb7f1c42f5d5fdccbcc7bfc934ee1a6bc0077979d1889ef39e0", func := "moraine/morainelaw13.GcShape", spec := "gcShape", unfollowed := true, recurses := true, apart := false }
def GcShapeSaid : Prop := gcShapeRow.holds Tryz.pinned (OpenSpec.ofChange gcShapeSpec)

/-- ITS FALSE NEIGHBOUR: 'it returns false'. Refute it at one input. -/
def gcShapeWrong : ChangeSpec := { name := "gcShape", fn := fun _ => fun
  | [d1, d2] => { results := [.lit (.bool false)], args := [d1, d2] }
  | _ => none }
def GcShapeWrongFalsely : Prop := gcShapeRow.holds Tryz.pinned (OpenSpec.ofChange gcShapeWrong)

/-- 'morainelaw13.GcAgain': WHATEVER THE INPUT: true; the input reads as it did. -/
def gcAgainSpec : ChangeSpec := { name := "gcAgain", fn := fun _ => fun
  | [d1, d2] => { results := [.lit (.bool true)], args := [d1, d2] }
  | _ => none }
def gcAgainRow : OpenClaim := { program := "ytgnokbjknicahaagreat", sum := "f75f56cbef1fcbb7f1c42f5d5fdccbcc7bfc934ee1a6bc0077979d1889ef39e0", func := "moraine/morainelaw13.GcAgain", spec := "gcAgain", unfollowed := true, recurses := true, apart := false }
def GcAgainSaid : Prop := gcAgainRow.holds Tryz.pinned (OpenSpec.ofChange gcAgainSpec)

/-- ITS FALSE NEIGHBOUR: 'it returns false'. Refute it at one input. -/
def gcAgainWrong : ChangeSpec := { name := "gcAgain", fn := fun _ => fun
  | [d1, d2] => { results := [.lit (.bool false)], args := [d1, d2] }
  | _ => none }
def GcAgainWrongFalsely : Prop := gcAgainRow.holds Tryz.pinned (OpenSpec.ofChange gcAgainWrong)

/-- 'morainelaw13.GcTight': WHATEVER THE INPUT: true; the input reads as it did. -/
def gcTightSpec : ChangeSpec := { name := "gcTight", fn := fun _ => fun
  | [d1, d2] => { results := [.lit (.bool true)], args := [d1, d2] }
  | _ => none }
def gcTightRow : OpenClaim := { program := "ytgnokbjknicahaagreat", sum := "f75f56cbef1fcbb7f1c42f5d5fdccbcc7bfc934ee1a6bc0077979d1889ef39e0", func := "moraine/morainelaw13.GcTight", spec := "gcTight", unfollowed := true, recurses := true, apart := false }
def GcTightSaid : Prop := gcTightRow.holds Tryz.pinned (OpenSpec.ofChange gcTightSpec)

/-- ITS FALSE NEIGHBOUR: 'it returns false'. Refute it at one input. -/
def gcTightWrong : ChangeSpec := { name := "gcTight", fn := fun _ => fun
  | [d1, d2] => { results := [.lit (.bool false)], args := [d1, d2] }
  | _ => none }
def GcTightWrongFalsely : Prop := gcTightRow.holds Tryz.pinned (OpenSpec.ofChange gcTightWrong)

/-- 'morainelaw13.GcOlder': WHATEVER THE INPUT: true; the input reads as it did. -/
def gcOlderSpec : ChangeSpec := { name := "gcOlder", fn := fun _ => fun
  | [d1, d2] => { results := [.lit (.bool true)], args := [d1, d2] }
  | _ => none }
def gcOlderRow : OpenClaim := { program := "ytgnokbjknicahaagreat", sum := "f75f56cbef1fcbb7f1c42f5d5fdccbcc7bfc934ee1a6bc0077979d1889ef39e0", func := "moraine/morainelaw13.GcOlder", spec := "gcOlder", unfollowed := true, recurses := true, apart := false }
def GcOlderSaid : Prop := gcOlderRow.holds Tryz.pinned (OpenSpec.ofChange gcOlderSpec)

/-- ITS FALSE NEIGHBOUR: 'it returns false'. Refute it at one input. -/
def gcOlderWrong : ChangeSpec := { name := "gcOlder", fn := fun _ => fun
  | [d1, d2] => { results := [.lit (.bool false)], args := [d1, d2] }
  | _ => none }
def GcOlderWrongFalsely : Prop := gcOlderRow.holds Tryz.pinned (OpenSpec.ofChange gcOlderWrong)

/- THE SECOND FORM. 'bulk': how many values and letters a reading holds, each counted each time it is reached (what is shared counts as often as it is met; a slice's spare places count too). A statement '..UptoSaid' is the law's where the arguments, and the package variables that the reading takes, are together of bulk at most 1048576: NARROWER than '..Said'. Prove '..Said' where nothing that the law and all that it calls make is longer than what came in: it says more and counts as full. Else prove '..UptoSaid'. A law counts once. -/
mutual
def uptoBulk {H : Type} : DataW H → Nat
  | .lit (.string bytes) => bytes.length + 1
  | .lit _ => 1
  | .nil => 1
  | .ptr d => uptoBulk d + 1
  | .slice elems spare => uptoBulkAll elems + uptoBulkAll spare + 1
  | .agg parts => uptoBulkAll parts + 1
  | .iface _ d => uptoBulk d + 1
  | .map entries => uptoBulkEntries entries + 1
  | .held _ => 1
def uptoBulkAll {H : Type} : List (DataW H) → Nat
  | [] => 0
  | d :: r => uptoBulk d + uptoBulkAll r
def uptoBulkEntries {H : Type} : List (Lit × DataW H) → Nat
  | [] => 0
  | x :: r => uptoBulkEntry x + uptoBulkEntries r
def uptoBulkEntry {H : Type} : Lit × DataW H → Nat
  | (.string bytes, d) => bytes.length + uptoBulk d + 1
  | (_, d) => uptoBulk d + 1
 end
def uptoSmall : (H : Type) → List (DataW H) → Bool := fun _ ds => decide (uptoBulkAll ds ≤ 1048576)
def OpenSpec.upto (s : _root_.Go.ChangeSpec) : _root_.Go.OpenSpec := { _root_.Go.OpenSpec.ofChange s with cond := some uptoSmall }

/-- 'morainelaw13.GcNobody', WHERE WHAT IT READS IS OF BULK AT MOST 1048576: true; the input reads as it did. -/
def gcNobodyUptoRow : OpenClaim := { program := "ytgnokbjknicahaagreat", sum := "f75f56cbef1fcbb7f1c42f5d5fdccbcc7bfc934ee1a6bc0077979d1889ef39e0", func := "moraine/morainelaw13.GcNobody", spec := "gcNobody", unfollowed := true, recurses := true, apart := false, narrowed := true }
def GcNobodyUptoSaid : Prop := gcNobodyUptoRow.holds Tryz.pinned (OpenSpec.upto gcNobodySpec)

/-- 'morainelaw13.GcShape', WHERE WHAT IT READS IS OF BULK AT MOST 1048576: true; the input reads as it did. -/
def gcShapeUptoRow : OpenClaim := { program := "ytgnokbjknicahaagreat", sum := "f75f56cbef1fcbb7f1c42f5d5fdccbcc7bfc934ee1a6bc0077979d1889ef39e0", func := "moraine/morainelaw13.GcShape", spec := "gcShape", unfollowed := true, recurses := true, apart := false, narrowed := true }
def GcShapeUptoSaid : Prop := gcShapeUptoRow.holds Tryz.pinned (OpenSpec.upto gcShapeSpec)

/-- 'morainelaw13.GcAgain', WHERE WHAT IT READS IS OF BULK AT MOST 1048576: true; the input reads as it did. -/
def gcAgainUptoRow : OpenClaim := { program := "ytgnokbjknicahaagreat", sum := "f75f56cbef1fcbb7f1c42f5d5fdccbcc7bfc934ee1a6bc0077979d1889ef39e0", func := "moraine/morainelaw13.GcAgain", spec := "gcAgain", unfollowed := true, recurses := true, apart := false, narrowed := true }
def GcAgainUptoSaid : Prop := gcAgainUptoRow.holds Tryz.pinned (OpenSpec.upto gcAgainSpec)

/-- 'morainelaw13.GcTight', WHERE WHAT IT READS IS OF BULK AT MOST 1048576: true; the input reads as it did. -/
def gcTightUptoRow : OpenClaim := { program := "ytgnokbjknicahaagreat", sum := "f75f56cbef1fcbb7f1c42f5d5fdccbcc7bfc934ee1a6bc0077979d1889ef39e0", func := "moraine/morainelaw13.GcTight", spec := "gcTight", unfollowed := true, recurses := true, apart := false, narrowed := true }
def GcTightUptoSaid : Prop := gcTightUptoRow.holds Tryz.pinned (OpenSpec.upto gcTightSpec)

/-- 'morainelaw13.GcOlder', WHERE WHAT IT READS IS OF BULK AT MOST 1048576: true; the input reads as it did. -/
def gcOlderUptoRow : OpenClaim := { program := "ytgnokbjknicahaagreat", sum := "f75f56cbef1fcbb7f1c42f5d5fdccbcc7bfc934ee1a6bc0077979d1889ef39e0", func := "moraine/morainelaw13.GcOlder", spec := "gcOlder", unfollowed := true, recurses := true, apart := false, narrowed := true }
def GcOlderUptoSaid : Prop := gcOlderUptoRow.holds Tryz.pinned (OpenSpec.upto gcOlderSpec)

end Rows
end Go.Proofs.YtgnokbjknicahaaGreat
