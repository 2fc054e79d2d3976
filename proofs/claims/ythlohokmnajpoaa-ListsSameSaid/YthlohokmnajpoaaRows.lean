/-
  No cell of these rows narrows 'for every input' (looked for: loops, veiled, ifaces, maps, wideKeys, modest, calm, conditions, laid).
  DERIVED. THE GIVEN ROWS OF THIS SEAT. 3 by the template 'for every input the law returns true; each argument reads behind the call as it read before'; 0 by the template 'total and deterministic' (their statements: YthlohokmnajpoaaTotals.lean).
  GIVEN WITH THE SEED: the statements are not yours to turn. If you find one false, say at which input.
  Laid BY PROGRAM, IN A SANDBOX (cutbox-rows.mjs): the forced cells as the released guide's own fill.sh prints them over the translation 0372590b46dc40ff… (all of the seat's roots in one cut). By AI agents, Wed Nov 11 2026. No macro, syntax, notation, axiom, sorry.
-/
import Derived.Test.YthlohokmnajpoaaChecked
import GoSem.Claim
import GoSem.ClaimJoined
import GoSem.ClaimMapViews
import Derived.JoinedTies
import Derived.KernelRfl
namespace Go.Proofs.Ythlohokmnajpoaa
/- THE CELL 'sum', in the pinned program and in every row, IS THE sha256 OF THE DUMP (.gsa) THAT YthlohokmnajpoaaProg.lean LOADS. Nothing in Lean hashes anything: it is a label: what it is worth is what the hold of that sum in a sandbox is worth. -/
noncomputable def Try.pinned : Pinned := { name := "ythlohokmnajpoaa", sum := "0372590b46dc40ff2171c105963818be4fc5432a1047fdbda412e64427b15147", checked := Try.checked }
namespace Rows
def none {H : Type} : Left H := { results := [], args := [] }

/-- 'morainelaw22.ListsBack': WHATEVER THE INPUT: true; the input reads as it did. -/
def listsBackSpec : ChangeSpec := { name := "listsBack", fn := fun _ => fun
  | [d1, d2] => { results := [.lit (.bool true)], args := [d1, d2] }
  | _ => none }
def listsBackRow : OpenClaim := { program := "ythlohokmnajpoaa", sum := "0372590b46dc40ff2171c105963818be4fc5432a1047fdbda412e64427b15147", func := "moraine/morainelaw22.ListsBack", spec := "listsBack", unfollowed := true, recurses := true, apart := false }
def ListsBackSaid : Prop := listsBackRow.holds Try.pinned (OpenSpec.ofChange listsBackSpec)

/-- ITS FALSE NEIGHBOUR: 'it returns false'. Refute it at one input. -/
def listsBackWrong : ChangeSpec := { name := "listsBack", fn := fun _ => fun
  | [d1, d2] => { results := [.lit (.bool false)], args := [d1, d2] }
  | _ => none }
def ListsBackWrongFalsely : Prop := listsBackRow.holds Try.pinned (OpenSpec.ofChange listsBackWrong)

/-- 'morainelaw22.ListsAssoc': WHATEVER THE INPUT: true; the input reads as it did. -/
def listsAssocSpec : ChangeSpec := { name := "listsAssoc", fn := fun _ => fun
  | [d1, d2] => { results := [.lit (.bool true)], args := [d1, d2] }
  | _ => none }
def listsAssocRow : OpenClaim := { program := "ythlohokmnajpoaa", sum := "0372590b46dc40ff2171c105963818be4fc5432a1047fdbda412e64427b15147", func := "moraine/morainelaw22.ListsAssoc", spec := "listsAssoc", unfollowed := true, recurses := true, apart := false }
def ListsAssocSaid : Prop := listsAssocRow.holds Try.pinned (OpenSpec.ofChange listsAssocSpec)

/-- ITS FALSE NEIGHBOUR: 'it returns false'. Refute it at one input. -/
def listsAssocWrong : ChangeSpec := { name := "listsAssoc", fn := fun _ => fun
  | [d1, d2] => { results := [.lit (.bool false)], args := [d1, d2] }
  | _ => none }
def ListsAssocWrongFalsely : Prop := listsAssocRow.holds Try.pinned (OpenSpec.ofChange listsAssocWrong)

/-- 'morainelaw22.ListsSame': WHATEVER THE INPUT: true; the input reads as it did. -/
def listsSameSpec : ChangeSpec := { name := "listsSame", fn := fun _ => fun
  | [d1, d2, d3] => { results := [.lit (.bool true)], args := [d1, d2, d3] }
  | _ => none }
def listsSameRow : OpenClaim := { program := "ythlohokmnajpoaa", sum := "0372590b46dc40ff2171c105963818be4fc5432a1047fdbda412e64427b15147", func := "moraine/morainelaw22.ListsSame", spec := "listsSame", unfollowed := true, recurses := true, apart := false }
def ListsSameSaid : Prop := listsSameRow.holds Try.pinned (OpenSpec.ofChange listsSameSpec)

/-- ITS FALSE NEIGHBOUR: 'it returns false'. Refute it at one input. -/
def listsSameWrong : ChangeSpec := { name := "listsSame", fn := fun _ => fun
  | [d1, d2, d3] => { results := [.lit (.bool false)], args := [d1, d2, d3] }
  | _ => none }
def ListsSameWrongFalsely : Prop := listsSameRow.holds Try.pinned (OpenSpec.ofChange listsSameWrong)

/- THE SECOND FORM. 'bulk': how many values and letters a reading holds, each counted each time it is reached (what is shared counts as often as it is met; a slice's spare places count too). A statement '..UptoSaid' is the law's where the arguments, and the package variables that the reading takes, are together of bulk at most 1048576: NARROWER than '..Said'. Prove '..Said' where nothing that the law and all that it calls make is longer than what came in: it says more and counts as full. Else prove '..UptoSaid'. A law counts once. -/
mutual
def uptoBulk {H : Type} : DataW H → Nat
  | .lit (.string bytes) => bytes.length + 1
  | .lit _ => 1
  | .nil => 1
  | .ptr d => uptoBulk d + 1
  | .slice elems spare => uptoBulkAll elems + uptoBulkAll spare + 1
  | .agg parts => uptoBulkAll parts + 1
  | .iface _ d => uptoBulk d + 1
  | .map entries => uptoBulkEntries entries + 1
  | .held _ => 1
def uptoBulkAll {H : Type} : List (DataW H) → Nat
  | [] => 0
  | d :: r => uptoBulk d + uptoBulkAll r
def uptoBulkEntries {H : Type} : List (Lit × DataW H) → Nat
  | [] => 0
  | x :: r => uptoBulkEntry x + uptoBulkEntries r
def uptoBulkEntry {H : Type} : Lit × DataW H → Nat
  | (.string bytes, d) => bytes.length + uptoBulk d + 1
  | (_, d) => uptoBulk d + 1
 end
def uptoSmall : (H : Type) → List (DataW H) → Bool := fun _ ds => decide (uptoBulkAll ds ≤ 1048576)
def OpenSpec.upto (s : _root_.Go.ChangeSpec) : _root_.Go.OpenSpec := { _root_.Go.OpenSpec.ofChange s with cond := some uptoSmall }

/-- 'morainelaw22.ListsBack', WHERE WHAT IT READS IS OF BULK AT MOST 1048576: true; the input reads as it did. -/
def listsBackUptoRow : OpenClaim := { program := "ythlohokmnajpoaa", sum := "0372590b46dc40ff2171c105963818be4fc5432a1047fdbda412e64427b15147", func := "moraine/morainelaw22.ListsBack", spec := "listsBack", unfollowed := true, recurses := true, apart := false, narrowed := true }
def ListsBackUptoSaid : Prop := listsBackUptoRow.holds Try.pinned (OpenSpec.upto listsBackSpec)

/-- 'morainelaw22.ListsAssoc', WHERE WHAT IT READS IS OF BULK AT MOST 1048576: true; the input reads as it did. -/
def listsAssocUptoRow : OpenClaim := { program := "ythlohokmnajpoaa", sum := "0372590b46dc40ff2171c105963818be4fc5432a1047fdbda412e64427b15147", func := "moraine/morainelaw22.ListsAssoc", spec := "listsAssoc", unfollowed := true, recurses := true, apart := false, narrowed := true }
def ListsAssocUptoSaid : Prop := listsAssocUptoRow.holds Try.pinned (OpenSpec.upto listsAssocSpec)

/-- 'morainelaw22.ListsSame', WHERE WHAT IT READS IS OF BULK AT MOST 1048576: true; the input reads as it did. -/
def listsSameUptoRow : OpenClaim := { program := "ythlohokmnajpoaa", sum := "0372590b46dc40ff2171c105963818be4fc5432a1047fdbda412e64427b15147", func := "moraine/morainelaw22.ListsSame", spec := "listsSame", unfollowed := true, recurses := true, apart := false, narrowed := true }
def ListsSameUptoSaid : Prop := listsSameUptoRow.holds Try.pinned (OpenSpec.upto listsSameSpec)

end Rows
end Go.Proofs.Ythlohokmnajpoaa
