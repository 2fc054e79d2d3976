/-
  No cell of these rows narrows 'for every input' (looked for: loops, veiled, ifaces, maps, wideKeys, modest, calm, conditions, laid).
  DERIVED. THE GIVEN ROWS OF THIS SEAT. 5 by the template 'for every input the law returns true; each argument reads behind the call as it read before'; 0 by the template 'total and deterministic' (their statements: YtiebboaeaoobmaaGreatTotals.lean).
  GIVEN WITH THE SEED: the statements are not yours to turn. If you find one false, say at which input.
  Laid BY PROGRAM, IN A SANDBOX (cutbox-rows.mjs): the forced cells as the released guide's own fill.sh prints them over the translation 7780abeef7bafeca… (all of the seat's roots in one cut). By AI agents, Wed Nov 11 2026. No macro, syntax, notation, axiom, sorry.
-/
import Derived.Test.YtiebboaeaoobmaaGreatChecked
import GoSem.Claim
import GoSem.ClaimJoined
import GoSem.ClaimMapViews
import Derived.JoinedTies
import Derived.KernelRfl
namespace Go.Proofs.YtiebboaeaoobmaaGreat
/- THE CELL 'sum', in the pinned program and in every row, IS THE sha256 OF THE DUMP (.gsa) THAT YtiebboaeaoobmaaGreatProg.lean LOADS. Nothing in Lean hashes anything: it is a label: what it is worth is what the hold of that sum in a sandbox is worth. -/
noncomputable def Tryz.pinned : Pinned := { name := "ytiebboaeaoobmaagreat", sum := "7780abeef7bafeca28d04a3a95e2e4232140ad472c1550ea4a973d1208cb7a72", checked := Tryz.checked }
namespace Rows
def none {H : Type} : Left H := { results := [], args := [] }

/-- 'morainelaw15.EqtabPlays': WHATEVER THE INPUT: true; the input reads as it did. -/
def eqtabPlaysSpec : ChangeSpec := { name := "eqtabPlays", fn := fun _ => fun
  | [d] => { results := [.lit (.bool true)], args := [d] }
  | _ => none }
def eqtabPlaysRow : OpenClaim := { program := "ytiebboaeaoobmaagreat", sum := "7780abeef7bafeca28d04a3a95e2e4232140ad472c1550ea4a973d1208cb7a72", func := "moraine/morainelaw15.EqtabPlays", spec := "eqtabPlays", unfollowed := true, recurses := true, apart := false }
def EqtabPlaysSaid : Prop := eqtabPlaysRow.holds Tryz.pinned (OpenSpec.ofChange eqtabPlaysSpec)

/-- ITS FALSE NEIGHBOUR: 'it returns false'. Refute it at one input. -/
def eqtabPlaysWrong : ChangeSpec := { name := "eqtabPlays", fn := fun _ => fun
  | [d] => { results := [.lit (.bool false)], args := [d] }
  | _ => none }
def EqtabPlaysWrongFalsely : Prop := eqtabPlaysRow.holds Tryz.pinned (OpenSpec.ofChange eqtabPlaysWrong)

/-- 'morainelaw15.EqtabFull': WHATEVER THE INPUT: true; the input reads as it did. -/
def eqtabFullSpec : ChangeSpec := { name := "eqtabFull", fn := fun _ => fun
  | [d1, d2, d3] => { results := [.lit (.bool true)], args := [d1, d2, d3] }
  | _ => none }
def eqtabFullRow : OpenClaim := { program := "ytiebboaeaoobmaagreat", sum := "7780abeef7bafeca28d04a3a95e2e4232140ad472c1550ea4a973d1208cb7a72", func := "moraine/morainelaw15.EqtabFull", spec := "eqtabFull", unfollowed := true, recurses := true, apart := false }
def EqtabFullSaid : Prop := eqtabFullRow.holds Tryz.pinned (OpenSpec.ofChange eqtabFullSpec)

/-- ITS FALSE NEIGHBOUR: 'it returns false'. Refute it at one input. -/
def eqtabFullWrong : ChangeSpec := { name := "eqtabFull", fn := fun _ => fun
  | [d1, d2, d3] => { results := [.lit (.bool false)], args := [d1, d2, d3] }
  | _ => none }
def EqtabFullWrongFalsely : Prop := eqtabFullRow.holds Tryz.pinned (OpenSpec.ofChange eqtabFullWrong)

/-- 'morainelaw15.EqtabNone': WHATEVER THE INPUT: true; the input reads as it did. -/
def eqtabNoneSpec : ChangeSpec := { name := "eqtabNone", fn := fun _ => fun
  | [d1, d2, d3] => { results := [.lit (.bool true)], args := [d1, d2, d3] }
  | _ => none }
def eqtabNoneRow : OpenClaim := { program := "ytiebboaeaoobmaagreat", sum := "7780abeef7bafeca28d04a3a95e2e4232140ad472c1550ea4a973d1208cb7a72", func := "moraine/morainelaw15.EqtabNone", spec := "eqtabNone", unfollowed := true, recurses := true, apart := false }
def EqtabNoneSaid : Prop := eqtabNoneRow.holds Tryz.pinned (OpenSpec.ofChange eqtabNoneSpec)

/-- ITS FALSE NEIGHBOUR: 'it returns false'. Refute it at one input. -/
def eqtabNoneWrong : ChangeSpec := { name := "eqtabNone", fn := fun _ => fun
  | [d1, d2, d3] => { results := [.lit (.bool false)], args := [d1, d2, d3] }
  | _ => none }
def EqtabNoneWrongFalsely : Prop := eqtabNoneRow.holds Tryz.pinned (OpenSpec.ofChange eqtabNoneWrong)

/-- 'morainelaw15.EqtabApart': WHATEVER THE INPUT: true; the input reads as it did. -/
def eqtabApartSpec : ChangeSpec := { name := "eqtabApart", fn := fun _ => fun
  | [d1, d2] => { results := [.lit (.bool true)], args := [d1, d2] }
  | _ => none }
def eqtabApartRow : OpenClaim := { program := "ytiebboaeaoobmaagreat", sum := "7780abeef7bafeca28d04a3a95e2e4232140ad472c1550ea4a973d1208cb7a72", func := "moraine/morainelaw15.EqtabApart", spec := "eqtabApart", unfollowed := true, recurses := true, apart := false }
def EqtabApartSaid : Prop := eqtabApartRow.holds Tryz.pinned (OpenSpec.ofChange eqtabApartSpec)

/-- ITS FALSE NEIGHBOUR: 'it returns false'. Refute it at one input. -/
def eqtabApartWrong : ChangeSpec := { name := "eqtabApart", fn := fun _ => fun
  | [d1, d2] => { results := [.lit (.bool false)], args := [d1, d2] }
  | _ => none }
def EqtabApartWrongFalsely : Prop := eqtabApartRow.holds Tryz.pinned (OpenSpec.ofChange eqtabApartWrong)

/-- 'morainelaw15.EqtabOrder': WHATEVER THE INPUT: true; the input reads as it did. -/
def eqtabOrderSpec : ChangeSpec := { name := "eqtabOrder", fn := fun _ => fun
  | [d1, d2] => { results := [.lit (.bool true)], args := [d1, d2] }
  | _ => none }
def eqtabOrderRow : OpenClaim := { program := "ytiebboaeaoobmaagreat", sum := "7780abeef7bafeca28d04a3a95e2e4232140ad472c1550ea4a973d1208cb7a72", func := "moraine/morainelaw15.EqtabOrder", spec := "eqtabOrder", unfollowed := true, recurses := true, apart := false }
def EqtabOrderSaid : Prop := eqtabOrderRow.holds Tryz.pinned (OpenSpec.ofChange eqtabOrderSpec)

/-- ITS FALSE NEIGHBOUR: 'it returns false'. Refute it at one input. -/
def eqtabOrderWrong : ChangeSpec := { name := "eqtabOrder", fn := fun _ => fun
  | [d1, d2] => { results := [.lit (.bool false)], args := [d1, d2] }
  | _ => none }
def EqtabOrderWrongFalsely : Prop := eqtabOrderRow.holds Tryz.pinned (OpenSpec.ofChange eqtabOrderWrong)

/- THE SECOND FORM. 'bulk': how many values and letters a reading holds, each counted each time it is reached (what is shared counts as often as it is met; a slice's spare places count too). A statement '..UptoSaid' is the law's where the arguments, and the package variables that the reading takes, are together of bulk at most 1048576: NARROWER than '..Said'. Prove '..Said' where nothing that the law and all that it calls make is longer than what came in: it says more and counts as full. Else prove '..UptoSaid'. A law counts once. -/
mutual
def uptoBulk {H : Type} : DataW H → Nat
  | .lit (.string bytes) => bytes.length + 1
  | .lit _ => 1
  | .nil => 1
  | .ptr d => uptoBulk d + 1
  | .slice elems spare => uptoBulkAll elems + uptoBulkAll spare + 1
  | .agg parts => uptoBulkAll parts + 1
  | .iface _ d => uptoBulk d + 1
  | .map entries => uptoBulkEntries entries + 1
  | .held _ => 1
def uptoBulkAll {H : Type} : List (DataW H) → Nat
  | [] => 0
  | d :: r => uptoBulk d + uptoBulkAll r
def uptoBulkEntries {H : Type} : List (Lit × DataW H) → Nat
  | [] => 0
  | x :: r => uptoBulkEntry x + uptoBulkEntries r
def uptoBulkEntry {H : Type} : Lit × DataW H → Nat
  | (.string bytes, d) => bytes.length + uptoBulk d + 1
  | (_, d) => uptoBulk d + 1
 end
def uptoSmall : (H : Type) → List (DataW H) → Bool := fun _ ds => decide (uptoBulkAll ds ≤ 1048576)
def OpenSpec.upto (s : _root_.Go.ChangeSpec) : _root_.Go.OpenSpec := { _root_.Go.OpenSpec.ofChange s with cond := some uptoSmall }

/-- 'morainelaw15.EqtabPlays', WHERE WHAT IT READS IS OF BULK AT MOST 1048576: true; the input reads as it did. -/
def eqtabPlaysUptoRow : OpenClaim := { program := "ytiebboaeaoobmaagreat", sum := "7780abeef7bafeca28d04a3a95e2e4232140ad472c1550ea4a973d1208cb7a72", func := "moraine/morainelaw15.EqtabPlays", spec := "eqtabPlays", unfollowed := true, recurses := true, apart := false, narrowed := true }
def EqtabPlaysUptoSaid : Prop := eqtabPlaysUptoRow.holds Tryz.pinned (OpenSpec.upto eqtabPlaysSpec)

/-- 'morainelaw15.EqtabFull', WHERE WHAT IT READS IS OF BULK AT MOST 1048576: true; the input reads as it did. -/
def eqtabFullUptoRow : OpenClaim := { program := "ytiebboaeaoobmaagreat", sum := "7780abeef7bafeca28d04a3a95e2e4232140ad472c1550ea4a973d1208cb7a72", func := "moraine/morainelaw15.EqtabFull", spec := "eqtabFull", unfollowed := true, recurses := true, apart := false, narrowed := true }
def EqtabFullUptoSaid : Prop := eqtabFullUptoRow.holds Tryz.pinned (OpenSpec.upto eqtabFullSpec)

/-- 'morainelaw15.EqtabNone', WHERE WHAT IT READS IS OF BULK AT MOST 1048576: true; the input reads as it did. -/
def eqtabNoneUptoRow : OpenClaim := { program := "ytiebboaeaoobmaagreat", sum := "7780abeef7bafeca28d04a3a95e2e4232140ad472c1550ea4a973d1208cb7a72", func := "moraine/morainelaw15.EqtabNone", spec := "eqtabNone", unfollowed := true, recurses := true, apart := false, narrowed := true }
def EqtabNoneUptoSaid : Prop := eqtabNoneUptoRow.holds Tryz.pinned (OpenSpec.upto eqtabNoneSpec)

/-- 'morainelaw15.EqtabApart', WHERE WHAT IT READS IS OF BULK AT MOST 1048576: true; the input reads as it did. -/
def eqtabApartUptoRow : OpenClaim := { program := "ytiebboaeaoobmaagreat", sum := "7780abeef7bafeca28d04a3a95e2e4232140ad472c1550ea4a973d1208cb7a72", func := "moraine/morainelaw15.EqtabApart", spec := "eqtabApart", unfollowed := true, recurses := true, apart := false, narrowed := true }
def EqtabApartUptoSaid : Prop := eqtabApartUptoRow.holds Tryz.pinned (OpenSpec.upto eqtabApartSpec)

/-- 'morainelaw15.EqtabOrder', WHERE WHAT IT READS IS OF BULK AT MOST 1048576: true; the input reads as it did. -/
def eqtabOrderUptoRow : OpenClaim := { program := "ytiebboaeaoobmaagreat", sum := "7780abeef7bafeca28d04a3a95e2e4232140ad472c1550ea4a973d1208cb7a72", func := "moraine/morainelaw15.EqtabOrder", spec := "eqtabOrder", unfollowed := true, recurses := true, apart := false, narrowed := true }
def EqtabOrderUptoSaid : Prop := eqtabOrderUptoRow.holds Tryz.pinned (OpenSpec.upto eqtabOrderSpec)

end Rows
end Go.Proofs.YtiebboaeaoobmaaGreat
