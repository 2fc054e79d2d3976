/-
  No cell of these rows narrows 'for every input' (looked for: loops, veiled, ifaces, maps, wideKeys, modest, calm, conditions, laid).
  DERIVED. THE GIVEN ROWS OF THIS SEAT. 5 by the template 'for every input the law returns true; each argument reads behind the call as it read before'; 0 by the template 'total and deterministic' (their statements: YtfhbhckhmnleoaaGreatTotals.lean).
  GIVEN WITH THE SEED: the statements are not yours to turn. If you find one false, say at which input.
  Laid BY PROGRAM, IN A SANDBOX (cutbox-rows.mjs): the forced cells as the released guide's own fill.sh prints them over the translation 80226a764f43a03b… (all of the seat's roots in one cut). By AI agents, Wed Nov 11 2026. No macro, syntax, notation, axiom, sorry.
-/
import Derived.Test.YtfhbhckhmnleoaaGreatChecked
import GoSem.Claim
import GoSem.ClaimJoined
import GoSem.ClaimMapViews
import Derived.JoinedTies
import Derived.KernelRfl
namespace Go.Proofs.YtfhbhckhmnleoaaGreat
/- THE CELL 'sum', in the pinned program and in every row, IS THE sha256 OF THE DUMP (.gsa) THAT YtfhbhckhmnleoaaGreatProg.lean LOADS. Nothing in Lean hashes anything: it is a label: what it is worth is what the hold of that sum in a sandbox is worth. -/
noncomputable def Tryz.pinned : Pinned := { name := "ytfhbhckhmnleoaagreat", sum := "80226a764f43a03bd484534827723dd8a977c8333df33b33eaf5611668f644ec", checked := Tryz.checked }
namespace Rows
def none {H : Type} : Left H := { results := [], args := [] }

/-- 'morainelaw12.WeakOrder': WHATEVER THE INPUT: true; the input reads as it did. -/
def weakOrderSpec : ChangeSpec := { name := "weakOrder", fn := fun _ => fun
  | [d1, d2] => { results := [.lit (.bool true)], args := [d1, d2] }
  | _ => none }
def weakOrderRow : OpenClaim := { program := "ytfhbhckhmnleoaagreat", sum := "80226a764f43a03bd484534827723dd8a977c8333df33b33eaf5611668f644ec", func := "moraine/morainelaw12.WeakOrder", spec := "weakOrder", unfollowed := true, recurses := true, apart := false }
def WeakOrderSaid : Prop := weakOrderRow.holds Tryz.pinned (OpenSpec.ofChange weakOrderSpec)

/-- ITS FALSE NEIGHBOUR: 'it returns false'. Refute it at one input. -/
def weakOrderWrong : ChangeSpec := { name := "weakOrder", fn := fun _ => fun
  | [d1, d2] => { results := [.lit (.bool false)], args := [d1, d2] }
  | _ => none }
def WeakOrderWrongFalsely : Prop := weakOrderRow.holds Tryz.pinned (OpenSpec.ofChange weakOrderWrong)

/-- 'morainelaw12.WeakBroken': WHATEVER THE INPUT: true; the input reads as it did. -/
def weakBrokenSpec : ChangeSpec := { name := "weakBroken", fn := fun _ => fun
  | [d1, d2, d3] => { results := [.lit (.bool true)], args := [d1, d2, d3] }
  | _ => none }
def weakBrokenRow : OpenClaim := { program := "ytfhbhckhmnleoaagreat", sum := "80226a764f43a03bd484534827723dd8a977c8333df33b33eaf5611668f644ec", func := "moraine/morainelaw12.WeakBroken", spec := "weakBroken", unfollowed := true, recurses := true, apart := false }
def WeakBrokenSaid : Prop := weakBrokenRow.holds Tryz.pinned (OpenSpec.ofChange weakBrokenSpec)

/-- ITS FALSE NEIGHBOUR: 'it returns false'. Refute it at one input. -/
def weakBrokenWrong : ChangeSpec := { name := "weakBroken", fn := fun _ => fun
  | [d1, d2, d3] => { results := [.lit (.bool false)], args := [d1, d2, d3] }
  | _ => none }
def WeakBrokenWrongFalsely : Prop := weakBrokenRow.holds Tryz.pinned (OpenSpec.ofChange weakBrokenWrong)

/-- 'morainelaw12.WeakGuards': WHATEVER THE INPUT: true; the input reads as it did. -/
def weakGuardsSpec : ChangeSpec := { name := "weakGuards", fn := fun _ => fun
  | [d1, d2] => { results := [.lit (.bool true)], args := [d1, d2] }
  | _ => none }
def weakGuardsRow : OpenClaim := { program := "ytfhbhckhmnleoaagreat", sum := "80226a764f43a03bd484534827723dd8a977c8333df33b33eaf5611668f644ec", func := "moraine/morainelaw12.WeakGuards", spec := "weakGuards", unfollowed := true, recurses := true, apart := false }
def WeakGuardsSaid : Prop := weakGuardsRow.holds Tryz.pinned (OpenSpec.ofChange weakGuardsSpec)

/-- ITS FALSE NEIGHBOUR: 'it returns false'. Refute it at one input. -/
def weakGuardsWrong : ChangeSpec := { name := "weakGuards", fn := fun _ => fun
  | [d1, d2] => { results := [.lit (.bool false)], args := [d1, d2] }
  | _ => none }
def WeakGuardsWrongFalsely : Prop := weakGuardsRow.holds Tryz.pinned (OpenSpec.ofChange weakGuardsWrong)

/-- 'morainelaw14.AuditSound': WHATEVER THE INPUT: true; the input reads as it did. -/
def auditSoundSpec : ChangeSpec := { name := "auditSound", fn := fun _ => fun
  | [d1, d2] => { results := [.lit (.bool true)], args := [d1, d2] }
  | _ => none }
def auditSoundRow : OpenClaim := { program := "ytfhbhckhmnleoaagreat", sum := "80226a764f43a03bd484534827723dd8a977c8333df33b33eaf5611668f644ec", func := "moraine/morainelaw14.AuditSound", spec := "auditSound", unfollowed := true, recurses := true, apart := false }
def AuditSoundSaid : Prop := auditSoundRow.holds Tryz.pinned (OpenSpec.ofChange auditSoundSpec)

/-- ITS FALSE NEIGHBOUR: 'it returns false'. Refute it at one input. -/
def auditSoundWrong : ChangeSpec := { name := "auditSound", fn := fun _ => fun
  | [d1, d2] => { results := [.lit (.bool false)], args := [d1, d2] }
  | _ => none }
def AuditSoundWrongFalsely : Prop := auditSoundRow.holds Tryz.pinned (OpenSpec.ofChange auditSoundWrong)

/-- 'morainelaw14.AuditLive': WHATEVER THE INPUT: true; the input reads as it did. -/
def auditLiveSpec : ChangeSpec := { name := "auditLive", fn := fun _ => fun
  | [d1, d2] => { results := [.lit (.bool true)], args := [d1, d2] }
  | _ => none }
def auditLiveRow : OpenClaim := { program := "ytfhbhckhmnleoaagreat", sum := "80226a764f43a03bd484534827723dd8a977c8333df33b33eaf5611668f644ec", func := "moraine/morainelaw14.AuditLive", spec := "auditLive", unfollowed := true, recurses := true, apart := false }
def AuditLiveSaid : Prop := auditLiveRow.holds Tryz.pinned (OpenSpec.ofChange auditLiveSpec)

/-- ITS FALSE NEIGHBOUR: 'it returns false'. Refute it at one input. -/
def auditLiveWrong : ChangeSpec := { name := "auditLive", fn := fun _ => fun
  | [d1, d2] => { results := [.lit (.bool false)], args := [d1, d2] }
  | _ => none }
def AuditLiveWrongFalsely : Prop := auditLiveRow.holds Tryz.pinned (OpenSpec.ofChange auditLiveWrong)

/- THE SECOND FORM. 'bulk': how many values and letters a reading holds, each counted each time it is reached (what is shared counts as often as it is met; a slice's spare places count too). A statement '..UptoSaid' is the law's where the arguments, and the package variables that the reading takes, are together of bulk at most 1048576: NARROWER than '..Said'. Prove '..Said' where nothing that the law and all that it calls make is longer than what came in: it says more and counts as full. Else prove '..UptoSaid'. A law counts once. -/
mutual
def uptoBulk {H : Type} : DataW H → Nat
  | .lit (.string bytes) => bytes.length + 1
  | .lit _ => 1
  | .nil => 1
  | .ptr d => uptoBulk d + 1
  | .slice elems spare => uptoBulkAll elems + uptoBulkAll spare + 1
  | .agg parts => uptoBulkAll parts + 1
  | .iface _ d => uptoBulk d + 1
  | .map entries => uptoBulkEntries entries + 1
  | .held _ => 1
def uptoBulkAll {H : Type} : List (DataW H) → Nat
  | [] => 0
  | d :: r => uptoBulk d + uptoBulkAll r
def uptoBulkEntries {H : Type} : List (Lit × DataW H) → Nat
  | [] => 0
  | x :: r => uptoBulkEntry x + uptoBulkEntries r
def uptoBulkEntry {H : Type} : Lit × DataW H → Nat
  | (.string bytes, d) => bytes.length + uptoBulk d + 1
  | (_, d) => uptoBulk d + 1
 end
def uptoSmall : (H : Type) → List (DataW H) → Bool := fun _ ds => decide (uptoBulkAll ds ≤ 1048576)
def OpenSpec.upto (s : _root_.Go.ChangeSpec) : _root_.Go.OpenSpec := { _root_.Go.OpenSpec.ofChange s with cond := some uptoSmall }

/-- 'morainelaw12.WeakOrder', WHERE WHAT IT READS IS OF BULK AT MOST 1048576: true; the input reads as it did. -/
def weakOrderUptoRow : OpenClaim := { program := "ytfhbhckhmnleoaagreat", sum := "80226a764f43a03bd484534827723dd8a977c8333df33b33eaf5611668f644ec", func := "moraine/morainelaw12.WeakOrder", spec := "weakOrder", unfollowed := true, recurses := true, apart := false, narrowed := true }
def WeakOrderUptoSaid : Prop := weakOrderUptoRow.holds Tryz.pinned (OpenSpec.upto weakOrderSpec)

/-- 'morainelaw12.WeakBroken', WHERE WHAT IT READS IS OF BULK AT MOST 1048576: true; the input reads as it did. -/
def weakBrokenUptoRow : OpenClaim := { program := "ytfhbhckhmnleoaagreat", sum := "80226a764f43a03bd484534827723dd8a977c8333df33b33eaf5611668f644ec", func := "moraine/morainelaw12.WeakBroken", spec := "weakBroken", unfollowed := true, recurses := true, apart := false, narrowed := true }
def WeakBrokenUptoSaid : Prop := weakBrokenUptoRow.holds Tryz.pinned (OpenSpec.upto weakBrokenSpec)

/-- 'morainelaw12.WeakGuards', WHERE WHAT IT READS IS OF BULK AT MOST 1048576: true; the input reads as it did. -/
def weakGuardsUptoRow : OpenClaim := { program := "ytfhbhckhmnleoaagreat", sum := "80226a764f43a03bd484534827723dd8a977c8333df33b33eaf5611668f644ec", func := "moraine/morainelaw12.WeakGuards", spec := "weakGuards", unfollowed := true, recurses := true, apart := false, narrowed := true }
def WeakGuardsUptoSaid : Prop := weakGuardsUptoRow.holds Tryz.pinned (OpenSpec.upto weakGuardsSpec)

/-- 'morainelaw14.AuditSound', WHERE WHAT IT READS IS OF BULK AT MOST 1048576: true; the input reads as it did. -/
def auditSoundUptoRow : OpenClaim := { program := "ytfhbhckhmnleoaagreat", sum := "80226a764f43a03bd484534827723dd8a977c8333df33b33eaf5611668f644ec", func := "moraine/morainelaw14.AuditSound", spec := "auditSound", unfollowed := true, recurses := true, apart := false, narrowed := true }
def AuditSoundUptoSaid : Prop := auditSoundUptoRow.holds Tryz.pinned (OpenSpec.upto auditSoundSpec)

/-- 'morainelaw14.AuditLive', WHERE WHAT IT READS IS OF BULK AT MOST 1048576: true; the input reads as it did. -/
def auditLiveUptoRow : OpenClaim := { program := "ytfhbhckhmnleoaagreat", sum := "80226a764f43a03bd484534827723dd8a977c8333df33b33eaf5611668f644ec", func := "moraine/morainelaw14.AuditLive", spec := "auditLive", unfollowed := true, recurses := true, apart := false, narrowed := true }
def AuditLiveUptoSaid : Prop := auditLiveUptoRow.holds Tryz.pinned (OpenSpec.upto auditLiveSpec)

end Rows
end Go.Proofs.YtfhbhckhmnleoaaGreat
