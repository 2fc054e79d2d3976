/-
  No cell of these rows narrows 'for every input' (looked for: loops, veiled, ifaces, maps, wideKeys, modest, calm, conditions, laid).
  DERIVED. THE GIVEN ROWS OF THIS SEAT. 4 by the template 'for every input the law returns true; each argument reads behind the call as it read before'; 0 by the template 'total and deterministic' (their statements: YtojbbgcjiaphjaaGreatTotals.lean).
  GIVEN WITH THE SEED: the statements are not yours to turn. If you find one false, say at which input.
  Laid BY PROGRAM, IN A SANDBOX (cutbox-rows.mjs): the forced cells as the released guide's own fill.sh prints them over the translation 2227e9e9ee8670d4… (all of the seat's roots in one cut). By AI agents, Wed Nov 11 2026. No macro, syntax, notation, axiom, sorry.
-/
import Derived.Test.YtojbbgcjiaphjaaGreatChecked
import GoSem.Claim
import GoSem.ClaimJoined
import GoSem.ClaimMapViews
import Derived.JoinedTies
import Derived.KernelRfl
namespace Go.Proofs.YtojbbgcjiaphjaaGreat
/- THE CELL 'sum', in the pinned program and in every row, IS THE sha256 OF THE DUMP (.gsa) THAT YtojbbgcjiaphjaaGreatProg.lean LOADS. Nothing in Lean hashes anything: it is a label: what it is worth is what the hold of that sum in a sandbox is worth. -/
noncomputable def Tryz.pinned : Pinned := { name := "ytojbbgcjiaphjaagreat", sum := "2227e9e9ee8670d4dd7864571d1013762ac3a6ee98fdd1c8126ff680f4d1aacc", checked := Tryz.checked }
namespace Rows
def none {H : Type} : Left H := { results := [], args := [] }

/-- 'morainelaw14.AuditSame': WHATEVER THE INPUT: true; the input reads as it did. -/
def auditSameSpec : ChangeSpec := { name := "auditSame", fn := fun _ => fun
  | [d1, d2] => { results := [.lit (.bool true)], args := [d1, d2] }
  | _ => none }
def auditSameRow : OpenClaim := { program := "ytojbbgcjiaphjaagreat", sum := "2227e9e9ee8670d4dd7864571d1013762ac3a6ee98fdd1c8126ff680f4d1aacc", func := "moraine/morainelaw14.AuditSame", spec := "auditSame", unfollowed := true, recurses := true, apart := false }
def AuditSameSaid : Prop := auditSameRow.holds Tryz.pinned (OpenSpec.ofChange auditSameSpec)

/-- ITS FALSE NEIGHBOUR: 'it returns false'. Refute it at one input. -/
def auditSameWrong : ChangeSpec := { name := "auditSame", fn := fun _ => fun
  | [d1, d2] => { results := [.lit (.bool false)], args := [d1, d2] }
  | _ => none }
def AuditSameWrongFalsely : Prop := auditSameRow.holds Tryz.pinned (OpenSpec.ofChange auditSameWrong)

/-- 'morainelaw14.AuditSound': WHATEVER THE INPUT: true; the input reads as it did. -/
def auditSoundSpec : ChangeSpec := { name := "auditSound", fn := fun _ => fun
  | [d1, d2] => { results := [.lit (.bool true)], args := [d1, d2] }
  | _ => none }
def auditSoundRow : OpenClaim := { program := "ytojbbgcjiaphjaagreat", sum := "2227e9e9ee8670d4dd7864571d1013762ac3a6ee98fdd1c8126ff680f4d1aacc", func := "moraine/morainelaw14.AuditSound", spec := "auditSound", unfollowed := true, recurses := true, apart := false }
def AuditSoundSaid : Prop := auditSoundRow.holds Tryz.pinned (OpenSpec.ofChange auditSoundSpec)

/-- ITS FALSE NEIGHBOUR: 'it returns false'. Refute it at one input. -/
def auditSoundWrong : ChangeSpec := { name := "auditSound", fn := fun _ => fun
  | [d1, d2] => { results := [.lit (.bool false)], args := [d1, d2] }
  | _ => none }
def AuditSoundWrongFalsely : Prop := auditSoundRow.holds Tryz.pinned (OpenSpec.ofChange auditSoundWrong)

/-- 'morainelaw14.AuditLive': WHATEVER THE INPUT: true; the input reads as it did. -/
def auditLiveSpec : ChangeSpec := { name := "auditLive", fn := fun _ => fun
  | [d1, d2] => { results := [.lit (.bool true)], args := [d1, d2] }
  | _ => none }
def auditLiveRow : OpenClaim := { program := "ytojbbgcjiaphjaagreat", sum := "2227e9e9ee8670d4dd7864571d1013762ac3a6ee98fdd1c8126ff680f4d1aacc", func := "moraine/morainelaw14.AuditLive", spec := "auditLive", unfollowed := true, recurses := true, apart := false }
def AuditLiveSaid : Prop := auditLiveRow.holds Tryz.pinned (OpenSpec.ofChange auditLiveSpec)

/-- ITS FALSE NEIGHBOUR: 'it returns false'. Refute it at one input. -/
def auditLiveWrong : ChangeSpec := { name := "auditLive", fn := fun _ => fun
  | [d1, d2] => { results := [.lit (.bool false)], args := [d1, d2] }
  | _ => none }
def AuditLiveWrongFalsely : Prop := auditLiveRow.holds Tryz.pinned (OpenSpec.ofChange auditLiveWrong)

/-- 'morainelaw14.AuditMoves': WHATEVER THE INPUT: true; the input reads as it did. -/
def auditMovesSpec : ChangeSpec := { name := "auditMoves", fn := fun _ => fun
  | [d1, d2] => { results := [.lit (.bool true)], args := [d1, d2] }
  | _ => none }
def auditMovesRow : OpenClaim := { program := "ytojbbgcjiaphjaagreat", sum := "2227e9e9ee8670d4dd7864571d1013762ac3a6ee98fdd1c8126ff680f4d1aacc", func := "moraine/morainelaw14.AuditMoves", spec := "auditMoves", unfollowed := true, recurses := true, apart := false }
def AuditMovesSaid : Prop := auditMovesRow.holds Tryz.pinned (OpenSpec.ofChange auditMovesSpec)

/-- ITS FALSE NEIGHBOUR: 'it returns false'. Refute it at one input. -/
def auditMovesWrong : ChangeSpec := { name := "auditMoves", fn := fun _ => fun
  | [d1, d2] => { results := [.lit (.bool false)], args := [d1, d2] }
  | _ => none }
def AuditMovesWrongFalsely : Prop := auditMovesRow.holds Tryz.pinned (OpenSpec.ofChange auditMovesWrong)

/- THE SECOND FORM. 'bulk': how many values and letters a reading holds, each counted each time it is reached (what is shared counts as often as it is met; a slice's spare places count too). A statement '..UptoSaid' is the law's where the arguments, and the package variables that the reading takes, are together of bulk at most 1048576: NARROWER than '..Said'. Prove '..Said' where nothing that the law and all that it calls make is longer than what came in: it says more and counts as full. Else prove '..UptoSaid'. A law counts once. -/
mutual
def uptoBulk {H : Type} : DataW H → Nat
  | .lit (.string bytes) => bytes.length + 1
  | .lit _ => 1
  | .nil => 1
  | .ptr d => uptoBulk d + 1
  | .slice elems spare => uptoBulkAll elems + uptoBulkAll spare + 1
  | .agg parts => uptoBulkAll parts + 1
  | .iface _ d => uptoBulk d + 1
  | .map entries => uptoBulkEntries entries + 1
  | .held _ => 1
def uptoBulkAll {H : Type} : List (DataW H) → Nat
  | [] => 0
  | d :: r => uptoBulk d + uptoBulkAll r
def uptoBulkEntries {H : Type} : List (Lit × DataW H) → Nat
  | [] => 0
  | x :: r => uptoBulkEntry x + uptoBulkEntries r
def uptoBulkEntry {H : Type} : Lit × DataW H → Nat
  | (.string bytes, d) => bytes.length + uptoBulk d + 1
  | (_, d) => uptoBulk d + 1
 end
def uptoSmall : (H : Type) → List (DataW H) → Bool := fun _ ds => decide (uptoBulkAll ds ≤ 1048576)
def OpenSpec.upto (s : _root_.Go.ChangeSpec) : _root_.Go.OpenSpec := { _root_.Go.OpenSpec.ofChange s with cond := some uptoSmall }

/-- 'morainelaw14.AuditSame', WHERE WHAT IT READS IS OF BULK AT MOST 1048576: true; the input reads as it did. -/
def auditSameUptoRow : OpenClaim := { program := "ytojbbgcjiaphjaagreat", sum := "2227e9e9ee8670d4dd7864571d1013762ac3a6ee98fdd1c8126ff680f4d1aacc", func := "moraine/morainelaw14.AuditSame", spec := "auditSame", unfollowed := true, recurses := true, apart := false, narrowed := true }
def AuditSameUptoSaid : Prop := auditSameUptoRow.holds Tryz.pinned (OpenSpec.upto auditSameSpec)

/-- 'morainelaw14.AuditSound', WHERE WHAT IT READS IS OF BULK AT MOST 1048576: true; the input reads as it did. -/
def auditSoundUptoRow : OpenClaim := { program := "ytojbbgcjiaphjaagreat", sum := "2227e9e9ee8670d4dd7864571d1013762ac3a6ee98fdd1c8126ff680f4d1aacc", func := "moraine/morainelaw14.AuditSound", spec := "auditSound", unfollowed := true, recurses := true, apart := false, narrowed := true }
def AuditSoundUptoSaid : Prop := auditSoundUptoRow.holds Tryz.pinned (OpenSpec.upto auditSoundSpec)

/-- 'morainelaw14.AuditLive', WHERE WHAT IT READS IS OF BULK AT MOST 1048576: true; the input reads as it did. -/
def auditLiveUptoRow : OpenClaim := { program := "ytojbbgcjiaphjaagreat", sum := "2227e9e9ee8670d4dd7864571d1013762ac3a6ee98fdd1c8126ff680f4d1aacc", func := "moraine/morainelaw14.AuditLive", spec := "auditLive", unfollowed := true, recurses := true, apart := false, narrowed := true }
def AuditLiveUptoSaid : Prop := auditLiveUptoRow.holds Tryz.pinned (OpenSpec.upto auditLiveSpec)

/-- 'morainelaw14.AuditMoves', WHERE WHAT IT READS IS OF BULK AT MOST 1048576: true; the input reads as it did. -/
def auditMovesUptoRow : OpenClaim := { program := "ytojbbgcjiaphjaagreat", sum := "2227e9e9ee8670d4dd7864571d1013762ac3a6ee98fdd1c8126ff680f4d1aacc", func := "moraine/morainelaw14.AuditMoves", spec := "auditMoves", unfollowed := true, recurses := true, apart := false, narrowed := true }
def AuditMovesUptoSaid : Prop := auditMovesUptoRow.holds Tryz.pinned (OpenSpec.upto auditMovesSpec)

end Rows
end Go.Proofs.YtojbbgcjiaphjaaGreat
