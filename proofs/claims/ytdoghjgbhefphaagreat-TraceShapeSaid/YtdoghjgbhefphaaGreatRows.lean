/-
  No cell of these rows narrows 'for every input' (looked for: loops, veiled, ifaces, maps, wideKeys, modest, calm, conditions, laid).
  DERIVED. THE GIVEN ROWS OF THIS SEAT. 3 by the template 'for every input the law returns true; each argument reads behind the call as it read before'; 0 by the template 'total and deterministic' (their statements: YtdoghjgbhefphaaGreatTotals.lean).
  GIVEN WITH THE SEED: the statements are not yours to turn. If you find one false, say at which input.
  Laid BY PROGRAM, IN A SANDBOX (cutbox-rows.mjs): the forced cells as the released guide's own fill.sh prints them over the translation e4cd344270f58776… (all of the seat's roots in one cut). By AI agents, Wed Nov 11 2026. No macro, syntax, notation, axiom, sorry.
-/
import Derived.Test.YtdoghjgbhefphaaGreatChecked
import GoSem.Claim
import GoSem.ClaimJoined
import GoSem.ClaimMapViews
import Derived.JoinedTies
import Derived.KernelRfl
namespace Go.Proofs.YtdoghjgbhefphaaGreat
/- THE CELL 'sum', in the pinned program and in every row, IS THE sha256 OF THE DUMP (.gsa) THAT YtdoghjgbhefphaaGreatProg.lean LOADS. Nothing in Lean hashes anything: it is a label: what it is worth is what the hold of that sum in a sandbox is worth. -/
noncomputable def Tryz.pinned : Pinned := { name := "ytdoghjgbhefphaagreat", sum := "e4cd344270f5877639d5e805cf35d943d860ba9f36f78b437aaa959083cb2138", checked := Tryz.checked }
namespace Rows
def none {H : Type} : Left H := { results := [], args := [] }

/-- 'morainelaw14.AuditSame': WHATEVER THE INPUT: true; the input reads as it did. -/
def auditSameSpec : ChangeSpec := { name := "auditSame", fn := fun _ => fun
  | [d1, d2] => { results := [.lit (.bool true)], args := [d1, d2] }
  | _ => none }
def auditSameRow : OpenClaim := { program := "ytdoghjgbhefphaagreat", sum := "e4cd344270f5877639d5e805cf35d943d860ba9f36f78b437aaa959083cb2138", func := "moraine/morainelaw14.AuditSame", spec := "auditSame", unfollowed := true, recurses := true, apart := false }
def AuditSameSaid : Prop := auditSameRow.holds Tryz.pinned (OpenSpec.ofChange auditSameSpec)

/-- ITS FALSE NEIGHBOUR: 'it returns false'. Refute it at one input. -/
def auditSameWrong : ChangeSpec := { name := "auditSame", fn := fun _ => fun
  | [d1, d2] => { results := [.lit (.bool false)], args := [d1, d2] }
  | _ => none }
def AuditSameWrongFalsely : Prop := auditSameRow.holds Tryz.pinned (OpenSpec.ofChange auditSameWrong)

/-- 'morainelaw10.ObjPlays': WHATEVER THE INPUT: true; the input reads as it did. -/
def objPlaysSpec : ChangeSpec := { name := "objPlays", fn := fun _ => fun
  | [d1, d2] => { results := [.lit (.bool true)], args := [d1, d2] }
  | _ => none }
def objPlaysRow : OpenClaim := { program := "ytdoghjgbhefphaagreat", sum := "e4cd344270f5877639d5e805cf35d943d860ba9f36f78b437aaa959083cb2138", func := "moraine/morainelaw10.ObjPlays", spec := "objPlays", unfollowed := true, recurses := true, apart := false }
def ObjPlaysSaid : Prop := objPlaysRow.holds Tryz.pinned (OpenSpec.ofChange objPlaysSpec)

/-- ITS FALSE NEIGHBOUR: 'it returns false'. Refute it at one input. -/
def objPlaysWrong : ChangeSpec := { name := "objPlays", fn := fun _ => fun
  | [d1, d2] => { results := [.lit (.bool false)], args := [d1, d2] }
  | _ => none }
def ObjPlaysWrongFalsely : Prop := objPlaysRow.holds Tryz.pinned (OpenSpec.ofChange objPlaysWrong)

/-- 'morainelaw11.TraceShape': WHATEVER THE INPUT: true; the input reads as it did. -/
def traceShapeSpec : ChangeSpec := { name := "traceShape", fn := fun _ => fun
  | [d1, d2] => { results := [.lit (.bool true)], args := [d1, d2] }
  | _ => none }
def traceShapeRow : OpenClaim := { program := "ytdoghjgbhefphaagreat", sum := "e4cd344270f5877639d5e805cf35d943d860ba9f36f78b437aaa959083cb2138", func := "moraine/morainelaw11.TraceShape", spec := "traceShape", unfollowed := true, recurses := true, apart := false }
def TraceShapeSaid : Prop := traceShapeRow.holds Tryz.pinned (OpenSpec.ofChange traceShapeSpec)

/-- ITS FALSE NEIGHBOUR: 'it returns false'. Refute it at one input. -/
def traceShapeWrong : ChangeSpec := { name := "traceShape", fn := fun _ => fun
  | [d1, d2] => { results := [.lit (.bool false)], args := [d1, d2] }
  | _ => none }
def TraceShapeWrongFalsely : Prop := traceShapeRow.holds Tryz.pinned (OpenSpec.ofChange traceShapeWrong)

/- THE SECOND FORM. 'bulk': how many values and letters a reading holds, each counted each time it is reached (what is shared counts as often as it is met; a slice's spare places count too). A statement '..UptoSaid' is the law's where the arguments, and the package variables that the reading takes, are together of bulk at most 1048576: NARROWER than '..Said'. Prove '..Said' where nothing that the law and all that it calls make is longer than what came in: it says more and counts as full. Else prove '..UptoSaid'. A law counts once. -/
mutual
def uptoBulk {H : Type} : DataW H → Nat
  | .lit (.string bytes) => bytes.length + 1
  | .lit _ => 1
  | .nil => 1
  | .ptr d => uptoBulk d + 1
  | .slice elems spare => uptoBulkAll elems + uptoBulkAll spare + 1
  | .agg parts => uptoBulkAll parts + 1
  | .iface _ d => uptoBulk d + 1
  | .map entries => uptoBulkEntries entries + 1
  | .held _ => 1
def uptoBulkAll {H : Type} : List (DataW H) → Nat
  | [] => 0
  | d :: r => uptoBulk d + uptoBulkAll r
def uptoBulkEntries {H : Type} : List (Lit × DataW H) → Nat
  | [] => 0
  | x :: r => uptoBulkEntry x + uptoBulkEntries r
def uptoBulkEntry {H : Type} : Lit × DataW H → Nat
  | (.string bytes, d) => bytes.length + uptoBulk d + 1
  | (_, d) => uptoBulk d + 1
 end
def uptoSmall : (H : Type) → List (DataW H) → Bool := fun _ ds => decide (uptoBulkAll ds ≤ 1048576)
def OpenSpec.upto (s : _root_.Go.ChangeSpec) : _root_.Go.OpenSpec := { _root_.Go.OpenSpec.ofChange s with cond := some uptoSmall }

/-- 'morainelaw14.AuditSame', WHERE WHAT IT READS IS OF BULK AT MOST 1048576: true; the input reads as it did. -/
def auditSameUptoRow : OpenClaim := { program := "ytdoghjgbhefphaagreat", sum := "e4cd344270f5877639d5e805cf35d943d860ba9f36f78b437aaa959083cb2138", func := "moraine/morainelaw14.AuditSame", spec := "auditSame", unfollowed := true, recurses := true, apart := false, narrowed := true }
def AuditSameUptoSaid : Prop := auditSameUptoRow.holds Tryz.pinned (OpenSpec.upto auditSameSpec)

/-- 'morainelaw10.ObjPlays', WHERE WHAT IT READS IS OF BULK AT MOST 1048576: true; the input reads as it did. -/
def objPlaysUptoRow : OpenClaim := { program := "ytdoghjgbhefphaagreat", sum := "e4cd344270f5877639d5e805cf35d943d860ba9f36f78b437aaa959083cb2138", func := "moraine/morainelaw10.ObjPlays", spec := "objPlays", unfollowed := true, recurses := true, apart := false, narrowed := true }
def ObjPlaysUptoSaid : Prop := objPlaysUptoRow.holds Tryz.pinned (OpenSpec.upto objPlaysSpec)

/-- 'morainelaw11.TraceShape', WHERE WHAT IT READS IS OF BULK AT MOST 1048576: true; the input reads as it did. -/
def traceShapeUptoRow : OpenClaim := { program := "ytdoghjgbhefphaagreat", sum := "e4cd344270f5877639d5e805cf35d943d860ba9f36f78b437aaa959083cb2138", func := "moraine/morainelaw11.TraceShape", spec := "traceShape", unfollowed := true, recurses := true, apart := false, narrowed := true }
def TraceShapeUptoSaid : Prop := traceShapeUptoRow.holds Tryz.pinned (OpenSpec.upto traceShapeSpec)

end Rows
end Go.Proofs.YtdoghjgbhefphaaGreat
