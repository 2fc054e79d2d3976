/-
 The segments that are taken, in the order in which they were; how many words they have. Proves nothing of any one statement.
-/
import Derived.Test.YtdgejifkcfgliaaGreatDoorRows
import Derived.Test.YtdgejifkcfgliaaGreatDoorRow
import Derived.Shelf.SlSortCmp.NoneTotal
import Derived.Test.YtdgejifkcfgliaaGreatDoorPair
import Derived.Test.YtdgejifkcfgliaaGreatDoorFnsC
import Derived.Test.YtdgejifkcfgliaaGreatDoorLx
set_option linter.unusedVariables false
set_option linter.unusedSimpArgs false
namespace Go.Proofs.YtdgejifkcfgliaaGreatDoor
open Go

def Mem.takenTo (m : Mem) (gs : List Int) (k : Nat) : List Nat := (List.range k).filter fun i => decide (0 < (m.seg i).taken) && (gs.isEmpty || decide ((m.seg i).gen ∈ gs))
structure IsTaken (m : Mem) (gs : List Int) (l : List Nat) : Prop where
 perm : l.Perm (m.takenTo gs m.limit)
 sorted : l.Pairwise (fun i j => (m.seg i).taken ≤ (m.seg j).taken)
theorem Mem.takenTo_lt {m : Mem} {gs : List Int} {k i : Nat} (h : i ∈ m.takenTo gs k) : i < k := by
 unfold Mem.takenTo at h; rw [List.mem_filter, List.mem_range] at h; exact h.1
theorem Mem.takenTo_len (m : Mem) (gs : List Int) (k : Nat) : (m.takenTo gs k).length ≤ k := by
 unfold Mem.takenTo; refine Nat.le_trans (List.length_filter_le _ _) (by simp)
end Go.Proofs.YtdgejifkcfgliaaGreatDoor
