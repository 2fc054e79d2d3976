/-
  Pairs on the heap (package obj): the contracts. Proves nothing of any one statement.
-/
import Derived.Test.YthlohokmnajpoaaGreatDoorThing
import Derived.Test.YthlohokmnajpoaaGreatDoorFnsC
set_option linter.unusedVariables false
set_option linter.unusedSimpArgs false
namespace Go.Proofs.YthlohokmnajpoaaGreatDoor
open Go

def Mem.isPair (m : Mem) (w : Int) : Prop := (m.atW w 1 0 ∨ m.atW w 2 1) ∧ w / 8 % 2 = 0
instance (m : Mem) (w : Int) : Decidable (m.isPair w) := by unfold Mem.isPair; infer_instance
theorem Mem.isPair.addr {m : Mem} {w : Int} (h : m.isPair w) (hw : IsWord w) : 0 ≤ w / 8 ∧ w / 8 < 65536 := by
  have := hw.1
  refine ⟨by omega, ?_⟩
  rcases h.1 with h | h
  · exact h.1.2
  · exact h.1.2
def Mem.sizeOf (m : Mem) (w : Int) : Int := if m.isPair w then 2 else if m.isObj w then m.len w + 1 else 0

end Go.Proofs.YthlohokmnajpoaaGreatDoor
