/-
  Strings, vectors on the heap (package obj): the contracts. Proves nothing of any one statement.
-/
import Derived.Test.YthlohokmnajpoaaGreatPair
import Derived.Test.YthlohokmnajpoaaGreatFnsC
import Derived.Test.YthlohokmnajpoaaGreatRow
import Derived.Laws.RangeAny
set_option linter.unusedVariables false
set_option linter.unusedSimpArgs false
namespace Go.Proofs.YthlohokmnajpoaaGreat
open Go

def Mem.objWords (m : Mem) (w : Int) : List Int := (List.range (m.len w).toNat).map fun (i : Nat) => m.get (w / 8 + 1 + (i : Int))
theorem Mem.objWords_len (m : Mem) (w : Int) : (m.objWords w).length = (m.len w).toNat := by unfold Mem.objWords; simp
theorem Mem.objWords_get (m : Mem) (w : Int) {i : Nat} (h : i < (m.objWords w).length) : (m.objWords w)[i] = m.get (w / 8 + 1 + (i : Int)) := by simp [Mem.objWords]
theorem Thing.words {m : Mem} {w kind more : Int} {ws : List Int} (h : Thing m w kind more ws) : m.objWords w = ws := by
  refine List.ext_getElem (by rw [Mem.objWords_len, h.len]; omega) fun i h1 h2 => ?_
  rw [Mem.objWords_get]
  exact h.get i h2
end Go.Proofs.YthlohokmnajpoaaGreat
