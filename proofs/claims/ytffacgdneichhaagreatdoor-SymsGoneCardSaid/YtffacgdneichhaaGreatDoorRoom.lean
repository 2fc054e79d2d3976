/-
 Room for pairs. Proves nothing of any one statement.
-/
import Derived.Test.YtffacgdneichhaaGreatDoorLiveT
set_option linter.unusedVariables false
set_option linter.unusedSimpArgs false
namespace Go.Proofs.YtffacgdneichhaaGreatDoor
open Go

def Sp.room(s:Sp):Int:=32*s.mem.free+(if s.cur 0 0≠0 then(64-(s.mem.seg (s.cur 0 0-1).toNat).n) / 2 else 0)
