/-
 A string that is ranged over, runes that become a string, said of heaps. Proves nothing of any one program.
-/
import Derived.Laws.Externs
import Derived.Test.YtgnokbjknicahaaGreatOwn
import Derived.Laws.IdiomStrings
set_option linter.unusedVariables false
set_option linter.unusedSimpArgs false
namespace Go.Proofs.YtgnokbjknicahaaGreat
open Go

def nextN(it:Value)(st:Bool)(ty:TypeId):Sem Next:=do pure (.value (<-Instr.next it st ty))
end Go.Proofs.YtgnokbjknicahaaGreat
