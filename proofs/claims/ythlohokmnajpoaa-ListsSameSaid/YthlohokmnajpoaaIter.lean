/-
  A string that is ranged over, runes that become a string, said of heaps. Proves nothing of any one program.
-/
import Derived.Test.YthlohokmnajpoaaOwn
import Derived.Laws.IdiomStrings
set_option linter.unusedVariables false
set_option linter.unusedSimpArgs false
namespace Go.Proofs.Ythlohokmnajpoaa
open Go

end Go.Proofs.Ythlohokmnajpoaa
