/-
  lists: what compares words. Proves nothing of any one statement.
-/
import Derived.Test.YthlohokmnajpoaaListsM
import Derived.Test.YthlohokmnajpoaaLiveT
set_option linter.unusedVariables false
set_option linter.unusedSimpArgs false
namespace Go.Proofs.Ythlohokmnajpoaa
open Go

end Go.Proofs.Ythlohokmnajpoaa
