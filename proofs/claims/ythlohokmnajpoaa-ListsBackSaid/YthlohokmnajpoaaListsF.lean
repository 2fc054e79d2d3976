/-
  lists: find. Proves nothing of any one statement.
-/
import Derived.Test.YthlohokmnajpoaaListsT
set_option linter.unusedVariables false
set_option linter.unusedSimpArgs false
namespace Go.Proofs.Ythlohokmnajpoaa
open Go

end Go.Proofs.Ythlohokmnajpoaa
