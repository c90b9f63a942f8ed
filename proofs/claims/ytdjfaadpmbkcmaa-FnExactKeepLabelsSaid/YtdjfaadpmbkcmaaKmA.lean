/- Problems with other labels: lifted. Conditions: none. -/
import Derived.Test.YtdjfaadpmbkcmaaL6
import Derived.Test.YtdjfaadpmbkcmaaRnA
namespace Go.Proofs.Ytdjfaadpmbkcmaa
open Go Dv
set_option linter.unusedSimpArgs false
set_option linter.unusedVariables false
set_option maxRecDepth 100000
set_option maxHeartbeats 4000000

end Go.Proofs.Ytdjfaadpmbkcmaa
