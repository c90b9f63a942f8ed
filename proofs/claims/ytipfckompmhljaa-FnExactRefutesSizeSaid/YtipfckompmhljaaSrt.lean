/- Sorting by insertion, as a plain function. Conditions: the list is short. -/
import Derived.Test.YtipfckompmhljaaL6
import Derived.Test.YtipfckompmhljaaIsP
namespace Go.Proofs.Ytipfckompmhljaa
open Go Dv
set_option linter.unusedSimpArgs false
set_option linter.unusedVariables false
set_option maxRecDepth 100000
set_option maxHeartbeats 4000000

/-- A number put into a list, from the back. -/
def insR (x : Int) : List Int → List Int
 | [] => [x]
 | y :: r => if x < y then y :: insR x r else x :: y :: r
/-- The list sorted. -/
def sortI (l : List Int) : List Int := (l.foldl (fun r x => insR x r) []).reverse
end Go.Proofs.Ytipfckompmhljaa
