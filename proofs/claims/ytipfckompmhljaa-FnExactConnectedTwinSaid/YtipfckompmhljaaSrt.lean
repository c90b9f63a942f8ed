/- Sorting by insertion, as a plain function. Conditions: the list is short. -/
import Derived.Test.YtipfckompmhljaaL6
import Derived.Test.YtipfckompmhljaaIsP
namespace Go.Proofs.Ytipfckompmhljaa
open Go Dv
set_option linter.unusedSimpArgs false
set_option linter.unusedVariables false
set_option maxRecDepth 100000
set_option maxHeartbeats 4000000
def YH(x:Int):List Int→List Int
 | []=>[x]
 | y::r=>if x<y then y::YH x r else x::y::r
def SB(l:List Int):List Int:=(l.foldl (fun r x=>YH x r) []).reverse
end Go.Proofs.Ytipfckompmhljaa
