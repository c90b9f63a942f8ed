/- Sorting by insertion, as a plain function. Conditions: the list is short. -/
import Derived.Test.YtjjahjjhohcidaaL6
import Derived.Test.YtjjahjjhohcidaaIsP
namespace Go.Proofs.Ytjjahjjhohcidaa
open Go Dv
set_option linter.unusedSimpArgs false
set_option linter.unusedVariables false
set_option maxRecDepth 100000
set_option maxHeartbeats 4000000
def Mp(x:Int):List Int→List Int
 | []=>[x]
 | y::r=>if x<y then y::Mp x r else x::y::r
def Ix(l:List Int):List Int:=(l.foldl (fun r x=>Mp x r) []).reverse
end Go.Proofs.Ytjjahjjhohcidaa
