/- Choices from lists, as plain functions. Conditions: none. -/
import Derived.Test.YtjhjkfoabhplfaaGreatL6
import Derived.Test.YtjhjkfoabhplfaaGreatDt
namespace Go.Proofs.YtjhjkfoabhplfaaGreat
open Go Dv
set_option linter.unusedSimpArgs false
set_option linter.unusedVariables false
set_option maxRecDepth 100000
def U9(good:List Int→Bool):List (List Int)→List Int→Bool
 | [],c=>good c
 | L::Ls,c=>L.any fun a=>U9 good Ls (c++[a])
end Go.Proofs.YtjhjkfoabhplfaaGreat
