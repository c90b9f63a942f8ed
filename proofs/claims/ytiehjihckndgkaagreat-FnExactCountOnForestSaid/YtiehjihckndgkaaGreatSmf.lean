/- Labels that the other ports of a node support: the program's search, as a plain function. Conditions: those in each lemma. -/
import Derived.Test.YtiehjihckndgkaaGreatL6
import Derived.Test.YtiehjihckndgkaaGreatSmb
namespace Go.Proofs.YtiehjihckndgkaaGreat
open Go Dv
set_option linter.unusedSimpArgs false
set_option linter.unusedVariables false
set_option maxRecDepth 100000
end Go.Proofs.YtiehjihckndgkaaGreat
