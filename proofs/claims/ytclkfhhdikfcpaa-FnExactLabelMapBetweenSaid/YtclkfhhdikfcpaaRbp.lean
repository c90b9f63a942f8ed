/- Searches for renamings, as plain functions. Conditions: those in each lemma. -/
import Derived.Test.YtclkfhhdikfcpaaL6
import Derived.Test.YtclkfhhdikfcpaaDt
namespace Go.Proofs.Ytclkfhhdikfcpaa
open Go Dv
set_option linter.unusedSimpArgs false
set_option linter.unusedVariables false
set_option maxRecDepth 100000
def Je(r:List Int)(a:Int):Int:=r.getD a.toNat default
end Go.Proofs.Ytclkfhhdikfcpaa
