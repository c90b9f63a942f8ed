/- Lines of problems' texts read, as plain functions. Conditions: those in each lemma. -/
import Derived.Test.YtaogbcdlpgfplaaDoorL6
import Derived.Test.YtaogbcdlpgfplaaDoorRdn
namespace Go.Proofs.YtaogbcdlpgfplaaDoor
open Go Dv
set_option linter.unusedSimpArgs false
set_option linter.unusedVariables false
set_option maxRecDepth 100000


/-- A word read as a number or a star. -/
def star (w : List UInt8) : Option Int := if w = [42] then some (-1) else (readD w).map fun n => (n : Int)
end Go.Proofs.YtaogbcdlpgfplaaDoor
