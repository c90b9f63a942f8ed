/- Networks marked, and marks held, as plain functions. Conditions: the lists are short. -/
import Derived.Test.YtiehjihckndgkaaGreatL6
import Derived.Test.YtiehjihckndgkaaGreatNis
namespace Go.Proofs.YtiehjihckndgkaaGreat
open Go Dv
set_option linter.unusedSimpArgs false
set_option linter.unusedVariables false
set_option maxRecDepth 100000
set_option maxHeartbeats 4000000
def k19:SC:= .seq (.ops [oX 2 (.box 38 (tK 0)) 0,oX 4 (.assign (iK 0)) 3]) (.seq (.ops [oF 5 38 2 0,oL 6 36 5 36,oM 7 1 3,oC 8 44 [(tK 6),(tK 7)] [36,3] 3,oA 1 8 3]) (.seq (.ops [oF 9 38 2 1,oL 10 26 9 26,oM 11 1 3,oC 12 27 [(tK 10),(tK 11)] [26,3] 3,oA 1 12 3]) (.seq (.ops [oF 13 38 2 2,oL 14 26 13 26,oM 15 1 3,oC 16 27 [(tK 14),(tK 15)] [26,3] 3,oA 1 16 3]) (.seq (.ops [oM 17 1 3,oA 4 17 3]) .ret))))
theorem ABV:Tryz.f19.body.map (BX lends)=some k19:=by kernel_rfl
theorem AP9:Bj Tryz.f19 2=true:=by kernel_rfl
theorem c19{a l:List D}{r:D×List D}(h:Br Y.env k19 (fin Ap l.length [ResultVar.tmp 4] r) (entry a l))(ha:a.length=2):Y.call 19 a l=some r:=
 AZ (Y:=Y) rfl Tryz.func19 (ha▸AP9) ABV h
end Go.Proofs.YtiehjihckndgkaaGreat
