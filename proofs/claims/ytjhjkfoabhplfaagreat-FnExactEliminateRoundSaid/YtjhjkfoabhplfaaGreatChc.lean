/- Choices from lists, as plain functions. Conditions: none. -/
import Derived.Test.YtjhjkfoabhplfaaGreatL6
import Derived.Test.YtjhjkfoabhplfaaGreatDt
namespace Go.Proofs.YtjhjkfoabhplfaaGreat
open Go Dv
set_option linter.unusedSimpArgs false
set_option linter.unusedVariables false
set_option maxRecDepth 100000
def YI(good:AA→Bool):AL→AA→Bool
 | [],c=>good c
 |L::Ls,c=>L.any fun a=>YI good Ls (c++[a])
def vI:AA→AL→Prop
 | [],[]=>True
 |a::c,L::Ls=>a∈L∧vI c Ls
 |_,_=>False
theorem aX(x:AA)(j:Nat)(hj:j<x.length):(x[j]::x.eraseIdx j).Perm x:=by
 rw [List.eraseIdx_eq_take_drop_succ];have h:x=x.take j++x[j]::x.drop (j+1):=by rw [←fw hj,List.take_append_drop]
 have:=(List.perm_middle (a:=x[j]) (l₁:=x.take j) (l₂:=x.drop (j+1))).symm
 rw [←h]at this;exact this
end Go.Proofs.YtjhjkfoabhplfaaGreat
