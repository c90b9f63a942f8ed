/- Choices from lists, as plain functions. Conditions: none. -/
import Derived.Test.YtiehjihckndgkaaGreatL6
import Derived.Test.YtiehjihckndgkaaGreatDt
namespace Go.Proofs.YtiehjihckndgkaaGreat
open Go Dv
set_option linter.unusedSimpArgs false
set_option linter.unusedVariables false
set_option maxRecDepth 100000
theorem wH(x:AB)(j:Nat)(hj:j<x.length):(x[j]::x.eraseIdx j).Perm x:=by
 rw [List.eraseIdx_eq_take_drop_succ];have h:x=x.take j++x[j]::x.drop (j+1):=by rw [←ed hj,List.take_append_drop]
 have:=(List.perm_middle (a:=x[j]) (l₁:=x.take j) (l₂:=x.drop (j+1))).symm
 rw [←h]at this;exact this
end Go.Proofs.YtiehjihckndgkaaGreat
