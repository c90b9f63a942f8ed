/- The first number at which something holds. Conditions: none. -/
import Derived.Test.YtjjahjjhohcidaaL6
import Derived.Test.YtjjahjjhohcidaaDt
namespace Go.Proofs.Ytjjahjjhohcidaa
open Go Dv
set_option linter.unusedSimpArgs false
set_option linter.unusedVariables false
set_option maxRecDepth 100000
def Bx(n:Nat)(P:Nat→Bool):Option Nat:=(List.range n).find? P
theorem QZ{n m:Nat}{P:Nat→Bool}(hm:m<n)(h:P m=true)(h0: ∀i,i<m→P i=false):Bx n P=some m:=by
 unfold Bx
 rw [List.find?_range_eq_some]
 exact⟨h,List.mem_range.2 hm,fun j hj=>by rw [h0 j hj];rfl⟩
theorem HP{n m:Nat}{P:Nat→Bool}(h:Bx n P=some m):m<n∧P m=true:=by
 unfold Bx at h
 exact⟨List.mem_range.1 (List.mem_of_find?_eq_some h),List.find?_some h⟩
end Go.Proofs.Ytjjahjjhohcidaa
