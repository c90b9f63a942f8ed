/- Parts of networks, as plain functions. Conditions: those in each lemma. -/
import Derived.Test.YtjjahjjhohcidaaL6
import Derived.Test.YtjjahjjhohcidaaFst
namespace Go.Proofs.Ytjjahjjhohcidaa
open Go Dv
set_option linter.unusedSimpArgs false
set_option linter.unusedVariables false
set_option maxRecDepth 100000
theorem NH(n:Nat)(P:Nat→Bool):Bx (n+1) P=(match Bx n P with | some u=>some u | none=>if P n=true then some n else none):=by
 unfold Bx
 rw [List.range_succ,List.find?_append]
 cases List.find? P (List.range n)with
 | some u=>rfl
 | none=>cases h:P n<;>simp [h]
end Go.Proofs.Ytjjahjjhohcidaa
