/- The first number at which something holds. Conditions: none. -/
import Derived.Test.YtjhjkfoabhplfaaGreatL6
import Derived.Test.YtjhjkfoabhplfaaGreatDt
namespace Go.Proofs.YtjhjkfoabhplfaaGreat
open Go Dv
set_option linter.unusedSimpArgs false
set_option linter.unusedVariables false
set_option maxRecDepth 100000
def Jd(n:Nat)(P:Nat→Bool):Option Nat:=(List.range n).find? P
theorem ZO{n:Nat}{P:Nat→Bool}(h: ∀i,i<n→P i=false):Jd n P=none:=by
 unfold Jd;rw [List.find?_eq_none];intro i hi;rw [h i (List.mem_range.1 hi)];decide
theorem jT{n m:Nat}{P:Nat→Bool}(hm:m<n)(h:P m=true)(h0: ∀i,i<m→P i=false):Jd n P=some m:=by
 unfold Jd;rw [List.find?_range_eq_some]
 exact⟨h,List.mem_range.2 hm,fun j hj=>by rw [h0 j hj];rfl⟩
theorem eY{σ ρ:Type}(f:σ→Option (σ⊕ρ))(st:Nat→σ)(n:Nat)(P:Nat→Bool)(hit:Nat→ρ)(miss:ρ)
  (h: ∀i,i<n→f (st i)=if P i=true then some (.inr (hit i))else some (.inl (st (i+1))))(e:f (st n)=some (.inr miss)):
  Gb f (st 0)=some (match Jd n P with | some i=>hit i | none=>miss):=by
 by_cases hp: ∀i,i<n→(!P i)=true
 ·have h0: ∀i,i<n→P i=false:=fun i hi=>by simpa using hp i hi
  rw [ZO h0];exact Be f st n miss (fun i hi=>by rw [h i hi,h0 i hi,if_neg (by decide)]) e
 ·obtain⟨m,hm,hpm,h0⟩:=O1 hp;have hpm':P m=true:=by simpa using hpm
  have h0': ∀i,i<m→P i=false:=fun i hi=>by simpa using h0 i hi
  rw [jT hm hpm' h0'];exact Be f st m (hit m) (fun i hi=>by rw [h i (by omega),h0' i hi,if_neg (by decide)]) (by rw [h m hm,if_pos hpm'])
end Go.Proofs.YtjhjkfoabhplfaaGreat
