/- The first number at which something holds. Conditions: none. -/
import Derived.Test.YtjhjkfoabhplfaaGreatL6
import Derived.Test.YtjhjkfoabhplfaaGreatDt
namespace Go.Proofs.YtjhjkfoabhplfaaGreat
open Go Dv
set_option linter.unusedSimpArgs false
set_option linter.unusedVariables false
set_option maxRecDepth 100000
def ML(n:Nat)(P:Nat→Bool):Option Nat:=(List.range n).find? P
theorem jW{n:Nat}{P:Nat→Bool}(h: ∀i,i<n→P i=false):ML n P=none:=by
 unfold ML;rw [List.find?_eq_none];intro i hi;rw [h i (Lt.1 hi)];decide
theorem tY{n m:Nat}{P:Nat→Bool}(hm:m<n)(h:P m=true)(h0: ∀i,i<m→P i=false):ML n P=some m:=by
 unfold ML;rw [List.find?_range_eq_some]
 exact⟨h,Lt.2 hm,fun j hj=>by rw [h0 j hj];rfl⟩
theorem oq{σ ρ:Type}(f:σ→Option (σ⊕ρ))(st:Nat→σ)(n:Nat)(P:Nat→Bool)(hit:Nat→ρ)(miss:ρ)
  (h: ∀i,i<n→f (st i)=if P i=true then some (.inr (hit i))else some (.inl (st (i+1))))(e:f (st n)=some (.inr miss)):
  Fv f (st 0)=some (match ML n P with|some i=>hit i|none=>miss):=by
 by_cases hp: ∀i,i<n→(!P i)=true
 ·have h0: ∀i,i<n→P i=false:=fun i hi=>by simpa using hp i hi
  rw [jW h0];exact BD f st n miss (fun i hi=>by rw [h i hi,h0 i hi,if_neg (by decide)]) e
 ·obtain⟨m,hm,hpm,h0⟩:=RH hp;have hpm':P m=true:=by simpa using hpm
  have h0': ∀i,i<m→P i=false:=fun i hi=>by simpa using h0 i hi
  rw [tY hm hpm' h0'];exact BD f st m (hit m) (fun i hi=>by rw [h i (by omega),h0' i hi,if_neg (by decide)]) (by rw [h m hm,if_pos hpm'])
end Go.Proofs.YtjhjkfoabhplfaaGreat
