/- The first number at which something holds. Conditions: none. -/
import Derived.Test.YtiehjihckndgkaaGreatL6
import Derived.Test.YtiehjihckndgkaaGreatDt
namespace Go.Proofs.YtiehjihckndgkaaGreat
open Go Dv
set_option linter.unusedSimpArgs false
set_option linter.unusedVariables false
set_option maxRecDepth 100000
def Jq(n:Nat)(P:Nat→Bool):Option Nat:=(List.range n).find? P
theorem dw{n:Nat}{P:Nat→Bool}(h: ∀i,i<n→P i=false):Jq n P=none:=by
 unfold Jq;rw [List.find?_eq_none];intro i hi;rw [h i (Mw.1 hi)];decide
theorem mo{n m:Nat}{P:Nat→Bool}(hm:m<n)(h:P m=true)(h0: ∀i,i<m→P i=false):Jq n P=some m:=by
 unfold Jq;rw [List.find?_range_eq_some]
 exact⟨h,Mw.2 hm,fun j hj=>by rw [h0 j hj];rfl⟩
theorem YH{n m:Nat}{P:Nat→Bool}(h:Jq n P=some m):m<n∧P m=true:=by
 unfold Jq at h
 exact⟨Mw.1 (List.mem_of_find?_eq_some h),List.find?_some h⟩
theorem wR{σ ρ:Type}(f:σ→Option (σ⊕ρ))(st:Nat→σ)(n:Nat)(P:Nat→Bool)(hit:Nat→ρ)(miss:ρ)
  (h: ∀i,i<n→f (st i)=if P i=true then some (.inr (hit i))else some (.inl (st (i+1))))(e:f (st n)=some (.inr miss)):
  I4 f (st 0)=some (match Jq n P with|some i=>hit i|none=>miss):=by
 by_cases hp: ∀i,i<n→(!P i)=true
 ·have h0: ∀i,i<n→P i=false:=fun i hi=>by simpa using hp i hi
  rw [dw h0];exact EX f st n miss (fun i hi=>by rw [h i hi,h0 i hi,if_neg (by decide)]) e
 ·obtain⟨m,hm,hpm,h0⟩:=PG hp;have hpm':P m=true:=by simpa using hpm
  have h0': ∀i,i<m→P i=false:=fun i hi=>by simpa using h0 i hi
  rw [mo hm hpm' h0'];exact EX f st m (hit m) (fun i hi=>by rw [h i (by omega),h0' i hi,if_neg (by decide)]) (by rw [h m hm,if_pos hpm'])
theorem YI{n:Nat}{P:Nat→Bool}:(Jq n P).isSome=true↔ ∃i,i<n∧P i=true:=by
 constructor
 ·intro h
  cases hq:Jq n P with
  |none=>rw [hq]at h;cases h
  |some m=>exact⟨m,YH hq⟩
 ·rintro⟨i,hi,hp⟩
  cases hq:Jq n P with
  |some m=>rfl
  |none=>
   unfold Jq at hq;rw [List.find?_eq_none]at hq;exact absurd hp (hq i (Mw.2 hi))
end Go.Proofs.YtiehjihckndgkaaGreat
