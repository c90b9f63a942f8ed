/- The first number at which something holds. Conditions: none. -/
import Derived.Test.YtiehjihckndgkaaGreatL6
import Derived.Test.YtiehjihckndgkaaGreatDt
namespace Go.Proofs.YtiehjihckndgkaaGreat
open Go Dv
set_option linter.unusedSimpArgs false
set_option linter.unusedVariables false
set_option maxRecDepth 100000
def CJ(n:Nat)(P:Nat→Bool):Option Nat:=(List.range n).find? P
theorem mU{n:Nat}{P:Nat→Bool}(h: ∀i,i<n→P i=false):CJ n P=none:=by
 unfold CJ;rw [List.find?_eq_none];intro i hi;rw [h i (MJ.1 hi)];decide
theorem wC{n m:Nat}{P:Nat→Bool}(hm:m<n)(h:P m=true)(h0: ∀i,i<m→P i=false):CJ n P=some m:=by
 unfold CJ;rw [List.find?_range_eq_some]
 exact⟨h,MJ.2 hm,fun j hj=>by rw [h0 j hj];rfl⟩
theorem Rn{n m:Nat}{P:Nat→Bool}(h:CJ n P=some m):m<n∧P m=true:=by
 unfold CJ at h
 exact⟨MJ.1 (List.mem_of_find?_eq_some h),List.find?_some h⟩
theorem A2J{σ ρ:Type}(f:σ→Option (σ⊕ρ))(st:Nat→σ)(n:Nat)(P:Nat→Bool)(hit:Nat→ρ)(miss:ρ)
  (h: ∀i,i<n→f (st i)=if P i=true then some (.inr (hit i))else some (.inl (st (i+1))))(e:f (st n)=some (.inr miss)):
  Fb f (st 0)=some (match CJ n P with|some i=>hit i|none=>miss):=by
 by_cases hp: ∀i,i<n→(!P i)=true
 ·have h0: ∀i,i<n→P i=false:=fun i hi=>by simpa using hp i hi
  rw [mU h0];exact Cf f st n miss (fun i hi=>by rw [h i hi,h0 i hi,if_neg (by decide)]) e
 ·obtain⟨m,hm,hpm,h0⟩:=Uk hp;have hpm':P m=true:=by simpa using hpm
  have h0': ∀i,i<m→P i=false:=fun i hi=>by simpa using h0 i hi
  rw [wC hm hpm' h0'];exact Cf f st m (hit m) (fun i hi=>by rw [h i (by omega),h0' i hi,if_neg (by decide)]) (by rw [h m hm,if_pos hpm'])
theorem IV{n:Nat}{P:Nat→Bool}:(CJ n P).isSome=true↔ ∃i,i<n∧P i=true:=by
 constructor
 ·intro h
  cases hq:CJ n P with
  |none=>rw [hq]at h;cases h
  |some m=>exact⟨m,Rn hq⟩
 ·rintro⟨i,hi,hp⟩
  cases hq:CJ n P with
  |some m=>rfl
  |none=>
   unfold CJ at hq;rw [List.find?_eq_none]at hq;exact absurd hp (hq i (MJ.2 hi))
theorem rW{n m:Nat}{P:Nat→Bool}(h:CJ n P=some m): ∀i,i<m→P i=false:=by
 unfold CJ at h;rw [List.find?_range_eq_some]at h;intro i hi;simpa using h.2.2 i hi
end Go.Proofs.YtiehjihckndgkaaGreat
