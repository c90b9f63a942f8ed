/- Sets of labels as numbers, as plain functions. Conditions: those in each lemma. -/
import Derived.Test.YtiehjihckndgkaaGreatL6
import Derived.Test.YtiehjihckndgkaaGreatDt
namespace Go.Proofs.YtiehjihckndgkaaGreat
open Go Dv
set_option linter.unusedSimpArgs false
set_option linter.unusedVariables false
set_option maxRecDepth 100000
def Dh(set:Int)(a:Nat):Bool:=decide (set / 2 ^ a % 2=1)
theorem Qt{a b:Nat}(h:a≤b):(2:Int) ^ a≤2 ^ b:=by
 have:=Nat.pow_le_pow_right (n:=2) (by decide) h
 exact_mod_cast this
theorem rA(set:Int)(a:Nat)(ha:a≤64):set.fdiv (2 ^ (min a IntKind.i64.bits))=set / 2 ^ a:=by
 have:min a IntKind.i64.bits=a:=by show min a 64=a;omega
 rw [this,rR _ (Int.pow_nonneg (by decide))]
theorem Qa(set:Int)(a:Nat)(h:0≤set):0≤set / 2 ^ a:=Int.ediv_nonneg h (Int.pow_nonneg (by decide))
def Ue(set:Int)(n:Nat):List Int:=((List.range n).filter (Dh set)).map fun(a:Nat)=>(a:Int)
theorem zg: ∀x:Fin 256,GX .and .i64 (x.val:Int) 1=(x.val:Int) % 2:=by decide+kernel
theorem xN(x:Int)(h:0≤x∧x≤255):GX .and .i64 x 1=x % 2:=by
 have:=zg ⟨x.toNat,by omega⟩
 simp only at this;rwa [show((x.toNat:Nat):Int)=x by omega]at this
theorem oZ(set:Int)(a:Nat)(h:0≤set):set / 2 ^ a≤set:=by
 have:(1:Int)≤2 ^ a:=by
  have:=Nat.one_le_two_pow (n:=a)
  exact_mod_cast this
 exact Int.ediv_le_self _ h
theorem YZ{set:Int}{n:Nat}{x:Int}:x∈Ue set n↔ ∃a:Nat,x=(a:Int)∧a<n∧Dh set a=true:=by
 unfold Ue;rw [Mx]
 constructor
 ·rintro⟨a,ha,rfl⟩
  rw [List.mem_filter,Mw]at ha
  exact⟨a,rfl,ha.1,ha.2⟩
 ·rintro⟨a,rfl,h1,h2⟩
  exact⟨a,List.mem_filter.2 ⟨Mw.2 h1,h2⟩,rfl⟩
end Go.Proofs.YtiehjihckndgkaaGreat
