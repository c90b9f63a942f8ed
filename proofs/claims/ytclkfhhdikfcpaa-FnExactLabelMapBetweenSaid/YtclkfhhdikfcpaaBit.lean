/- Sets of labels as numbers, as plain functions. Conditions: those in each lemma. -/
import Derived.Test.YtclkfhhdikfcpaaL6
import Derived.Test.YtclkfhhdikfcpaaDt
namespace Go.Proofs.Ytclkfhhdikfcpaa
open Go Dv
set_option linter.unusedSimpArgs false
set_option linter.unusedVariables false
set_option maxRecDepth 100000
def Bv(set:Int)(a:Nat):Bool:=decide (set / 2 ^ a % 2=1)
theorem Nl{a b:Nat}(h:a≤b):(2:Int) ^ a≤2 ^ b:=by
 have:=Nat.pow_le_pow_right (n:=2) (by decide) h
 exact_mod_cast this
theorem dQ(set:Int)(a:Nat)(ha:a≤64):set.fdiv (2 ^ (min a IntKind.i64.bits))=set / 2 ^ a:=by
 have:min a IntKind.i64.bits=a:=by show min a 64=a;omega
 rw [this,Int.fdiv_eq_ediv_of_nonneg _ (Int.pow_nonneg (by decide))]
theorem YQ(set:Int)(a:Nat)(h:0≤set):0≤set / 2 ^ a:=Int.ediv_nonneg h (Int.pow_nonneg (by decide))
def Du(set:Int)(n:Nat):List Int:=((List.range n).filter (Bv set)).map fun(a:Nat)=>(a:Int)
theorem YR(set:Int)(n:Nat):Du set (n+1)=if Bv set n then Du set n++[(n:Int)]else Du set n:=by
 simp only [Du,List.range_succ,List.filter_append,List.map_append,List.filter_cons,List.filter_nil]
 split<;>simp
theorem TY(set:Int)(n:Nat):(Du set n).length≤n:=by
 simp only [Du,Ql];exact Nat.le_trans (List.length_filter_le _ _) (by simp)
theorem TZ{set:Int}{n:Nat}{x:Int}:x∈Du set n↔ ∃a:Nat,x=(a:Int)∧a<n∧Bv set a=true:=by
 unfold Du;rw [Kn]
 constructor
 ·rintro⟨a,ha,rfl⟩
  rw [List.mem_filter,OA]at ha
  exact⟨a,rfl,ha.1,ha.2⟩
 ·rintro⟨a,rfl,h1,h2⟩
  exact⟨a,List.mem_filter.2 ⟨OA.2 h1,h2⟩,rfl⟩
end Go.Proofs.Ytclkfhhdikfcpaa
