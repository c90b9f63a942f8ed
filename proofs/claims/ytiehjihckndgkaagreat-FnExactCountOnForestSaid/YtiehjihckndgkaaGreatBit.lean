/- Sets of labels as numbers, as plain functions. Conditions: those in each lemma. -/
import Derived.Test.YtiehjihckndgkaaGreatL6
import Derived.Test.YtiehjihckndgkaaGreatDt
namespace Go.Proofs.YtiehjihckndgkaaGreat
open Go Dv
set_option linter.unusedSimpArgs false
set_option linter.unusedVariables false
set_option maxRecDepth 100000
def nV(set:Int)(a:Nat):Bool:=decide (set / 2 ^ a % 2=1)
theorem zz{a b:Nat}(h:a≤b):(2:Int) ^ a≤2 ^ b:=by
 have:=Nat.pow_le_pow_right (n:=2) (by decide) h
 exact_mod_cast this
theorem Y3(set:Int)(a:Nat)(h:0≤set):0≤set / 2 ^ a:=Int.ediv_nonneg h (Int.pow_nonneg (by decide))
theorem A4w(set:Int)(a:Nat)(h:0≤set):set / 2 ^ a≤set:=by
 have:(1:Int)≤2 ^ a:=by
  have:=Nat.one_le_two_pow (n:=a)
  exact_mod_cast this
 exact Int.ediv_le_self _ h
end Go.Proofs.YtiehjihckndgkaaGreat
