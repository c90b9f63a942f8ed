/- Parts of networks, as plain functions. Conditions: the network is one. -/
import Derived.Test.YtiehjihckndgkaaGreatL6
import Derived.Test.YtiehjihckndgkaaGreatDst
import Derived.Test.YtiehjihckndgkaaGreatCps
import Derived.Test.YtiehjihckndgkaaGreatBfs
import Derived.Test.YtiehjihckndgkaaGreatPrt
namespace Go.Proofs.YtiehjihckndgkaaGreat
open Go Dv
set_option linter.unusedSimpArgs false
set_option linter.unusedVariables false
set_option maxRecDepth 100000
theorem A08{E:List (List (Int×Int))}{ids ins:AB}(h:FX E ids ins=true): ∀x y,y∈FH E x→(x:Int)∈FH E y.toNat:=by
 intro x y hy;by_cases hx:x<E.length
 ·exact A2x h x y hx hy
 ·unfold FH at hy;rw [Le,eu (by omega)]at hy
  exact absurd hy (by simp [default])
def Ld(E:List (List (Int×Int)))(u x:Nat):Bool:=decide (0≤at_ (O9 E u) x)
theorem OA{E:List (List (Int×Int))}{ids ins:AB}(h:FX E ids ins=true){u x:Nat}(hu:u<E.length)(hx:x<E.length):Ld E u x=true↔ ∃k,Rch (FH E) u k x:=by
 unfold Ld;rw [decide_eq_true_eq]
 exact(XX h u hu).conn hx
theorem sG{E:List (List (Int×Int))}{ids ins:AB}(h:FX E ids ins=true):EqvB (Ld E) E.length:=by
 refine⟨fun x hx=>(OA h hx hx).2 ⟨0,Rch.z⟩,fun x y hx hy hc=> ?_,fun x y z hx hy hz h1 h2=> ?_⟩
 ·obtain⟨k,hk⟩:=(OA h hx hy).1 hc
  exact(OA h hy hx).2 ⟨k,hk.rev (A08 h)⟩
 ·obtain⟨k,hk⟩:=(OA h hx hy).1 h1;obtain⟨l,hl⟩:=(OA h hy hz).1 h2
  exact(OA h hx hz).2 ⟨k+l,hk.trans hl⟩
def Rz(E:List (List (Int×Int))):AB:=(List.range E.length).map fun x=>(ng (Ld E) E.length x:Int)
end Go.Proofs.YtiehjihckndgkaaGreat
