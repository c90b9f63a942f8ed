/- Parts of networks, as plain functions. Conditions: the network is one. -/
import Derived.Test.YtipfckompmhljaaGreatL6
import Derived.Test.YtipfckompmhljaaGreatDst
import Derived.Test.YtipfckompmhljaaGreatCps
import Derived.Test.YtipfckompmhljaaGreatBfs
import Derived.Test.YtipfckompmhljaaGreatPrt
namespace Go.Proofs.YtipfckompmhljaaGreat
open Go Dv
set_option linter.unusedSimpArgs false
set_option linter.unusedVariables false
set_option maxRecDepth 100000
theorem ao{E:List (List (Int×Int))}{ids ins:List Int}(h:CG E ids ins=true): ∀x y,y∈Cn E x→(x:Int)∈Cn E y.toNat:=by
 intro x y hy
 by_cases hx:x<E.length
 ·exact eY h x y hx hy
 ·unfold Cn at hy
  rw [List.getD_eq_getElem?_getD,List.getElem?_eq_none (by omega)]at hy
  exact absurd hy (by simp [default])
def GE(E:List (List (Int×Int)))(u x:Nat):Bool:=decide (0≤E7 (Id E u) x)
theorem Jg{E:List (List (Int×Int))}{ids ins:List Int}(h:CG E ids ins=true){u x:Nat}(hu:u<E.length)(hx:x<E.length):GE E u x=true↔ ∃k,Rch (Cn E) u k x:=by
 unfold GE
 rw [decide_eq_true_eq]
 exact(Jf h u hu).conn hx
theorem LF{E:List (List (Int×Int))}{ids ins:List Int}(h:CG E ids ins=true):EqvB (GE E) E.length:=by
 refine⟨fun x hx=>(Jg h hx hx).2 ⟨0,Rch.z⟩,fun x y hx hy hc=> ?_,fun x y z hx hy hz h1 h2=> ?_⟩
 ·obtain⟨k,hk⟩:=(Jg h hx hy).1 hc
  exact(Jg h hy hx).2 ⟨k,hk.rev (ao h)⟩
 ·obtain⟨k,hk⟩:=(Jg h hx hy).1 h1
  obtain⟨l,hl⟩:=(Jg h hy hz).1 h2
  exact(Jg h hx hz).2 ⟨k+l,hk.trans hl⟩
def R6(E:List (List (Int×Int))):List Int:=(List.range E.length).map fun x=>(P3 (GE E) E.length x:Int)
end Go.Proofs.YtipfckompmhljaaGreat
