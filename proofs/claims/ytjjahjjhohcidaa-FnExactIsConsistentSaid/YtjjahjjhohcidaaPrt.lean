/- The ports of a network, as plain functions. Conditions: none. -/
import Derived.Test.YtjjahjjhohcidaaL6
import Derived.Test.YtjjahjjhohcidaaNis
namespace Go.Proofs.Ytjjahjjhohcidaa
open Go Dv
set_option linter.unusedSimpArgs false
set_option linter.unusedVariables false
set_option maxRecDepth 100000
theorem Gp{E:List (List (Int×Int))}{ids ins:List Int}(h:De E ids ins=true):E.length≤40∧1≤E.length∧(∀v,v<E.length→(E.getD v default).length≤6)∧
  ∀v i,v<E.length→i<(E.getD v default).length→ ∃w p:Nat,Ad (E.getD v default) i=(w:Int)∧Az (E.getD v default) i=(p:Int)∧w<E.length∧p<(E.getD w default).length∧Ad (E.getD w default) p=(v:Int)∧Az (E.getD w default) p=(i:Int):=by
 unfold De at h
 simp only [Bool.and_eq_true]at h
 obtain⟨h1,_,_,_,h5⟩:=h
 have h1:=G4.1 h1
 have hn: ∀v,v<E.length→IA E v=true:=BR.1 h5
 refine⟨by omega,by omega,fun v hv=> ?_,fun v i hv hi=> ?_⟩
 ·have:=hn v hv
  rw [Gz,Bool.and_eq_true,decide_eq_true_eq]at this
  exact this.1
 ·have:=hn v hv
  rw [Gz,Bool.and_eq_true]at this
  have:=BR.1 this.2 i hi
  rw [IW]at this
  simp only [Bool.and_eq_true,beq_iff_eq]at this
  obtain⟨k1,k2,k3,k4⟩:=this
  have k1:=G4.1 k1
  have k2:=G4.1 k2
  refine⟨(Ad (E.getD v default) i).toNat,(Az (E.getD v default) i).toNat,by omega,by omega,by omega,by omega,k3,k4⟩
end Go.Proofs.Ytjjahjjhohcidaa
