/- The ports of a network, as plain functions. Conditions: none. -/
import Derived.Test.YtipfckompmhljaaL6
import Derived.Test.YtipfckompmhljaaNis
namespace Go.Proofs.Ytipfckompmhljaa
open Go Dv
set_option linter.unusedSimpArgs false
set_option linter.unusedVariables false
set_option maxRecDepth 100000
theorem OW{E:List (List (Int×Int))}{ids ins:List Int}(h:Bj E ids ins=true):E.length≤40∧1≤E.length∧(∀v,v<E.length→(E.getD v default).length≤6)∧
  ∀v i,v<E.length→i<(E.getD v default).length→ ∃w p:Nat,BA (E.getD v default) i=(w:Int)∧Bc (E.getD v default) i=(p:Int)∧w<E.length∧p<(E.getD w default).length∧BA (E.getD w default) p=(v:Int)∧Bc (E.getD w default) p=(i:Int):=by
 unfold Bj at h;simp only [Bool.and_eq_true]at h;obtain⟨h1,_,_,_,h5⟩:=h;have h1:=FK.1 h1;have hn: ∀v,v<E.length→P5 E v=true:=FU.1 h5
 refine⟨by omega,by omega,fun v hv=> ?_,fun v i hv hi=> ?_⟩
 ·have:=hn v hv
  rw [Jm,Bool.and_eq_true,decide_eq_true_eq]at this;exact this.1
 ·have:=hn v hv
  rw [Jm,Bool.and_eq_true]at this;have:=FU.1 this.2 i hi
  rw [Md]at this;simp only [Bool.and_eq_true,beq_iff_eq]at this;obtain⟨k1,k2,k3,k4⟩:=this;have k1:=FK.1 k1;have k2:=FK.1 k2
  refine⟨(BA (E.getD v default) i).toNat,(Bc (E.getD v default) i).toNat,by omega,by omega,by omega,by omega,k3,k4⟩
def Ec(E:List (List (Int×Int)))(x:Nat):List Int:=(E.getD x default).map (·.1)
theorem IQ(E:List (List (Int×Int)))(x:Nat):(Ec E x).length=(E.getD x default).length:=by simp [Ec]
theorem Lc(E:List (List (Int×Int)))(x i:Nat)(h:i<(Ec E x).length):(Ec E x)[i]=BA (E.getD x default) i:=by
 have h':i<(E.getD x default).length:=by rwa [IQ]at h
 unfold BA;rw [Av _ _ h'];simp [Ec]
theorem rR{E:List (List (Int×Int))}{x:Nat}{y:Int}:y∈Ec E x↔ ∃i,i<(E.getD x default).length∧BA (E.getD x default) i=y:=by
 constructor
 ·intro h;obtain⟨i,hi,rfl⟩:=List.getElem_of_mem h
  exact⟨i,by rwa [IQ]at hi,(Lc E x i hi).symm⟩
 ·rintro⟨i,hi,rfl⟩
  have hi':i<(Ec E x).length:=by rwa [IQ]
  rw [←Lc E x i hi'];exact List.getElem_mem hi'
theorem Qg{E:List (List (Int×Int))}{ids ins:List Int}(h:Bj E ids ins=true): ∀x,x<E.length→ ∀y∈Ec E x,0≤y∧y.toNat<E.length:=by
 intro x hx y hy;obtain⟨i,hi,rfl⟩:=rR.1 hy;obtain⟨_,_,_,hp⟩:=OW h;obtain⟨w,p,e1,_,hw,_⟩:=hp x i hx hi;omega
end Go.Proofs.Ytipfckompmhljaa
