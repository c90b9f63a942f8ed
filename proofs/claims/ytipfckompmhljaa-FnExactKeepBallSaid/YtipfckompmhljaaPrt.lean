/- The ports of a network, as plain functions. Conditions: none. -/
import Derived.Test.YtipfckompmhljaaL6
import Derived.Test.YtipfckompmhljaaNis
namespace Go.Proofs.Ytipfckompmhljaa
open Go Dv
set_option linter.unusedSimpArgs false
set_option linter.unusedVariables false
set_option maxRecDepth 100000
theorem D9{E:List (List (Int×Int))}{ids ins:List Int}(h:Eg E ids ins=true):E.length≤40∧1≤E.length∧(∀v,v<E.length→(E.getD v default).length≤6)∧
  ∀v i,v<E.length→i<(E.getD v default).length→ ∃w p:Nat,BB (E.getD v default) i=(w:Int)∧Bt (E.getD v default) i=(p:Int)∧w<E.length∧p<(E.getD w default).length∧BB (E.getD w default) p=(v:Int)∧Bt (E.getD w default) p=(i:Int):=by
 unfold Eg at h
 simp only [Bool.and_eq_true]at h
 obtain⟨h1,_,_,_,h5⟩:=h
 have h1:=Jv.1 h1
 have hn: ∀v,v<E.length→PK E v=true:=Gw.1 h5
 refine⟨by omega,by omega,fun v hv=> ?_,fun v i hv hi=> ?_⟩
 ·have:=hn v hv
  rw [Nf,Bool.and_eq_true,decide_eq_true_eq]at this
  exact this.1
 ·have:=hn v hv
  rw [Nf,Bool.and_eq_true]at this
  have:=Gw.1 this.2 i hi
  rw [Q3]at this
  simp only [Bool.and_eq_true,beq_iff_eq]at this
  obtain⟨k1,k2,k3,k4⟩:=this
  have k1:=Jv.1 k1
  have k2:=Jv.1 k2
  refine⟨(BB (E.getD v default) i).toNat,(Bt (E.getD v default) i).toNat,by omega,by omega,by omega,by omega,k3,k4⟩
def GZ(E:List (List (Int×Int)))(x:Nat):List Int:=(E.getD x default).map (·.1)
theorem Lp(E:List (List (Int×Int)))(x:Nat):(GZ E x).length=(E.getD x default).length:=by simp [GZ]
theorem Tu(E:List (List (Int×Int)))(x i:Nat)(h:i<(GZ E x).length):(GZ E x)[i]=BB (E.getD x default) i:=by
 have h':i<(E.getD x default).length:=by rwa [Lp]at h
 unfold BB
 rw [Av _ _ h']
 simp [GZ]
theorem oJ{E:List (List (Int×Int))}{x:Nat}{y:Int}:y∈GZ E x↔ ∃i,i<(E.getD x default).length∧BB (E.getD x default) i=y:=by
 constructor
 ·intro h
  obtain⟨i,hi,rfl⟩:=List.getElem_of_mem h
  exact⟨i,by rwa [Lp]at hi,(Tu E x i hi).symm⟩
 ·rintro⟨i,hi,rfl⟩
  have hi':i<(GZ E x).length:=by rwa [Lp]
  rw [←Tu E x i hi']
  exact List.getElem_mem hi'
theorem MS{E:List (List (Int×Int))}{ids ins:List Int}(h:Eg E ids ins=true): ∀x,x<E.length→ ∀y∈GZ E x,0≤y∧y.toNat<E.length:=by
 intro x hx y hy
 obtain⟨i,hi,rfl⟩:=oJ.1 hy
 obtain⟨_,_,_,hp⟩:=D9 h
 obtain⟨w,p,e1,_,hw,_⟩:=hp x i hx hi
 omega
end Go.Proofs.Ytipfckompmhljaa
