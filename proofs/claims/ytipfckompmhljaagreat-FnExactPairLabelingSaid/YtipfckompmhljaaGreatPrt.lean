/- The ports of a network, as plain functions. Conditions: none. -/
import Derived.Test.YtipfckompmhljaaGreatL6
import Derived.Test.YtipfckompmhljaaGreatNis
namespace Go.Proofs.YtipfckompmhljaaGreat
open Go Dv
set_option linter.unusedSimpArgs false
set_option linter.unusedVariables false
set_option maxRecDepth 100000
theorem DG{E:List (List (Int×Int))}{ids ins:List Int}(h:CG E ids ins=true):E.length≤40∧1≤E.length∧(∀v,v<E.length→(E.getD v default).length≤6)∧
  ∀v i,v<E.length→i<(E.getD v default).length→ ∃w p:Nat,An (E.getD v default) i=(w:Int)∧BJ (E.getD v default) i=(p:Int)∧w<E.length∧p<(E.getD w default).length∧An (E.getD w default) p=(v:Int)∧BJ (E.getD w default) p=(i:Int):=by
 unfold CG at h
 simp only [Bool.and_eq_true]at h
 obtain⟨h1,_,_,_,h5⟩:=h
 have h1:=FG.1 h1
 have hn: ∀v,v<E.length→NG E v=true:=BW.1 h5
 refine⟨by omega,by omega,fun v hv=> ?_,fun v i hv hi=> ?_⟩
 ·have:=hn v hv
  rw [LX,Bool.and_eq_true,decide_eq_true_eq]at this
  exact this.1
 ·have:=hn v hv
  rw [LX,Bool.and_eq_true]at this
  have:=BW.1 this.2 i hi
  rw [O3]at this
  simp only [Bool.and_eq_true,beq_iff_eq]at this
  obtain⟨k1,k2,k3,k4⟩:=this
  have k1:=FG.1 k1
  have k2:=FG.1 k2
  refine⟨(An (E.getD v default) i).toNat,(BJ (E.getD v default) i).toNat,by omega,by omega,by omega,by omega,k3,k4⟩
def Cn(E:List (List (Int×Int)))(x:Nat):List Int:=(E.getD x default).map (·.1)
theorem Hn(E:List (List (Int×Int)))(x:Nat):(Cn E x).length=(E.getD x default).length:=by simp [Cn]
theorem NL(E:List (List (Int×Int)))(x i:Nat)(h:i<(Cn E x).length):(Cn E x)[i]=An (E.getD x default) i:=by
 have h':i<(E.getD x default).length:=by rwa [Hn]at h
 unfold An
 rw [Ar _ _ h']
 simp [Cn]
theorem R4{E:List (List (Int×Int))}{x:Nat}{y:Int}:y∈Cn E x↔ ∃i,i<(E.getD x default).length∧An (E.getD x default) i=y:=by
 constructor
 ·intro h
  obtain⟨i,hi,rfl⟩:=List.getElem_of_mem h
  exact⟨i,by rwa [Hn]at hi,(NL E x i hi).symm⟩
 ·rintro⟨i,hi,rfl⟩
  have hi':i<(Cn E x).length:=by rwa [Hn]
  rw [←NL E x i hi']
  exact List.getElem_mem hi'
theorem NM{E:List (List (Int×Int))}{ids ins:List Int}(h:CG E ids ins=true): ∀x,x<E.length→ ∀y∈Cn E x,0≤y∧y.toNat<E.length:=by
 intro x hx y hy
 obtain⟨i,hi,rfl⟩:=R4.1 hy
 obtain⟨_,_,_,hp⟩:=DG h
 obtain⟨w,p,e1,_,hw,_⟩:=hp x i hx hi
 omega
theorem eY{E:List (List (Int×Int))}{ids ins:List Int}(h:CG E ids ins=true): ∀x y,x<E.length→y∈Cn E x→(x:Int)∈Cn E y.toNat:=by
 intro x y hx hy
 obtain⟨i,hi,rfl⟩:=R4.1 hy
 obtain⟨_,_,_,hp⟩:=DG h
 obtain⟨w,p,e1,_,hw,hpl,b1,_⟩:=hp x i hx hi
 rw [e1,Int.toNat_natCast]
 exact R4.2 ⟨p,hpl,b1⟩
end Go.Proofs.YtipfckompmhljaaGreat
