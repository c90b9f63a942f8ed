/- The ports of a network, as plain functions. Conditions: none. -/
import Derived.Test.YtiehjihckndgkaaGreatL6
import Derived.Test.YtiehjihckndgkaaGreatNis
namespace Go.Proofs.YtiehjihckndgkaaGreat
open Go Dv
set_option linter.unusedSimpArgs false
set_option linter.unusedVariables false
set_option maxRecDepth 100000
theorem O8{E:List (List (Int×Int))}{ids ins:AB}(h:FX E ids ins=true):E.length≤40∧1≤E.length∧(∀v,v<E.length→(E.getD v default).length≤6)∧
  ∀v i,v<E.length→i<(E.getD v default).length→ ∃w p:Nat,BP (E.getD v default) i=(w:Int)∧Ck (E.getD v default) i=(p:Int)∧w<E.length∧p<(E.getD w default).length∧BP (E.getD w default) p=(v:Int)∧Ck (E.getD w default) p=(i:Int):=by
 unfold FX at h;simp only [Gb]at h;obtain⟨h1,_,_,_,h5⟩:=h;have h1:=Fg.1 h1;have hn: ∀v,v<E.length→WJ E v=true:=DV.1 h5
 refine⟨by omega,by omega,fun v hv=> ?_,fun v i hv hi=> ?_⟩
 ·have:=hn v hv
  rw [PH,Gb,decide_eq_true_eq]at this;exact this.1
 ·have:=hn v hv
  rw [PH,Gb]at this;have:=DV.1 this.2 i hi
  rw [UB]at this;simp only [Gb,beq_iff_eq]at this;obtain⟨k1,k2,k3,k4⟩:=this;have k1:=Fg.1 k1;have k2:=Fg.1 k2
  refine⟨(BP (E.getD v default) i).toNat,(Ck (E.getD v default) i).toNat,by omega,by omega,by omega,by omega,k3,k4⟩
def FH(E:List (List (Int×Int)))(x:Nat):AB:=(E.getD x default).map (·.1)
theorem RH(E:List (List (Int×Int)))(x:Nat):(FH E x).length=(E.getD x default).length:=by simp [FH]
theorem eD(E:List (List (Int×Int)))(x i:Nat)(h:i<(FH E x).length):(FH E x)[i]=BP (E.getD x default) i:=by
 have h':i<(E.getD x default).length:=by rwa [RH]at h
 unfold BP;rw [Ao _ _ h'];simp [FH]
theorem WZ{E:List (List (Int×Int))}{x:Nat}{y:Int}:y∈FH E x↔ ∃i,i<(E.getD x default).length∧BP (E.getD x default) i=y:=by
 constructor
 ·intro h;obtain⟨i,hi,rfl⟩:=jm h
  exact⟨i,by rwa [RH]at hi,(eD E x i hi).symm⟩
 ·rintro⟨i,hi,rfl⟩
  have hi':i<(FH E x).length:=by rwa [RH]
  rw [←eD E x i hi'];exact Nh hi'
theorem Wd{E:List (List (Int×Int))}{ids ins:AB}(h:FX E ids ins=true): ∀x,x<E.length→ ∀y∈FH E x,0≤y∧y.toNat<E.length:=by
 intro x hx y hy;obtain⟨i,hi,rfl⟩:=WZ.1 hy;obtain⟨_,_,_,hp⟩:=O8 h;obtain⟨w,p,e1,_,hw,_⟩:=hp x i hx hi;omega
theorem A2x{E:List (List (Int×Int))}{ids ins:AB}(h:FX E ids ins=true): ∀x y,x<E.length→y∈FH E x→(x:Int)∈FH E y.toNat:=by
 intro x y hx hy;obtain⟨i,hi,rfl⟩:=WZ.1 hy;obtain⟨_,_,_,hp⟩:=O8 h;obtain⟨w,p,e1,_,hw,hpl,b1,_⟩:=hp x i hx hi;rw [e1,EC];exact WZ.2 ⟨p,hpl,b1⟩
end Go.Proofs.YtiehjihckndgkaaGreat
