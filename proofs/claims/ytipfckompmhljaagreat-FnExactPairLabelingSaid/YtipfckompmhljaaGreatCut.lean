/- What a problem's lists are; sorted lists. Conditions: none. -/
import Derived.Test.YtipfckompmhljaaGreatL6
import Derived.Test.YtipfckompmhljaaGreatHas
namespace Go.Proofs.YtipfckompmhljaaGreat
open Go Dv
set_option linter.unusedSimpArgs false
set_option linter.unusedVariables false
set_option maxRecDepth 100000
theorem Ya{a d:Int}{ns es:List (List Int)}(h:Gf a d ns es=true):(1≤a∧a≤8)∧(1≤d∧d≤4)∧GB ns d a=true∧GB es 2 a=true:=by
 simp only [Gf,Bool.and_eq_true]at h
 exact⟨FG.1 h.1.1.1,FG.1 h.1.1.2,h.1.2,h.2⟩
theorem dR{l:List (List Int)}{s n:Int}(h:GB l s n=true){x:List Int}(hx:x∈l):(x.length:Int)=s∧DU x=true∧CV x 0 (n-1)=true:=by
 obtain⟨i,hi,rfl⟩:=Mx.1 hx
 have:=BW.1 h i hi
 unfold JD at this
 simp only [Bool.and_eq_true,decide_eq_true_eq]at this
 exact⟨this.1.1.1,this.1.1.2,this.1.2⟩
end Go.Proofs.YtipfckompmhljaaGreat
