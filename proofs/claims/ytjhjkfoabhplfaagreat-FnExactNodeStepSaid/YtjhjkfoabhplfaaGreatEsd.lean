/- The steps of an elimination: sizes. Conditions: those in each lemma. -/
import Derived.Test.YtjhjkfoabhplfaaGreatL6
import Derived.Test.YtjhjkfoabhplfaaGreatEsb
import Derived.Test.YtjhjkfoabhplfaaGreatEsc
namespace Go.Proofs.YtjhjkfoabhplfaaGreat
open Go Dv
set_option linter.unusedSimpArgs false
set_option linter.unusedVariables false
set_option maxRecDepth 100000
theorem oD{n D:Int}{ns es:List (List Int)}(h:Kc n D ns es=true):(1≤n∧n≤8)∧(1≤D∧D≤4)∧KC ns D n=true∧KC es 2 n=true:=by
 unfold Kc at h;simp only [JM,MI]at h
 exact⟨h.1.1.1,h.1.1.2,h.1.2,h.2⟩
theorem zF{full:List (List Int)}{w:Nat}(h:FullOk full w): ∀s∈Ap full,0≤s∧s≤255:=fun s hs=>by
 obtain⟨x,hx,hsx⟩:=(Ki full s).1 hs;have:=(h.row x hx).2 s hsx;omega
def okR(ns es:List (List Int))(r:List Int):Prop:=Ak ns∧Ak es∧ns.length≤1000000∧es.length≤1000000∧Bz ns≤4000000∧Bz es≤4000000∧r.length≤8
theorem oG{full:List (List Int)}{w:Nat}(h:FullOk full w):(H9 full).length≤1000000∧ ∀x∈H9 full,x.length=w:=by
 have:=h.len
 refine⟨?_,fun x hx=>(Yb h x ((RZ _ _).1 hx)).1⟩
 unfold H9 Dv.dedL;have h1:=Dv.keptL_le (Dv.kpL (EO (Oh full))) (EO (Oh full)).length;rw [JV]at h1;have h2:(Oh full).length=full.length:=by simp [Oh]
 rw [S9,JV];omega
end Go.Proofs.YtjhjkfoabhplfaaGreat
