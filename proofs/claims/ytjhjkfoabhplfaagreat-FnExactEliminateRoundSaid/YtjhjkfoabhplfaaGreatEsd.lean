/- The steps of an elimination: sizes. Conditions: those in each lemma. -/
import Derived.Test.YtjhjkfoabhplfaaGreatL6
import Derived.Test.YtjhjkfoabhplfaaGreatEsb
import Derived.Test.YtjhjkfoabhplfaaGreatEsc
namespace Go.Proofs.YtjhjkfoabhplfaaGreat
open Go Dv
set_option linter.unusedSimpArgs false
set_option linter.unusedVariables false
set_option maxRecDepth 100000
theorem ae{n D:Int}{ns es:AL}(h:LM n D ns es=true):(1≤n∧n≤8)∧(1≤D∧D≤4)∧MI ns D n=true∧MI es 2 n=true:=by
 unfold LM at h;simp only [Ju,MG]at h
 exact⟨h.1.1.1,h.1.1.2,h.1.2,h.2⟩
theorem af{full:AL}{w:Nat}(h:FullOk full w): ∀s∈Al full,0≤s∧s≤255:=fun s hs=>by
 obtain⟨x,hx,hsx⟩:=(LZ full s).1 hs;have:=(h.row x hx).2 s hsx;omega
def y7(ns es:AL)(r:AA):Prop:=Ah ns∧Ah es∧ns.length≤1000000∧es.length≤1000000∧Bi ns≤4000000∧Bi es≤4000000∧r.length≤8
theorem ah{full:AL}{w:Nat}(h:FullOk full w):(Fg full).length≤1000000∧ ∀x∈Fg full,x.length=w:=by
 have:=h.len
 refine⟨?_,fun x hx=>(aU h x ((TM _ _).1 hx)).1⟩
 unfold Fg Dv.dedL;have h1:=Dv.keptL_le (Dv.kpL (EX (QA full))) (EX (QA full)).length;rw [K6]at h1;have h2:(QA full).length=full.length:=by simp [QA]
 rw [R4,K6];omega
end Go.Proofs.YtjhjkfoabhplfaaGreat
