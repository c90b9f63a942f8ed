/- The steps of an elimination: sizes. Conditions: those in each lemma. -/
import Derived.Test.YtjhjkfoabhplfaaGreatL6
import Derived.Test.YtjhjkfoabhplfaaGreatEsb
import Derived.Test.YtjhjkfoabhplfaaGreatEsc
namespace Go.Proofs.YtjhjkfoabhplfaaGreat
open Go Dv
set_option linter.unusedSimpArgs false
set_option linter.unusedVariables false
set_option maxRecDepth 100000
theorem qZ{n D:Int}{ns es:AO}(h:N8 n D ns es=true):(1≤n∧n≤8)∧(1≤D∧D≤4)∧MQ ns D n=true∧MQ es 2 n=true:=by
 unfold N8 at h;simp only [KG,NR]at h
 exact⟨h.1.1.1,h.1.1.2,h.1.2,h.2⟩
theorem A07{full:AO}{w:Nat}(h:FullOk full w): ∀s∈BG full,0≤s∧s≤255:=fun s hs=>by
 obtain⟨x,hx,hsx⟩:=(Lm full s).1 hs;have:=(h.row x hx).2 s hsx;omega
def okR(ns es:AO)(r:AL):Prop:=BB ns∧BB es∧ns.length≤1000000∧es.length≤1000000∧DC ns≤4000000∧DC es≤4000000∧r.length≤8
theorem qa{full:AO}{w:Nat}(h:FullOk full w):(Ih full).length≤1000000∧ ∀x∈Ih full,x.length=w:=by
 have:=h.len
 refine⟨?_,fun x hx=>(Zb h x ((Sj _ _).1 hx)).1⟩
 unfold Ih Dv.dedL;have h1:=Dv.keptL_le (Dv.kpL (F6 (Ps full))) (F6 (Ps full)).length;rw [KP]at h1;have h2:(Ps full).length=full.length:=by simp [Ps]
 rw [TL,KP];omega
end Go.Proofs.YtjhjkfoabhplfaaGreat
