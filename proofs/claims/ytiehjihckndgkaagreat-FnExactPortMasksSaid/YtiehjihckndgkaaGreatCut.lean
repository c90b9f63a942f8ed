/- What a problem's lists are; sorted lists. Conditions: none. -/
import Derived.Test.YtiehjihckndgkaaGreatL6
import Derived.Test.YtiehjihckndgkaaGreatHas
namespace Go.Proofs.YtiehjihckndgkaaGreat
open Go Dv
set_option linter.unusedSimpArgs false
set_option linter.unusedVariables false
set_option maxRecDepth 100000
theorem YD{a d:Int}{ns es:List (List Int)}(h:Kq a d ns es=true):(1≤a∧a≤8)∧(1≤d∧d≤4)∧KU ns d a=true∧KU es 2 a=true:=by
 simp only [Kq,Fa]at h
 exact⟨Gb.1 h.1.1.1,Gb.1 h.1.1.2,h.1.2,h.2⟩
theorem YE{l:List (List Int)}{s n:Int}(h:KU l s n=true){x:List Int}(hx:x∈l):(x.length:Int)=s∧G8 x=true∧DC x 0 (n-1)=true:=by
 obtain⟨i,hi,rfl⟩:=Xo.1 hx;have:=CW.1 h i hi
 unfold OD at this;simp only [Fa,decide_eq_true_eq]at this
 exact⟨this.1.1.1,this.1.1.2,this.1.2⟩
theorem dn: ∀ {l:List Int},G8 l=true→l.Pairwise (fun a b=>a≤b):=by
 intro l
 induction l with
 |nil=>intro _;exact List.Pairwise.nil
 |cons x l ih=>
  intro h;have h0:=CW.1 h
  have ht:G8 l=true:=by
   refine CW.2 fun i hi=> ?_;have:=h0 (i+1) (by simp only [Lt];omega)
   simpa using this
  have hp:=ih ht;refine List.pairwise_cons.2 ⟨fun y hy=> ?_,hp⟩
  cases l with
  |nil=>cases hy
  |cons z l=>
   have hz:x≤z:=by
    have:=h0 0 (by simp)
    simpa using this
   rcases Rv.1 hy with rfl|hy
   ·exact hz
   ·have:=(List.pairwise_cons.1 hp).1 y hy;omega
end Go.Proofs.YtiehjihckndgkaaGreat
