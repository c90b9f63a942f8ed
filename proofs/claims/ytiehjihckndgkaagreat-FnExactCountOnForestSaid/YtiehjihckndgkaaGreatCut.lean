/- What a problem's lists are; sorted lists. Conditions: none. -/
import Derived.Test.YtiehjihckndgkaaGreatL6
import Derived.Test.YtiehjihckndgkaaGreatHas
namespace Go.Proofs.YtiehjihckndgkaaGreat
open Go Dv
set_option linter.unusedSimpArgs false
set_option linter.unusedVariables false
set_option maxRecDepth 100000
theorem Uu{a d:Int}{ns es:AY}(h:MC a d ns es=true):(1≤a∧a≤8)∧(1≤d∧d≤4)∧MH ns d a=true∧MH es 2 a=true:=by
 simp only [MC,Gb]at h
 exact⟨Fg.1 h.1.1.1,Fg.1 h.1.1.2,h.1.2,h.2⟩
theorem WK{l:AY}{s n:Int}(h:MH l s n=true){x:AB}(hx:x∈l):(x.length:Int)=s∧Gt x=true∧GG x 0 (n-1)=true:=by
 obtain⟨i,hi,rfl⟩:=ay.1 hx;have:=DV.1 h i hi
 unfold Qa at this;simp only [Gb,decide_eq_true_eq]at this
 exact⟨this.1.1.1,this.1.1.2,this.1.2⟩
theorem mR: ∀ {l:AB},Gt l=true→l.Pairwise (fun a b=>a≤b):=by
 intro l
 induction l with
 |nil=>intro _;exact List.Pairwise.nil
 |cons x l ih=>
  intro h;have h0:=DV.1 h
  have ht:Gt l=true:=by
   refine DV.2 fun i hi=> ?_;have:=h0 (i+1) (by simp only [Lb];omega)
   simpa using this
  have hp:=ih ht;refine List.pairwise_cons.2 ⟨fun y hy=> ?_,hp⟩
  cases l with
  |nil=>cases hy
  |cons z l=>
   have hz:x≤z:=by
    have:=h0 0 (by simp)
    simpa using this
   rcases SK.1 hy with rfl|hy
   ·exact hz
   ·have:=(List.pairwise_cons.1 hp).1 y hy;omega
end Go.Proofs.YtiehjihckndgkaaGreat
