/- What a problem's lists are; sorted lists. Conditions: none. -/
import Derived.Test.YtclkfhhdikfcpaaL6
import Derived.Test.YtclkfhhdikfcpaaHas
namespace Go.Proofs.Ytclkfhhdikfcpaa
open Go Dv
set_option linter.unusedSimpArgs false
set_option linter.unusedVariables false
set_option maxRecDepth 100000
theorem TV{a d:Int}{ns es:List (List Int)}(h:F4 a d ns es=true):(1≤a∧a≤8)∧(1≤d∧d≤4)∧Hd ns d a=true∧Hd es 2 a=true:=by
 simp only [F4,Hm]at h
 exact⟨Kj.1 h.1.1.1,Kj.1 h.1.1.2,h.1.2,h.2⟩
theorem NN{l:List (List Int)}{s n:Int}(h:Hd l s n=true){x:List Int}(hx:x∈l):(x.length:Int)=s∧Eu x=true∧J2 x 0 (n-1)=true:=by
 obtain⟨i,hi,rfl⟩:=TR.1 hx;have:=F5.1 h i hi
 unfold Kt at this;simp only [Hm,decide_eq_true_eq]at this
 exact⟨this.1.1.1,this.1.1.2,this.1.2⟩
theorem WW: ∀ {l:List Int},Eu l=true→l.Pairwise (fun a b=>a≤b):=by
 intro l
 induction l with
 |nil=>intro _;exact List.Pairwise.nil
 |cons x l ih=>
  intro h;have h0:=F5.1 h
  have ht:Eu l=true:=by
   refine F5.2 fun i hi=> ?_;have:=h0 (i+1) (by simp only [Jn];omega)
   simpa using this
  have hp:=ih ht;refine List.pairwise_cons.2 ⟨fun y hy=> ?_,hp⟩
  cases l with
  |nil=>cases hy
  |cons z l=>
   have hz:x≤z:=by
    have:=h0 0 (by simp)
    simpa using this
   rcases Pg.1 hy with rfl|hy
   ·exact hz
   ·have:=(List.pairwise_cons.1 hp).1 y hy;omega
end Go.Proofs.Ytclkfhhdikfcpaa
