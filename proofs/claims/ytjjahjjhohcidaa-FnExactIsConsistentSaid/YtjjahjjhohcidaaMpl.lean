/- Maps of numbers, as plain functions. Conditions: none. -/
import Derived.Test.YtjjahjjhohcidaaL6
import Derived.Test.YtjjahjjhohcidaaDt
namespace Go.Proofs.Ytjjahjjhohcidaa
open Go Dv
set_option linter.unusedSimpArgs false
set_option linter.unusedVariables false
set_option maxRecDepth 100000
theorem S4(l:List (Int×Int))(k v k':Int):Bf (KE l k v) k'=if k'=k then(v,true)else Bf l k':=by
 have key: ∀l:List (Int×Int),(match (match l.findIdx? (fun p:Int×Int=>p.1==k)with | some i=>l.set i (k,v) | none=>l++[(k,v)]).find? (fun p:Int×Int=>p.1==k')with | some p=>(p.2,true) | none=>((0:Int),false))=if k'=k then(v,true)else(match l.find? (fun p:Int×Int=>p.1==k')with | some p=>(p.2,true) | none=>((0:Int),false)):=by
  intro l
  induction l with
  | nil=>
   by_cases e:k'=k
   ·subst e;simp
   ·rw [if_neg e]
    have:(k==k')=false:=by simpa using fun c:k=k'=>e c.symm
    simp [this]
  | cons p l ih=>
   rw [List.findIdx?_cons]
   by_cases h1:p.1=k
   ·rw [if_pos (by simpa using h1)]
    simp only [List.set_cons_zero]
    by_cases e:k'=k
    ·subst e;simp
    ·rw [if_neg e]
     have h2:(k==k')=false:=by simpa using fun c:k=k'=>e c.symm
     have h3:(p.1==k')=false:=by rw [h1];exact h2
     rw [List.find?_cons,h2,List.find?_cons,h3]
   ·rw [if_neg (by simpa using h1)]
    cases hf:l.findIdx? (fun p:Int×Int=>p.1==k)with
    | none=>
     rw [hf]at ih
     simp only [Option.map_none]
     rw [List.cons_append,List.find?_cons]
     by_cases e:p.1=k'
     ·have: ¬k'=k:=fun c=>h1 (e.trans c)
      rw [if_neg this,List.find?_cons]
      have h3:(p.1==k')=true:=by simpa using e
      rw [h3]
     ·have h3:(p.1==k')=false:=by simpa using e
      rw [h3];simp only [List.find?_cons,h3]
      exact ih
    | some i=>
     rw [hf]at ih
     simp only [Option.map_some,List.set_cons_succ]
     rw [List.find?_cons]
     by_cases e:p.1=k'
     ·have: ¬k'=k:=fun c=>h1 (e.trans c)
      rw [if_neg this,List.find?_cons]
      have h3:(p.1==k')=true:=by simpa using e
      rw [h3]
     ·have h3:(p.1==k')=false:=by simpa using e
      rw [h3];simp only [List.find?_cons,h3]
      exact ih
 exact key l
end Go.Proofs.Ytjjahjjhohcidaa
