/- Lists that strictly increase, as plain functions. Conditions: those in each lemma. -/
import Derived.Test.YtjhjkfoabhplfaaGreatL6
import Derived.Test.YtjhjkfoabhplfaaGreatFst
namespace Go.Proofs.YtjhjkfoabhplfaaGreat
open Go Dv
set_option linter.unusedSimpArgs false
set_option linter.unusedVariables false
set_option maxRecDepth 100000
abbrev Ow(l:List Int):Prop:=l.Pairwise fun a b=>a<b
theorem YU: ∀ {a b:List Int},Ow a→Ow b→(∀x,x∈a↔x∈b)→a=b
 | [],[],_,_,_=>rfl
 | [],y::b,_,_,h=>absurd ((h y).2 Iu) (by simp)
 | x::a,[],_,_,h=>absurd ((h x).1 Iu) (by simp)
 | x::a,y::b,ha,hb,h=>by
  have ha':=Ug.1 ha;have hb':=Ug.1 hb
  have e:x=y:=by
   have h1:=(h x).1 Iu;have h2:=(h y).2 Iu;rcases Li.1 h1 with h1 | h1
   ·exact h1
   ·rcases Li.1 h2 with h2 | h2
    ·exact h2.symm
    ·have:=ha'.1 _ h2;have:=hb'.1 _ h1;omega
  subst e;rw [YU ha'.2 hb'.2 fun z=> ?_];have hz:=h z;rw [Li,Li]at hz
  constructor
  ·intro hm;have:=ha'.1 _ hm
   rcases hz.1 (.inr hm)with e | e
   ·omega
   ·exact e
  ·intro hm;have:=hb'.1 _ hm
   rcases hz.2 (.inr hm)with e | e
   ·omega
   ·exact e
def RV:List Int→Int→List Int
 | [],x=>[x]
 | a::l,x=>if a<x then a::RV l x else if a=x then a::l else x::a::l
theorem YV: ∀(l:List Int) (x y:Int),y∈RV l x↔y=x∨y∈l
 | [],x,y=>by simp [RV]
 | a::l,x,y=>by
  unfold RV;by_cases h1:a<x
  ·rw [if_pos h1,Li,YV l x y,Li]
   constructor
   ·rintro(h | h | h)<;>simp [h]
   ·rintro(h | h | h)<;>simp [h]
  ·rw [if_neg h1];by_cases h2:a=x
   ·rw [if_pos h2,Li];subst h2
    constructor
    ·intro h;exact .inr h
    ·rintro(h | h)
     ·exact .inl h
     ·exact h
   ·rw [if_neg h2,Li]
theorem aI: ∀(l:List Int) (x:Int),Ow l→Ow (RV l x)
 | [],x,_=>by simp [RV]
 | a::l,x,h=>by
  have h':=Ug.1 h;unfold RV;by_cases h1:a<x
  ·rw [if_pos h1];refine Ug.2 ⟨fun y hy=> ?_,aI l x h'.2⟩
   rcases(YV l x y).1 hy with e | e
   ·omega
   ·exact h'.1 _ e
  ·rw [if_neg h1];by_cases h2:a=x
   ·rw [if_pos h2];exact h
   ·rw [if_neg h2];refine Ug.2 ⟨fun y hy=> ?_,h⟩;rcases Li.1 hy with e | e
    ·omega
    ·have:=h'.1 _ e;omega
theorem kE: ∀(l:List Int) (x:Int),(RV l x).length≤l.length+1
 | [],_=>IB _
 | a::l,x=>by
  unfold RV;have:=kE l x
  split
  ·simp only [Ik];omega
  ·split<;>simp
def DT(l:List Int)(x:Int):Nat:=l.countP fun a=>decide (a<x)
theorem YW(l:List Int)(x:Int):DT l x≤l.length:=List.countP_le_length
theorem NS: ∀ {l:List Int} {x:Int},Ow l→ ∀i (h:i<l.length),l[i]<x↔i<DT l x
 | a::l,x,hs,i,h=>by
  have h':=Ug.1 hs;unfold DT;rw [List.countP_cons];by_cases h1:a<x
  ·rw [if_pos (by simpa using h1)]
   cases i with
   | zero=>simp only [List.getElem_cons_zero];exact⟨fun _=>by omega,fun _=>h1⟩
   | succ i=>
    have:=NS (x:=x) h'.2 i (by simpa using h)
    simp only [List.getElem_cons_succ];rw [this];unfold DT;omega
  ·rw [if_neg (by simpa using h1)]
   have h0:l.countP (fun a=>decide (a<x))=0:=by
    rw [List.countP_eq_zero]
    intro b hb;have:=h'.1 _ hb;simp;omega
   rw [h0]
   cases i with
   | zero=>simp only [List.getElem_cons_zero];omega
   | succ i=>
    have:=h'.1 _ (FE (by simpa using h:i<l.length))
    simp only [List.getElem_cons_succ];omega
theorem kF: ∀ {l:List Int} (x:Int),Ow l→RV l x=if DT l x<l.length∧l.getD (DT l x) default=x then l else l.take (DT l x)++[x]++l.drop (DT l x)
 | [],x,_=>rfl
 | a::l,x,hs=>by
  have h':=Ug.1 hs;unfold RV DT;rw [List.countP_cons];by_cases h1:a<x
  ·rw [if_pos h1,if_pos (decide_eq_true h1),kF x h'.2];unfold DT;have e: ∀k,(a::l).getD (k+1) default=l.getD k default:=fun k=>rfl;rw [e,Ik];by_cases h2:l.countP (fun a=>decide (a<x))<l.length∧l.getD (l.countP fun a=>decide (a<x)) default=x
   ·rw [if_pos h2,if_pos ⟨by omega,h2.2⟩]
   ·rw [if_neg h2,if_neg (fun c=>h2 ⟨by omega,c.2⟩)];rfl
  ·rw [if_neg h1,if_neg (fun c=>h1 (of_decide_eq_true c))]
   have h0:l.countP (fun a=>decide (a<x))=0:=by
    rw [List.countP_eq_zero]
    intro b hb;have:=h'.1 _ hb;simp;omega
   rw [h0];by_cases h2:a=x
   ·rw [if_pos h2,if_pos ⟨by simp,h2⟩]
   ·rw [if_neg h2,if_neg (fun c=>h2 c.2)];rfl
def GN(l xs:List Int):List Int:=xs.foldl RV l
theorem YX(xs:List Int): ∀(l:List Int) (y:Int),y∈GN l xs↔y∈l∨y∈xs:=by
 unfold GN
 induction xs with
 | nil=>intro l y;simp
 | cons x xs ih=>
  intro l y;rw [Vv,ih,YV,Li]
  constructor
  ·rintro((h | h) | h)<;>simp [h]
  ·rintro(h | h | h)<;>simp [h]
theorem RX(xs:List Int): ∀(l:List Int),Ow l→Ow (GN l xs):=by
 unfold GN
 induction xs with
 | nil=>intro l h;exact h
 | cons x xs ih=>intro l h;exact ih _ (aI l x h)
theorem YY{l:List Int}{n:Nat}(h:Ow l)(hr: ∀x∈l,0≤x∧x<n):l.length≤n:=by
 have key: ∀(l:List Int) (a:Int),Ow l→(∀x∈l,a≤x∧x<n)→a≤n→(l.length:Int)≤n-a:=by
  intro l
  induction l with
  | nil=>intro a _ _ h;simp only [Qe];omega
  | cons x l ih=>
   intro a hs hr ha;have h':=Ug.1 hs;have hx:=hr x Iu;have:=ih (x+1) h'.2 (fun y hy=>⟨by have:=h'.1 _ hy;omega,(hr y (Jp _ hy)).2⟩) (by omega)
   simp only [Ik];omega
 have:=key l 0 h hr (by omega)
 omega
end Go.Proofs.YtjhjkfoabhplfaaGreat
