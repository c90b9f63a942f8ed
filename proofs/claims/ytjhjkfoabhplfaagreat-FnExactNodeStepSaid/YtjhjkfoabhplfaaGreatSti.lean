/- Lists that strictly increase, as plain functions. Conditions: those in each lemma. -/
import Derived.Test.YtjhjkfoabhplfaaGreatL6
import Derived.Test.YtjhjkfoabhplfaaGreatFst
namespace Go.Proofs.YtjhjkfoabhplfaaGreat
open Go Dv
set_option linter.unusedSimpArgs false
set_option linter.unusedVariables false
set_option maxRecDepth 100000
abbrev Q6(l:AL):Prop:=l.Pairwise fun a b=>a<b
theorem ZU: ∀ {a b:AL},Q6 a→Q6 b→(∀x,x∈a↔x∈b)→a=b
 | [],[],_,_,_=>rfl
 | [],y::b,_,_,h=>absurd ((h y).2 Jq) (by simp)
 |x::a,[],_,_,h=>absurd ((h x).1 Jq) (by simp)
 |x::a,y::b,ha,hb,h=>by
  have ha':=Va.1 ha;have hb':=Va.1 hb
  have e:x=y:=by
   have h1:=(h x).1 Jq;have h2:=(h y).2 Jq;rcases Ms.1 h1 with h1|h1
   ·exact h1
   ·rcases Ms.1 h2 with h2|h2
    ·exact h2.symm
    ·have:=ha'.1 _ h2;have:=hb'.1 _ h1;omega
  subst e;rw [ZU ha'.2 hb'.2 fun z=> ?_];have hz:=h z;rw [Ms,Ms]at hz
  constructor
  ·intro hm;have:=ha'.1 _ hm
   rcases hz.1 (.inr hm)with e|e
   ·omega
   ·exact e
  ·intro hm;have:=hb'.1 _ hm
   rcases hz.2 (.inr hm)with e|e
   ·omega
   ·exact e
def Sd:AL→Int→AL
 | [],x=>[x]
 |a::l,x=>if a<x then a::Sd l x else if a=x then a::l else x::a::l
theorem ZV: ∀(l:AL) (x y:Int),y∈Sd l x↔y=x∨y∈l
 | [],x,y=>by simp [Sd]
 |a::l,x,y=>by
  unfold Sd;by_cases h1:a<x
  ·rw [if_pos h1,Ms,ZV l x y,Ms]
   constructor
   ·rintro(h|h|h)<;>simp [h]
   ·rintro(h|h|h)<;>simp [h]
  ·rw [if_neg h1];by_cases h2:a=x
   ·rw [if_pos h2,Ms];subst h2
    constructor
    ·intro h;exact .inr h
    ·rintro(h|h)
     ·exact .inl h
     ·exact h
   ·rw [if_neg h2,Ms]
theorem cz: ∀(l:AL) (x:Int),Q6 l→Q6 (Sd l x)
 | [],x,_=>by simp [Sd]
 |a::l,x,h=>by
  have h':=Va.1 h;unfold Sd;by_cases h1:a<x
  ·rw [if_pos h1];refine Va.2 ⟨fun y hy=> ?_,cz l x h'.2⟩
   rcases(ZV l x y).1 hy with e|e
   ·omega
   ·exact h'.1 _ e
  ·rw [if_neg h1];by_cases h2:a=x
   ·rw [if_pos h2];exact h
   ·rw [if_neg h2];refine Va.2 ⟨fun y hy=> ?_,h⟩;rcases Ms.1 hy with e|e
    ·omega
    ·have:=h'.1 _ e;omega
theorem mG: ∀(l:AL) (x:Int),(Sd l x).length≤l.length+1
 | [],_=>JE _
 |a::l,x=>by
  unfold Sd;have:=mG l x
  split
  ·simp only [Ji];omega
  ·split<;>simp
def EB(l:AL)(x:Int):Nat:=l.countP fun a=>decide (a<x)
theorem ZW(l:AL)(x:Int):EB l x≤l.length:=List.countP_le_length
theorem Oa: ∀ {l:AL} {x:Int},Q6 l→ ∀i (h:i<l.length),l[i]<x↔i<EB l x
 |a::l,x,hs,i,h=>by
  have h':=Va.1 hs;unfold EB;rw [List.countP_cons];by_cases h1:a<x
  ·rw [if_pos (by simpa using h1)]
   cases i with
   |zero=>simp only [List.getElem_cons_zero];exact⟨fun _=>by omega,fun _=>h1⟩
   |succ i=>
    have:=Oa (x:=x) h'.2 i (by simpa using h)
    simp only [List.getElem_cons_succ];rw [this];unfold EB;omega
  ·rw [if_neg (by simpa using h1)]
   have h0:l.countP (fun a=>decide (a<x))=0:=by
    rw [List.countP_eq_zero]
    intro b hb;have:=h'.1 _ hb;simp;omega
   rw [h0]
   cases i with
   |zero=>simp only [List.getElem_cons_zero];omega
   |succ i=>
    have:=h'.1 _ (GG (by simpa using h:i<l.length))
    simp only [List.getElem_cons_succ];omega
theorem mH: ∀ {l:AL} (x:Int),Q6 l→Sd l x=if EB l x<l.length∧l.getD (EB l x) default=x then l else l.take (EB l x)++[x]++l.drop (EB l x)
 | [],x,_=>rfl
 |a::l,x,hs=>by
  have h':=Va.1 hs;unfold Sd EB;rw [List.countP_cons];by_cases h1:a<x
  ·rw [if_pos h1,if_pos (decide_eq_true h1),mH x h'.2];unfold EB;have e: ∀k,(a::l).getD (k+1) default=l.getD k default:=fun k=>rfl;rw [e,Ji];by_cases h2:l.countP (fun a=>decide (a<x))<l.length∧l.getD (l.countP fun a=>decide (a<x)) default=x
   ·rw [if_pos h2,if_pos ⟨by omega,h2.2⟩]
   ·rw [if_neg h2,if_neg (fun c=>h2 ⟨by omega,c.2⟩)];rfl
  ·rw [if_neg h1,if_neg (fun c=>h1 (of_decide_eq_true c))]
   have h0:l.countP (fun a=>decide (a<x))=0:=by
    rw [List.countP_eq_zero]
    intro b hb;have:=h'.1 _ hb;simp;omega
   rw [h0];by_cases h2:a=x
   ·rw [if_pos h2,if_pos ⟨by simp,h2⟩]
   ·rw [if_neg h2,if_neg (fun c=>h2 c.2)];rfl
def Ht(l xs:AL):AL:=xs.foldl Sd l
theorem ZX(xs:AL): ∀(l:AL) (y:Int),y∈Ht l xs↔y∈l∨y∈xs:=by
 unfold Ht
 induction xs with
 |nil=>intro l y;simp
 |cons x xs ih=>
  intro l y;rw [X5,ih,ZV,Ms]
  constructor
  ·rintro((h|h)|h)<;>simp [h]
  ·rintro(h|h|h)<;>simp [h]
theorem Sg(xs:AL): ∀(l:AL),Q6 l→Q6 (Ht l xs):=by
 unfold Ht
 induction xs with
 |nil=>intro l h;exact h
 |cons x xs ih=>intro l h;exact ih _ (cz l x h)
theorem ZY{l:AL}{n:Nat}(h:Q6 l)(hr: ∀x∈l,0≤x∧x<n):l.length≤n:=by
 have key: ∀(l:AL) (a:Int),Q6 l→(∀x∈l,a≤x∧x<n)→a≤n→(l.length:Int)≤n-a:=by
  intro l
  induction l with
  |nil=>intro a _ _ h;simp only [Re];omega
  |cons x l ih=>
   intro a hs hr ha;have h':=Va.1 hs;have hx:=hr x Jq;have:=ih (x+1) h'.2 (fun y hy=>⟨by have:=h'.1 _ hy;omega,(hr y (Kn _ hy)).2⟩) (by omega)
   simp only [Ji];omega
 have:=key l 0 h hr (by omega)
 omega
end Go.Proofs.YtjhjkfoabhplfaaGreat
