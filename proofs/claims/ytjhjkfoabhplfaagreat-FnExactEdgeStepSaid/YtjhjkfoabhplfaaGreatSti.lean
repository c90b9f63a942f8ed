/- Lists that strictly increase, as plain functions. Conditions: those in each lemma. -/
import Derived.Test.YtjhjkfoabhplfaaGreatL6
import Derived.Test.YtjhjkfoabhplfaaGreatFst
namespace Go.Proofs.YtjhjkfoabhplfaaGreat
open Go Dv
set_option linter.unusedSimpArgs false
set_option linter.unusedVariables false
set_option maxRecDepth 100000
abbrev Mq(l:List Int):Prop:=l.Pairwise fun a b=>a<b
theorem eZ: ∀ {a b:List Int},Mq a→Mq b→(∀x,x∈a↔x∈b)→a=b
 | [],[],_,_,_=>rfl
 | [],y::b,_,_,h=>absurd ((h y).2 List.mem_cons_self) (by simp)
 | x::a,[],_,_,h=>absurd ((h x).1 List.mem_cons_self) (by simp)
 | x::a,y::b,ha,hb,h=>by
  have ha':=List.pairwise_cons.1 ha;have hb':=List.pairwise_cons.1 hb
  have e:x=y:=by
   have h1:=(h x).1 List.mem_cons_self;have h2:=(h y).2 List.mem_cons_self;rcases List.mem_cons.1 h1 with h1 | h1
   ·exact h1
   ·rcases List.mem_cons.1 h2 with h2 | h2
    ·exact h2.symm
    ·have:=ha'.1 _ h2;have:=hb'.1 _ h1;omega
  subst e;rw [eZ ha'.2 hb'.2 fun z=> ?_];have hz:=h z;rw [List.mem_cons,List.mem_cons]at hz
  constructor
  ·intro hm;have:=ha'.1 _ hm
   rcases hz.1 (.inr hm)with e | e
   ·omega
   ·exact e
  ·intro hm;have:=hb'.1 _ hm
   rcases hz.2 (.inr hm)with e | e
   ·omega
   ·exact e
def PG:List Int→Int→List Int
 | [],x=>[x]
 | a::l,x=>if a<x then a::PG l x else if a=x then a::l else x::a::l
theorem WE: ∀(l:List Int) (x y:Int),y∈PG l x↔y=x∨y∈l
 | [],x,y=>by simp [PG]
 | a::l,x,y=>by
  unfold PG;by_cases h1:a<x
  ·rw [if_pos h1,List.mem_cons,WE l x y,List.mem_cons]
   constructor
   ·rintro(h | h | h)<;>simp [h]
   ·rintro(h | h | h)<;>simp [h]
  ·rw [if_neg h1];by_cases h2:a=x
   ·rw [if_pos h2,List.mem_cons];subst h2
    constructor
    ·intro h;exact .inr h
    ·rintro(h | h)
     ·exact .inl h
     ·exact h
   ·rw [if_neg h2,List.mem_cons]
theorem Xy: ∀(l:List Int) (x:Int),Mq l→Mq (PG l x)
 | [],x,_=>by simp [PG]
 | a::l,x,h=>by
  have h':=List.pairwise_cons.1 h;unfold PG;by_cases h1:a<x
  ·rw [if_pos h1];refine List.pairwise_cons.2 ⟨fun y hy=> ?_,Xy l x h'.2⟩
   rcases(WE l x y).1 hy with e | e
   ·omega
   ·exact h'.1 _ e
  ·rw [if_neg h1];by_cases h2:a=x
   ·rw [if_pos h2];exact h
   ·rw [if_neg h2];refine List.pairwise_cons.2 ⟨fun y hy=> ?_,h⟩;rcases List.mem_cons.1 hy with e | e
    ·omega
    ·have:=h'.1 _ e;omega
theorem ed: ∀(l:List Int) (x:Int),(PG l x).length≤l.length+1
 | [],_=>Nat.le_refl _
 | a::l,x=>by
  unfold PG;have:=ed l x
  split
  ·simp only [List.length_cons];omega
  ·split<;>simp
def Cy(l:List Int)(x:Int):Nat:=l.countP fun a=>decide (a<x)
theorem WF(l:List Int)(x:Int):Cy l x≤l.length:=List.countP_le_length
theorem LW: ∀ {l:List Int} {x:Int},Mq l→ ∀i (h:i<l.length),l[i]<x↔i<Cy l x
 | a::l,x,hs,i,h=>by
  have h':=List.pairwise_cons.1 hs;unfold Cy;rw [List.countP_cons];by_cases h1:a<x
  ·rw [if_pos (by simpa using h1)]
   cases i with
   | zero=>simp only [List.getElem_cons_zero];exact⟨fun _=>by omega,fun _=>h1⟩
   | succ i=>
    have:=LW (x:=x) h'.2 i (by simpa using h)
    simp only [List.getElem_cons_succ];rw [this];unfold Cy;omega
  ·rw [if_neg (by simpa using h1)]
   have h0:l.countP (fun a=>decide (a<x))=0:=by
    rw [List.countP_eq_zero]
    intro b hb;have:=h'.1 _ hb;simp;omega
   rw [h0]
   cases i with
   | zero=>simp only [List.getElem_cons_zero];omega
   | succ i=>
    have:=h'.1 _ (List.getElem_mem (by simpa using h:i<l.length))
    simp only [List.getElem_cons_succ];omega
theorem eu: ∀ {l:List Int} (x:Int),Mq l→PG l x=if Cy l x<l.length∧l.getD (Cy l x) default=x then l else l.take (Cy l x)++[x]++l.drop (Cy l x)
 | [],x,_=>rfl
 | a::l,x,hs=>by
  have h':=List.pairwise_cons.1 hs;unfold PG Cy;rw [List.countP_cons];by_cases h1:a<x
  ·rw [if_pos h1,if_pos (decide_eq_true h1),eu x h'.2];unfold Cy;have e: ∀k,(a::l).getD (k+1) default=l.getD k default:=fun k=>rfl;rw [e,List.length_cons];by_cases h2:l.countP (fun a=>decide (a<x))<l.length∧l.getD (l.countP fun a=>decide (a<x)) default=x
   ·rw [if_pos h2,if_pos ⟨by omega,h2.2⟩]
   ·rw [if_neg h2,if_neg (fun c=>h2 ⟨by omega,c.2⟩)];rfl
  ·rw [if_neg h1,if_neg (fun c=>h1 (of_decide_eq_true c))]
   have h0:l.countP (fun a=>decide (a<x))=0:=by
    rw [List.countP_eq_zero]
    intro b hb;have:=h'.1 _ hb;simp;omega
   rw [h0];by_cases h2:a=x
   ·rw [if_pos h2,if_pos ⟨by simp,h2⟩]
   ·rw [if_neg h2,if_neg (fun c=>h2 c.2)];rfl
def FU(l xs:List Int):List Int:=xs.foldl PG l
theorem WG(xs:List Int): ∀(l:List Int) (y:Int),y∈FU l xs↔y∈l∨y∈xs:=by
 unfold FU
 induction xs with
 | nil=>intro l y;simp
 | cons x xs ih=>
  intro l y;rw [List.foldl_cons,ih,WE,List.mem_cons]
  constructor
  ·rintro((h | h) | h)<;>simp [h]
  ·rintro(h | h | h)<;>simp [h]
theorem PH(xs:List Int): ∀(l:List Int),Mq l→Mq (FU l xs):=by
 unfold FU
 induction xs with
 | nil=>intro l h;exact h
 | cons x xs ih=>intro l h;exact ih _ (Xy l x h)
theorem WH{l:List Int}{n:Nat}(h:Mq l)(hr: ∀x∈l,0≤x∧x<n):l.length≤n:=by
 have key: ∀(l:List Int) (a:Int),Mq l→(∀x∈l,a≤x∧x<n)→a≤n→(l.length:Int)≤n-a:=by
  intro l
  induction l with
  | nil=>intro a _ _ h;simp only [List.length_nil];omega
  | cons x l ih=>
   intro a hs hr ha;have h':=List.pairwise_cons.1 hs;have hx:=hr x List.mem_cons_self;have:=ih (x+1) h'.2 (fun y hy=>⟨by have:=h'.1 _ hy;omega,(hr y (List.mem_cons_of_mem _ hy)).2⟩) (by omega)
   simp only [List.length_cons];omega
 have:=key l 0 h hr (by omega)
 omega
end Go.Proofs.YtjhjkfoabhplfaaGreat
