/- Lists that strictly increase, as plain functions. Conditions: those in each lemma. -/
import Derived.Test.YtjhjkfoabhplfaaGreatL6
import Derived.Test.YtjhjkfoabhplfaaGreatFst
namespace Go.Proofs.YtjhjkfoabhplfaaGreat
open Go Dv
set_option linter.unusedSimpArgs false
set_option linter.unusedVariables false
set_option maxRecDepth 100000
abbrev QH(l:AA):Prop:=l.Pairwise fun a b=>a<b
theorem aO: ∀ {a b:AA},QH a→QH b→(∀x,x∈a↔x∈b)→a=b
 | [],[],_,_,_=>rfl
 | [],y::b,_,_,h=>absurd ((h y).2 Ja) (by simp)
 |x::a,[],_,_,h=>absurd ((h x).1 Ja) (by simp)
 |x::a,y::b,ha,hb,h=>by
  have ha':=WM.1 ha;have hb':=WM.1 hb
  have e:x=y:=by
   have h1:=(h x).1 Ja;have h2:=(h y).2 Ja;rcases MW.1 h1 with h1|h1
   ·exact h1
   ·rcases MW.1 h2 with h2|h2
    ·exact h2.symm
    ·have:=ha'.1 _ h2;have:=hb'.1 _ h1;omega
  subst e;rw [aO ha'.2 hb'.2 fun z=> ?_];have hz:=h z;rw [MW,MW]at hz
  constructor
  ·intro hm;have:=ha'.1 _ hm
   rcases hz.1 (.inr hm)with e|e
   ·omega
   ·exact e
  ·intro hm;have:=hb'.1 _ hm
   rcases hz.2 (.inr hm)with e|e
   ·omega
   ·exact e
def TJ:AA→Int→AA
 | [],x=>[x]
 |a::l,x=>if a<x then a::TJ l x else if a=x then a::l else x::a::l
theorem aP: ∀(l:AA) (x y:Int),y∈TJ l x↔y=x∨y∈l
 | [],x,y=>by simp [TJ]
 |a::l,x,y=>by
  unfold TJ;by_cases h1:a<x
  ·rw [if_pos h1,MW,aP l x y,MW]
   constructor
   ·rintro(h|h|h)<;>simp [h]
   ·rintro(h|h|h)<;>simp [h]
  ·rw [if_neg h1];by_cases h2:a=x
   ·rw [if_pos h2,MW];subst h2
    constructor
    ·intro h;exact .inr h
    ·rintro(h|h)
     ·exact .inl h
     ·exact h
   ·rw [if_neg h2,MW]
theorem fI: ∀(l:AA) (x:Int),QH l→QH (TJ l x)
 | [],x,_=>by simp [TJ]
 |a::l,x,h=>by
  have h':=WM.1 h;unfold TJ;by_cases h1:a<x
  ·rw [if_pos h1];refine WM.2 ⟨fun y hy=> ?_,fI l x h'.2⟩
   rcases(aP l x y).1 hy with e|e
   ·omega
   ·exact h'.1 _ e
  ·rw [if_neg h1];by_cases h2:a=x
   ·rw [if_pos h2];exact h
   ·rw [if_neg h2];refine WM.2 ⟨fun y hy=> ?_,h⟩;rcases MW.1 hy with e|e
    ·omega
    ·have:=h'.1 _ e;omega
theorem pG: ∀(l:AA) (x:Int),(TJ l x).length≤l.length+1
 | [],_=>Io _
 |a::l,x=>by
  unfold TJ;have:=pG l x
  split
  ·simp only [JS];omega
  ·split<;>simp
def DX(l:AA)(x:Int):Nat:=l.countP fun a=>decide (a<x)
theorem aQ(l:AA)(x:Int):DX l x≤l.length:=List.countP_le_length
theorem Oe: ∀ {l:AA} {x:Int},QH l→ ∀i (h:i<l.length),l[i]<x↔i<DX l x
 |a::l,x,hs,i,h=>by
  have h':=WM.1 hs;unfold DX;rw [List.countP_cons];by_cases h1:a<x
  ·rw [if_pos (by simpa using h1)]
   cases i with
   |zero=>simp only [List.getElem_cons_zero];exact⟨fun _=>by omega,fun _=>h1⟩
   |succ i=>
    have:=Oe (x:=x) h'.2 i (by simpa using h)
    simp only [List.getElem_cons_succ];rw [this];unfold DX;omega
  ·rw [if_neg (by simpa using h1)]
   have h0:l.countP (fun a=>decide (a<x))=0:=by
    rw [List.countP_eq_zero]
    intro b hb;have:=h'.1 _ hb;simp;omega
   rw [h0]
   cases i with
   |zero=>simp only [List.getElem_cons_zero];omega
   |succ i=>
    have:=h'.1 _ (FT (by simpa using h:i<l.length))
    simp only [List.getElem_cons_succ];omega
theorem pI: ∀ {l:AA} (x:Int),QH l→TJ l x=if DX l x<l.length∧l.getD (DX l x) default=x then l else l.take (DX l x)++[x]++l.drop (DX l x)
 | [],x,_=>rfl
 |a::l,x,hs=>by
  have h':=WM.1 hs;unfold TJ DX;rw [List.countP_cons];by_cases h1:a<x
  ·rw [if_pos h1,if_pos (decide_eq_true h1),pI x h'.2];unfold DX;have e: ∀k,(a::l).getD (k+1) default=l.getD k default:=fun k=>rfl;rw [e,JS];by_cases h2:l.countP (fun a=>decide (a<x))<l.length∧l.getD (l.countP fun a=>decide (a<x)) default=x
   ·rw [if_pos h2,if_pos ⟨by omega,h2.2⟩]
   ·rw [if_neg h2,if_neg (fun c=>h2 ⟨by omega,c.2⟩)];rfl
  ·rw [if_neg h1,if_neg (fun c=>h1 (of_decide_eq_true c))]
   have h0:l.countP (fun a=>decide (a<x))=0:=by
    rw [List.countP_eq_zero]
    intro b hb;have:=h'.1 _ hb;simp;omega
   rw [h0];by_cases h2:a=x
   ·rw [if_pos h2,if_pos ⟨by simp,h2⟩]
   ·rw [if_neg h2,if_neg (fun c=>h2 c.2)];rfl
def Gv(l xs:AA):AA:=xs.foldl TJ l
theorem aR(xs:AA): ∀(l:AA) (y:Int),y∈Gv l xs↔y∈l∨y∈xs:=by
 unfold Gv
 induction xs with
 |nil=>intro l y;simp
 |cons x xs ih=>
  intro l y;rw [Xn,ih,aP,MW]
  constructor
  ·rintro((h|h)|h)<;>simp [h]
  ·rintro(h|h|h)<;>simp [h]
theorem TK(xs:AA): ∀(l:AA),QH l→QH (Gv l xs):=by
 unfold Gv
 induction xs with
 |nil=>intro l h;exact h
 |cons x xs ih=>intro l h;exact ih _ (fI l x h)
theorem aS{l:AA}{n:Nat}(h:QH l)(hr: ∀x∈l,0≤x∧x<n):l.length≤n:=by
 have key: ∀(l:AA) (a:Int),QH l→(∀x∈l,a≤x∧x<n)→a≤n→(l.length:Int)≤n-a:=by
  intro l
  induction l with
  |nil=>intro a _ _ h;simp only [SB];omega
  |cons x l ih=>
   intro a hs hr ha;have h':=WM.1 hs;have hx:=hr x Ja;have:=ih (x+1) h'.2 (fun y hy=>⟨by have:=h'.1 _ hy;omega,(hr y (KT _ hy)).2⟩) (by omega)
   simp only [JS];omega
 have:=key l 0 h hr (by omega)
 omega
end Go.Proofs.YtjhjkfoabhplfaaGreat
