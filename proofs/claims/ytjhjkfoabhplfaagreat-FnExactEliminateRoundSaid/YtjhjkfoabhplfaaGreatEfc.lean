/- The first choice from lists. Conditions: those in each lemma. -/
import Derived.Test.YtjhjkfoabhplfaaGreatL6
import Derived.Test.YtjhjkfoabhplfaaGreatEsA
import Derived.Test.YtjhjkfoabhplfaaGreatChc
import Derived.Test.YtjhjkfoabhplfaaGreatFst
namespace Go.Proofs.YtjhjkfoabhplfaaGreat
open Go Dv
set_option linter.unusedSimpArgs false
set_option linter.unusedVariables false
set_option maxRecDepth 100000
theorem Xj(Ls:AL)(good:AA→Option Bool)(g:AA→Bool)(hl:Ls.length≤4)(hb: ∀L∈Ls,L.length≤8)(hg: ∀c,c.length=Ls.length→good c=some (g c)):
  ∀(m k fuel:Nat) (o:AA),m+k=Ls.length→o.length=Ls.length→m<fuel→ ∃o',Br good fuel (k:Int) o Ls=some (YI g (Ls.drop k) (o.take k),o')∧o'.length=Ls.length∧o'.take k=o.take k
 |0,k,0,o,_,_,hf=>by omega
 |0,k,fuel+1,o,hk,ho,_=>by
  refine⟨o, ?_,ho,rfl⟩
  show De (Br good fuel) (k:Int) o Ls good=_
  unfold De;rw [if_pos (by omega),hg o ho,Bl,List.drop_of_length_le (by omega),List.take_of_length_le (by omega)];rfl
 |m+1,k,0,o,_,_,hf=>by omega
 |m+1,k,fuel+1,o,hk,ho,hf=>by
  have hkl:k<Ls.length:=by omega
  have hd:Ls.drop k=Ls[k]::Ls.drop (k+1):=fw hkl;have hL:=hb _ (FT hkl);show ∃o',De (Br good fuel) (k:Int) o Ls good=_∧_
  have key:=JV (fun v=>Ec (Br good fuel) (k:Int) Ls v.1 v.2)
   (fun n s=> ∃i:Nat,n=Ls[k].length-i∧i≤Ls[k].length∧s.1=(i:Int)∧s.2.length=Ls.length∧s.2.take k=o.take k∧ ∀j,j<i→YI g (Ls.drop (k+1)) (o.take k++[Ls[k].getD j default])=false)
   (fun r=> ∃o',(r= .inl o'∧YI g (Ls[k]::Ls.drop (k+1)) (o.take k)=true∨r= .inr o'∧YI g (Ls[k]::Ls.drop (k+1)) (o.take k)=false)∧o'.length=Ls.length∧o'.take k=o.take k) ?_ Ls[k].length ((0:Int),o) ⟨0,rfl,by omega,rfl,ho,rfl,fun j hj=>by omega⟩
  ·obtain⟨r,hr,o',h1,h2,h3⟩:=key
   refine⟨o', ?_,h2,h3⟩
   unfold De;have hr':Ig (Br good fuel) (k:Int) Ls (0,o)=some r:=hr;rw [if_neg (by omega),Ao (by omega),hr',Bl,hd]
   rcases h1 with⟨rfl,e⟩|⟨rfl,e⟩<;>rw [e]
  ·rintro n ⟨i',o1⟩ ⟨i,hn,hi,e,h1,h2,h3⟩
   dsimp only at e h1 h2;subst e;have hkg:Ls.getD k default=Ls[k]:=AX _ _ hkl;simp only [Ec,H5,hkg];by_cases c:i<Ls[k].length
   ·rw [if_pos (by omega),Ao (by omega),Ao (by omega),H9 k (by omega),H9 i (by omega)]
    obtain⟨o2,g1,g2,g3⟩:=Xj Ls good g hl hb hg m (k+1) fuel (o1.set k (Ls[k].getD i default)) (by omega) (by rw [Tw];exact h1) (by omega)
    have et:(o1.set k (Ls[k].getD i default)).take (k+1)=o.take k++[Ls[k].getD i default]:=by
     rw [S9 (by rw [Tw];omega),List.getElem_set_self,List.take_set_of_le (Io _),h2]
    rw [et]at g1 g3
    have g4:o2.take k=o.take k:=by
     have:=congrArg (List.take k) g3
     rw [List.take_take,Nat.min_eq_left (by omega)]at this
     rw [this,List.take_append_of_le_length (by rw [KV];omega),List.take_take,Nat.min_self]
    rw [g1,Bl]
    cases hq:YI g (Ls.drop (k+1)) (o.take k++[Ls[k].getD i default])with
    |true=>
     right
     refine⟨_,rfl,o2,.inl ⟨rfl, ?_⟩,g2,g4⟩
     unfold YI;rw [List.any_eq_true]
     exact⟨_,FT c,by rw [←AX _ _ c];exact hq⟩
    |false=>
     left
     refine⟨_,Ls[k].length-(i+1),rfl,by omega,i+1,rfl,by omega,rfl,g2,g4,fun j hj=> ?_⟩
     by_cases ej:j=i
     ·rw [ej];exact hq
     ·exact h3 j (by omega)
   ·rw [if_neg (by omega)]
    right
    refine⟨_,rfl,o1,.inr ⟨rfl, ?_⟩,h1,h2⟩
    unfold YI;rw [List.any_eq_false];intro a ha;obtain⟨j,hj,rfl⟩:=UO ha;have:=h3 j (by omega)
    rw [AX _ _ hj]at this;simp [this]
theorem aY(Ls:AL)(good:AA→Option Bool)(g:AA→Bool)(hl:Ls.length≤4)(hb: ∀L∈Ls,L.length≤8)(hg: ∀c,c.length=Ls.length→good c=some (g c)): ∃r,JG Ls good=some (r,YI g Ls []):=by
 obtain⟨o',h1,_,_⟩:=Xj Ls good g hl hb hg Ls.length 0 1000000 (List.replicate Ls.length 0) (by omega) (by simp) (by omega)
 rw [Jb,UT,List.take_zero]at h1;unfold JG O9;rw [Ao (by omega),h1,Bl]
 cases YI g Ls []with
 |true=>exact⟨_,rfl⟩
 |false=>exact⟨_,rfl⟩
end Go.Proofs.YtjhjkfoabhplfaaGreat
