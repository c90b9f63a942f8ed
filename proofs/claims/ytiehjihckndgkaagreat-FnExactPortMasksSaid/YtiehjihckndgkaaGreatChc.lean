/- Choices from lists, as plain functions. Conditions: none. -/
import Derived.Test.YtiehjihckndgkaaGreatL6
import Derived.Test.YtiehjihckndgkaaGreatDt
namespace Go.Proofs.YtiehjihckndgkaaGreat
open Go Dv
set_option linter.unusedSimpArgs false
set_option linter.unusedVariables false
set_option maxRecDepth 100000
def rC(good:List Int→Bool):List (List Int)→List Int→Bool
 | [],c=>good c
 |L::Ls,c=>L.any fun a=>rC good Ls (c++[a])
def xO:List Int→List (List Int)→Prop
 | [],[]=>True
 |a::c,L::Ls=>a∈L∧xO c Ls
 |_,_=>False
theorem fO(good:List Int→Bool): ∀(Ls:List (List Int)) (c:List Int),rC good Ls c=true↔ ∃d,xO d Ls∧good (c++d)=true
 | [],c=>by
  unfold rC
  constructor
  ·intro h;exact⟨[],trivial,by rwa [WK]⟩
  ·rintro⟨d,h1,h2⟩
   cases d with
   |nil=>rwa [WK]at h2
   |cons a d=>exact h1.elim
 |L::Ls,c=>by
  unfold rC;rw [WJ]
  constructor
  ·rintro⟨a,ha,h⟩
   obtain⟨d,h1,h2⟩:=(fO good Ls (c++[a])).1 h
   exact⟨a::d,⟨ha,h1⟩,by rwa [Qy]at h2⟩
  ·rintro⟨d,h1,h2⟩
   cases d with
   |nil=>exact h1.elim
   |cons a d=>exact⟨a,h1.1,(fO good Ls (c++[a])).2 ⟨d,h1.2,by rwa [Qy]⟩⟩
theorem Ya(x:List Int)(j:Nat)(hj:j<x.length):(x[j]::x.eraseIdx j).Perm x:=by
 rw [List.eraseIdx_eq_take_drop_succ];have h:x=x.take j++x[j]::x.drop (j+1):=by rw [←WH hj,List.take_append_drop]
 have:=(List.perm_middle (a:=x[j]) (l₁:=x.take j) (l₂:=x.drop (j+1))).symm
 rw [←h]at this;exact this
def Yb:List (List Int)→List Int→Bool
 | [],x=>x.isEmpty
 |L::Ls,x=>(List.range x.length).any fun j=>L.contains (x.getD j default)&&Yb Ls (x.eraseIdx j)
theorem WF: ∀(Ls:List (List Int)) (x:List Int),Yb Ls x=true↔ ∃d,xO d Ls∧d.Perm x
 | [],x=>by
  unfold Yb
  constructor
  ·intro h;rw [List.isEmpty_iff]at h;subst h;exact⟨[],trivial,List.Perm.refl _⟩
  ·rintro⟨d,h1,h2⟩
   cases d with
   |nil=>rw [List.nil_perm.1 h2];rfl
   |cons a d=>exact h1.elim
 |L::Ls,x=>by
  unfold Yb;rw [WJ]
  constructor
  ·rintro⟨j,hj,h⟩
   have hj:=Mw.1 hj;rw [Fa,RP,Am _ _ hj]at h;obtain⟨d,h1,h2⟩:=(WF Ls _).1 h.2
   exact⟨x[j]::d,⟨h.1,h1⟩,((List.perm_cons _).2 h2).trans (Ya x j hj)⟩
  ·rintro⟨d,h1,h2⟩
   cases d with
   |nil=>exact h1.elim
   |cons a d=>
    have ha:a∈x:=h2.mem_iff.1 KV;obtain⟨j,hj,e⟩:=VB ha
    refine⟨j,Mw.2 hj, ?_⟩
    rw [Fa,RP,Am _ _ hj,e]
    refine⟨h1.1,(WF Ls _).2 ⟨d,h1.2, ?_⟩⟩
    have h3:(a::d).Perm (x[j]::x.eraseIdx j):=h2.trans (Ya x j hj).symm;rw [e]at h3
    exact(List.perm_cons a).1 h3
end Go.Proofs.YtiehjihckndgkaaGreat
