/- Lifts: the cells of a lift. Conditions: those in each lemma. -/
import Derived.Test.YtipfckompmhljaaL6
import Derived.Test.YtipfckompmhljaaTwn
namespace Go.Proofs.Ytipfckompmhljaa
open Go Dv
set_option linter.unusedSimpArgs false
set_option linter.unusedVariables false
set_option maxRecDepth 100000
def WS(B:List (List (Int×Int)))(x p:Nat):Int×Int:=(B.getD x default).getD p default
theorem jJ(B:List (List (Int×Int)))(x p:Nat)(e:Int×Int)(hx:x<B.length)(hp:p<(B.getD x default).length)(y q:Nat):WS (ZF B x p e) y q=if x=y∧p=q then e else WS B y q:=by
 unfold WS;rw [bv B x p e hx];by_cases c:x=y
 ·subst c;rw [if_pos rfl,List.getD_eq_getElem?_getD,List.getElem?_set];by_cases c2:p=q
  ·subst c2;rw [if_pos rfl,if_pos hp,if_pos ⟨rfl,rfl⟩];rfl
  ·rw [if_neg c2,if_neg (fun h=>c2 h.2),List.getD_eq_getElem?_getD (l:=B.getD x default)]
 ·rw [if_neg c,if_neg (fun h=>c h.1)]
theorem jK{E B:List (List (Int×Int))}(h:Shp E B)(x y p q:Nat)(hx:x<2*E.length)(hy:y<2*E.length)(hp:p<(E.getD (x / 2) default).length)(hq:q<(E.getD (y / 2) default).length)(z r:Nat):
  WS (rV B x y p q) z r=if y=z∧q=r then((x:Int),(p:Int))else if x=z∧p=r then((y:Int),(q:Int))else WS B z r:=by
 have h1:=h.put x p ((y:Int),(q:Int)) hx;unfold rV;rw [jJ _ y q _ (by rw [h1.len];exact hy) (by rw [h1.row y hy];exact hq),jJ _ x p _ (by rw [h.len];exact hx) (by rw [h.row x hx];exact hp)]
theorem rf{E B:List (List (Int×Int))}(h:Shp E B){pk:List Int}(hk:bz pk){v i w j:Nat}(hv:v<E.length)(hw:w<E.length)(hi:i<(E.getD v default).length)(hj:j<(E.getD w default).length):
  (∀t,t<2→ ∃c:Nat,c<2∧WS (KY B pk v i w j 2) (2*v+t) i=(((2*w+c:Nat):Int),(j:Int))∧WS (KY B pk v i w j 2) (2*w+c) j=(((2*v+t:Nat):Int),(i:Int)))∧
  (∀t,t<2→ ∃c:Nat,c<2∧WS (KY B pk v i w j 2) (2*w+t) j=(((2*v+c:Nat):Int),(i:Int))∧WS (KY B pk v i w j 2) (2*v+c) i=(((2*w+t:Nat):Int),(j:Int)))∧
  (∀z r:Nat,¬(z / 2=v∧r=i)→ ¬(z / 2=w∧r=j)→WS (KY B pk v i w j 2) z r=WS B z r):=by
 have key: ∃c d:Nat,((c=0∧d=1)∨(c=1∧d=0))∧KY B pk v i w j 2=rV (rV B (2*v+0) (2*w+c) i j) (2*v+1) (2*w+d) i j:=by
  rcases hk with rfl | rfl
  ·exact⟨0,1,.inl ⟨rfl,rfl⟩,rfl⟩
  ·exact⟨1,0,.inr ⟨rfl,rfl⟩,rfl⟩
 obtain⟨c,d,hcd,e⟩:=key;have hc2:c<2:=by omega
 have hd2:d<2:=by omega
 have d1:(2*v+0) / 2=v:=by omega
 have d2:(2*v+1) / 2=v:=by omega
 have d3:(2*w+c) / 2=w:=by omega
 have d4:(2*w+d) / 2=w:=by omega
 have h1:Shp E (rV B (2*v+0) (2*w+c) i j):=(h.put _ _ _ (by omega)).put _ _ _ (by omega)
 have f:=jK h1 (2*v+1) (2*w+d) i j (by omega) (by omega) (by rw [d2];exact hi) (by rw [d4];exact hj)
 have g:=jK h (2*v+0) (2*w+c) i j (by omega) (by omega) (by rw [d1];exact hi) (by rw [d3];exact hj)
 rw [e]
 refine⟨fun t ht=> ?_,fun t ht=> ?_,fun z r hz1 hz2=> ?_⟩
 ·have:t=0∨t=1:=by omega
  rcases this with rfl | rfl
  ·refine⟨c,hc2, ?_, ?_⟩<;>rw [f,g]<;>(repeat' split)<;>first | rfl | (exfalso;omega) | (simp only [Prod.mk.injEq];omega) | (simp only [Prod.mk.injEq,and_true,true_and];omega)
  ·refine⟨d,hd2, ?_, ?_⟩<;>rw [f,g]<;>(repeat' split)<;>first | rfl | (exfalso;omega) | (simp only [Prod.mk.injEq];omega) | (simp only [Prod.mk.injEq,and_true,true_and];omega)
 ·have:t=c∨t=d:=by omega
  rcases this with rfl | rfl
  ·refine⟨0,by omega, ?_, ?_⟩<;>rw [f,g]<;>(repeat' split)<;>first | rfl | (exfalso;omega) | (simp only [Prod.mk.injEq];omega) | (simp only [Prod.mk.injEq,and_true,true_and];omega)
  ·refine⟨1,by omega, ?_, ?_⟩<;>rw [f,g]<;>(repeat' split)<;>first | rfl | (exfalso;omega) | (simp only [Prod.mk.injEq];omega) | (simp only [Prod.mk.injEq,and_true,true_and];omega)
 ·rw [f,g,if_neg (by omega),if_neg (by omega),if_neg (by omega),if_neg (by omega)]
end Go.Proofs.Ytipfckompmhljaa
