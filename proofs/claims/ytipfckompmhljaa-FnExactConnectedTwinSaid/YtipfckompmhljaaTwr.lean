/- Lifts: all edges laid, their cells. Conditions: those in each lemma. -/
import Derived.Test.YtipfckompmhljaaL6
import Derived.Test.YtipfckompmhljaaTwo
namespace Go.Proofs.Ytipfckompmhljaa
open Go Dv
set_option linter.unusedSimpArgs false
set_option linter.unusedVariables false
set_option maxRecDepth 100000
theorem rq{E:List (List (Int×Int))}{v i w j v' i' w' j':Nat}(h:((v:Int),(i:Int),(w:Int),(j:Int))∈F9 E E.length)(h':((v':Int),(i':Int),(w':Int),(j':Int))∈F9 E E.length)
  (hE:BA (E.getD w default) j=(v:Int)∧Bc (E.getD w default) j=(i:Int))(hE':BA (E.getD w' default) j'=(v':Int)∧Bc (E.getD w' default) j'=(i':Int))
  (hs:(v=v'∧i=i')∨(v=w'∧i=j')∨(w=v'∧j=i')∨(w=w'∧j=j')):v=v'∧i=i'∧w=w'∧j=j':=by
 obtain⟨a,b,_,_,hc,e⟩:=(Jb E _ _).1 h;obtain⟨a',b',_,_,hc',e'⟩:=(Jb E _ _).1 h';simp only [Prod.mk.injEq]at e e';have ea:a=v:=by omega
 have eb:b=i:=by omega
 have ea':a'=v':=by omega
 have eb':b'=i':=by omega
 subst ea eb ea' eb';unfold JE at hc hc';rw [←e.2.2.1,←e.2.2.2]at hc;rw [←e'.2.2.1,←e'.2.2.2]at hc';simp only [Bool.or_eq_true,Bool.and_eq_true,decide_eq_true_eq]at hc hc';rcases hs with⟨rfl,rfl⟩ | ⟨rfl,rfl⟩ | ⟨rfl,rfl⟩ | ⟨rfl,rfl⟩
 ·omega
 ·rw [←e.2.2.1,←e.2.2.2]at hE';omega
 ·rw [←e'.2.2.1,←e'.2.2.2]at hE;omega
 ·omega
def Dn(B:List (List (Int×Int)))(v i w j:Nat):Prop:=
 (∀t,t<2→ ∃c:Nat,c<2∧WS B (2*v+t) i=(((2*w+c:Nat):Int),(j:Int))∧WS B (2*w+c) j=(((2*v+t:Nat):Int),(i:Int)))∧
 (∀t,t<2→ ∃c:Nat,c<2∧WS B (2*w+t) j=(((2*v+c:Nat):Int),(i:Int))∧WS B (2*v+c) i=(((2*w+t:Nat):Int),(j:Int)))
theorem Dn.keep{B B':List (List (Int×Int))}{v i w j:Nat}(h:Dn B v i w j)(h1: ∀t,t<2→WS B' (2*v+t) i=WS B (2*v+t) i)(h2: ∀t,t<2→WS B' (2*w+t) j=WS B (2*w+t) j):Dn B' v i w j:=by
 refine⟨fun t ht=> ?_,fun t ht=> ?_⟩
 ·obtain⟨c,hc,a,b⟩:=h.1 t ht
  exact⟨c,hc,by rw [h1 t ht,a],by rw [h2 c hc,b]⟩
 ·obtain⟨c,hc,a,b⟩:=h.2 t ht
  exact⟨c,hc,by rw [h2 t ht,a],by rw [h1 c hc,b]⟩
theorem XL{E B:List (List (Int×Int))}{ids ins:List Int}(h:Bj E ids ins=true)(hB:Shp E B)(P:List (List Int))(hP: ∀k,k<(F9 E E.length).length→bz (P.getD k default))(hL: ∀x∈F9 E E.length,rZ E x):
  ∀k,k≤(F9 E E.length).length→ ∀m,m<k→ ∀v i w j:Nat,(F9 E E.length).getD m default=((v:Int),(i:Int),(w:Int),(j:Int))→Dn (Mm (F9 E E.length) P B k) v i w j
 | 0,_,m,hm=>by omega
 | k+1,hk,m,hm=>by
  intro v i w j e;have hS:=Mo hB (F9 E E.length) P hL hP k (by omega)
  obtain⟨v',i',w',j',e',h1,h2,h3,h4⟩:=hL _ (List.getElem_mem (show k<(F9 E E.length).length by omega))
  have eg:(F9 E E.length).getD k default=((v':Int),(i':Int),(w':Int),(j':Int)):=by rw [Av _ k (by omega),e']
  obtain⟨c1,c2,c3⟩:=rf hS (hP k (by omega)) h1 h2 h3 h4
  have es:Mm (F9 E E.length) P B (k+1)=KY (Mm (F9 E E.length) P B k) (P.getD k default) v' i' w' j' 2:=by
   show KY (Mm (F9 E E.length) P B k) (P.getD k default) ((F9 E E.length).getD k default).1.toNat ((F9 E E.length).getD k default).2.1.toNat ((F9 E E.length).getD k default).2.2.1.toNat ((F9 E E.length).getD k default).2.2.2.toNat 2=_
   rw [eg];rfl
  rw [es];rcases Nat.lt_or_ge m k with hmk | hmk
  ·have ih:=XL h hB P hP hL k (by omega) m hmk v i w j e
   have hm1:((v:Int),(i:Int),(w:Int),(j:Int))∈F9 E E.length:=by rw [←e,Av _ m (by omega)];exact List.getElem_mem _
   have hm2:((v':Int),(i':Int),(w':Int),(j':Int))∈F9 E E.length:=by rw [←e'];exact List.getElem_mem _
   have Eb: ∀a b c d:Nat,((a:Int),(b:Int),(c:Int),(d:Int))∈F9 E E.length→BA (E.getD c default) d=(a:Int)∧Bc (E.getD c default) d=(b:Int):=by
    intro a b c d hx;obtain⟨v0,i0,hv0,hi0,_,e0⟩:=(Jb E _ _).1 hx;obtain⟨_,_,_,p4⟩:=Dj h;obtain⟨w0,j0,f1,f2,_,_,f3,f4⟩:=p4 v0 i0 hv0 hi0;simp only [Prod.mk.injEq,f1,f2]at e0;have ew:c=w0:=by omega
    have ej:d=j0:=by omega
    subst ew ej;omega
   have hne: ¬(v=v'∧i=i'∧w=w'∧j=j'):=by
    rintro⟨rfl,rfl,rfl,rfl⟩
    rw [←eg,Av _ m (by omega),Av _ k (by omega)]at e
    exact List.pairwise_iff_getElem.1 (RZ E E.length) m k (by omega) (by omega) hmk e
   have one:=fun hs=>hne (rq hm1 hm2 (Eb _ _ _ _ hm1) (Eb _ _ _ _ hm2) hs);refine ih.keep (fun t ht=>c3 _ _ (fun hx=>one (.inl ⟨by omega,hx.2⟩)) (fun hx=>one (.inr (.inl ⟨by omega,hx.2⟩)))) (fun t ht=>c3 _ _ (fun hx=>one (.inr (.inr (.inl ⟨by omega,hx.2⟩)))) (fun hx=>one (.inr (.inr (.inr ⟨by omega,hx.2⟩)))))
  ·have:m=k:=by omega
   subst this;rw [eg]at e;simp only [Prod.mk.injEq]at e;have a1:v'=v:=by omega
   have a2:i'=i:=by omega
   have a3:w'=w:=by omega
   have a4:j'=j:=by omega
   subst a1 a2 a3 a4
   exact⟨c1,c2⟩
end Go.Proofs.Ytipfckompmhljaa
