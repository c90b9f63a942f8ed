/- Labelings of a tree counted, from its leaves, as plain functions. Conditions: those in each lemma. -/
import Derived.Test.YtiehjihckndgkaaGreatL6
import Derived.Test.YtiehjihckndgkaaGreatCns
import Derived.Test.YtiehjihckndgkaaGreatSmd
namespace Go.Proofs.YtiehjihckndgkaaGreat
open Go Dv
set_option linter.unusedSimpArgs false
set_option linter.unusedVariables false
set_option maxRecDepth 100000
def Pt(n:Nat)(f:Nat→Nat):AB:=(List.range n).map fun a=>D7 (f a)
theorem Nc(n:Nat)(f:Nat→Nat):(Pt n f).length=n:=by simp [Pt]
theorem V5{n:Nat}(f:Nat→Nat){a:Nat}(ha:a<n):(Pt n f).getD a default=D7 (f a):=by
 unfold Pt;rw [Ao _ _ (by simpa using ha),Ni,Ng]
theorem PI{n:Nat}{f g:Nat→Nat}(h: ∀a,a<n→D7 (f a)=D7 (g a)):Pt n f=Pt n g:=by
 unfold Pt;exact sV fun a ha=>h a (MJ.1 ha)
theorem Z8(f:AB×Int→Option ((AB×Int)⊕AB))(n:Nat)(g:Nat→Int)
  (h: ∀(a:Nat) (w:AB),a<n→w.length=n→w.getD a default=0→f (w,(a:Int))=some (.inl (w.set a (g a),((a+1:Nat):Int))))
  (e: ∀w:AB,w.length=n→f (w,(n:Int))=some (.inr w)):Fb f (List.replicate n 0,0)=some ((List.range n).map g):=by
 have key:=Cf f (fun k=>((List.range n).map fun x=>if x<k then g x else 0,(k:Int))) n ((List.range n).map g) ?_ ?_
 ·have e0:((List.range n).map fun x=>if x<0 then g x else 0)=List.replicate n 0:=by
   refine VC (by simp) fun i h1 h2=> ?_
   simp
  rw [e0,Gn]at key;exact key
 ·intro k hk;rw [h k _ hk (by simp) (by rw [Ao _ _ (by simpa using hk)];simp)]
  congr 3
  refine VC (by simp) fun i h1 h2=> ?_
  rw [List.getElem_set];simp only [Ni,Ng];by_cases c:k=i
  ·subst c;rw [if_pos rfl,if_pos (by omega)]
  ·rw [if_neg c];by_cases d:i<k
   ·rw [if_pos d,if_pos (by omega)]
   ·rw [if_neg d,if_neg (by omega)]
 ·rw [e _ (by simp)]
  congr 2
  exact sV fun a ha=>if_pos (MJ.1 ha)
theorem Y4{n:Nat}{g:AB→Nat}: ∀(W1 W2:List (Int→Nat)) (c:AB),W1.length=W2.length→(∀k (h1:k<W1.length) (h2:k<W2.length) (b:Nat),b<n→W1[k] (b:Int)=W2[k] (b:Int))→Hw n g W1 c=Hw n g W2 c
 | [],[],c,_,_=>rfl
 |w1::W1,w2::W2,c,hl,h=>by
  unfold Hw;refine JB fun b hb=> ?_;have h0:w1 (b:Int)=w2 (b:Int):=h 0 (by simp) (by simp) b hb
  rw [h0,Y4 W1 W2 _ (by simpa using hl) fun k h1 h2 b hb=>h (k+1) (by simpa using h1) (by simpa using h2) b hb]
 | [],_::_,_,hl,_=>by cases hl
 |_::_,[],_,hl,_=>by cases hl
theorem ry{n:Nat}{g:AB→Nat}{port:Nat}{x:Nat}: ∀(W1 W2:List (Int→Nat)) (c:AB),W1.length=W2.length→
  (∀k (h1:k<W1.length) (h2:k<W2.length),c.length+k≠port→W1[k]=W2[k])→
  (∀k (h1:k<W1.length) (h2:k<W2.length),c.length+k=port→ ∀b:Int,W1[k] b=1∧W2[k] b=if b=(x:Int)then 1 else 0)→
  (port<c.length→c.getD port default=(x:Int))→port<c.length+W1.length→
  Hw n (fun d=>if d.getD port default=(x:Int)then g d else 0) W1 c=Hw n g W2 c
 | [],[],c,_,_,_,hp,hb=>by
  simp only [Hw];rw [if_pos (hp (by simpa using hb))]
 |w1::W1,w2::W2,c,hl,h1,h2,hp,hb=>by
  unfold Hw;refine JB fun b hbn=> ?_
  have IH:((c++[(b:Int)]).length>port→(c++[(b:Int)]).getD port default=(x:Int))→Hw n (fun d=>if d.getD port default=(x:Int)then g d else 0) W1 (c++[(b:Int)])=Hw n g W2 (c++[(b:Int)]):=by
   intro hq;refine ry W1 W2 _ (by simpa using hl) ?_ ?_ hq ?_
   ·intro k k1 k2 hne;have:=h1 (k+1) (by simpa using k1) (by simpa using k2) (by simp at hne;omega)
    simpa using this
   ·intro k k1 k2 he;have:=h2 (k+1) (by simpa using k1) (by simpa using k2) (by simp at he;omega)
    simpa using this
   ·simp at hb ⊢;omega
  by_cases e:c.length=port
  ·obtain⟨q1,q2⟩:=h2 0 (by simp) (by simp) e (b:Int)
   simp only [List.getElem_cons_zero]at q1 q2;rw [q1,q2]
   have hget: ∀d:AB,(c++[(b:Int)]++d).getD port default=(b:Int):=by
    intro d;rw [OC];exact KX c ([(b:Int)]++d) port e.symm (by simp)
   by_cases eb:(b:Int)=(x:Int)
   ·rw [if_pos eb];rw [IH];intro _;have:=hget []
    rw [VD]at this;rw [this,eb]
   ·rw [if_neg eb,Nat.zero_mul,XT W1 _ ?_];intro d _;rw [if_neg];rw [hget d];exact eb
  ·have q:=h1 0 (by simp) (by simp) e
   simp only [List.getElem_cons_zero]at q;rw [q,IH];intro hlt;simp at hlt;have hlt':port<c.length:=by omega
   rw [Le,UF hlt',←Le];exact hp hlt'
 | [],_::_,_,hl,_,_,_,_=>by cases hl
 |_::_,[],_,hl,_,_,_,_=>by cases hl
theorem dh{n:Nat}: ∀(Ws:List (Int→Nat)) (c:AB),Hw n (fun _=>1) Ws c=(Ws.map fun w=>Dm n fun b=>w (b:Int)).prod
 | [],c=>rfl
 |w::Ws,c=>by
  unfold Hw;rw [VF,List.prod_cons,Nat.mul_comm,←A2l];refine JB fun b _=> ?_;rw [dh Ws,Nat.mul_comm]
def V9(E:List (List (Int×Int)))(es:AY)(n:Nat)(m:Nat→Nat→Nat→Bool)(T:Nat→Nat→Nat→Nat)(v:Nat)(i:Int)(a:Nat)(k:Nat):Int→Nat:=
 if(k:Int)=i then fun b=>if b=(a:Int)then 1 else 0
 else fun b=>if m v k b.toNat=true then Dm n fun c=>if Qc es b (c:Int)=true then T (UO E v k) (Ub E v k) c else 0 else 0
def wgs(E:List (List (Int×Int)))(es:AY)(n:Nat)(m:Nat→Nat→Nat→Bool)(T:Nat→Nat→Nat→Nat)(v:Nat)(i:Int)(a:Nat):List (Int→Nat):=
 (List.range (E.getD v default).length).map (V9 E es n m T v i a)
def P9(E:List (List (Int×Int)))(ns es:AY)(n D:Nat)(m:Nat→Nat→Nat→Bool):Nat→Nat→Int→Nat→Nat
 |0,_,_,_=>0
 |f+1,v,i,a=>Hw n (if(E.getD v default).length=D then sO ns else fun _=>1) (wgs E es n m (fun u j c=>if m u j c=true then P9 E ns es n D m f u (j:Int) c else 0) v i a) []
def A00(E:List (List (Int×Int))):Nat→Nat→Int→Prop
 |0,_,_=>False
 |f+1,v,i=>v<E.length∧ ∀k,k<(E.getD v default).length→(k:Int)≠i→A00 E f (UO E v k) (Ub E v k:Nat)
theorem WW(E:List (List (Int×Int)))(es:AY)(n:Nat)(m:Nat→Nat→Nat→Bool)(T:Nat→Nat→Nat→Nat)(v:Nat)(i:Int)(a:Nat):(wgs E es n m T v i a).length=(E.getD v default).length:=by simp [wgs]
theorem nW(E:List (List (Int×Int)))(es:AY)(n:Nat)(m:Nat→Nat→Nat→Bool)(T:Nat→Nat→Nat→Nat)(v:Nat)(i:Int)(a:Nat){k:Nat}(hk:k<(wgs E es n m T v i a).length):(wgs E es n m T v i a)[k]=V9 E es n m T v i a k:=by simp [wgs]
end Go.Proofs.YtiehjihckndgkaaGreat
