/- Labelings counted, up to a bound, as plain functions. Conditions: those in each lemma. -/
import Derived.Test.YtiehjihckndgkaaGreatL6
import Derived.Test.YtiehjihckndgkaaGreatBase
import Derived.Test.YtiehjihckndgkaaGreatSrt
import Derived.Test.YtiehjihckndgkaaGreatChc
namespace Go.Proofs.YtiehjihckndgkaaGreat
open Go Dv
set_option linter.unusedSimpArgs false
set_option linter.unusedVariables false
set_option maxRecDepth 100000
def Dm(n:Nat)(f:Nat→Nat):Nat:=((List.range n).map f).sum
theorem UD(f:Nat→Nat):Dm 0 f=0:=rfl
theorem Ef(n:Nat)(f:Nat→Nat):Dm (n+1) f=Dm n f+f n:=by simp [Dm,fD]
theorem JB{n:Nat}{f g:Nat→Nat}(h: ∀i,i<n→f i=g i):Dm n f=Dm n g:=by
 unfold Dm;rw [sV fun i hi=>h i (MJ.1 hi)]
theorem rf(n:Nat)(f g:Nat→Nat):Dm n (fun i=>f i+g i)=Dm n f+Dm n g:=by
 induction n with
 |zero=>rfl
 |succ n ih=>rw [Ef,Ef,Ef,ih];omega
theorem A2l(n c:Nat)(f:Nat→Nat):Dm n (fun i=>c*f i)=c*Dm n f:=by
 induction n with
 |zero=>rfl
 |succ n ih=>rw [Ef,Ef,ih,Nat.mul_add]
theorem RF{n:Nat}{f:Nat→Nat}(h: ∀i,i<n→f i=0):Dm n f=0:=by
 induction n with
 |zero=>rfl
 |succ n ih=>rw [Ef,ih fun i hi=>h i (by omega),h n (by omega)]
theorem WV{n k:Nat}{f:Nat→Nat}(hk:k<n)(h: ∀i,i<n→i≠k→f i=0):Dm n f=f k:=by
 induction n with
 |zero=>omega
 |succ n ih=>
  rw [Ef];by_cases e:k=n
  ·subst e;rw [RF fun i hi=>h i (by omega) (by omega),MK]
  ·rw [ih (by omega) fun i hi hne=>h i (by omega) hne,h n (by omega) (fun q=>e q.symm),YE]
theorem zu(n m:Nat)(f:Nat→Nat→Nat):Dm n (fun i=>Dm m (f i))=Dm m (fun j=>Dm n fun i=>f i j):=by
 induction n with
 |zero=>
  rw [UD]
  exact(RF fun _ _=>rfl).symm
 |succ n ih=>
  rw [Ef,ih,←rf];exact JB fun j _=>(Ef n _).symm
def Qe{α:Type}(l:List α)(f:α→Nat):Nat:=(l.map f).sum
theorem NL{α:Type}(a:α)(l:List α)(f:α→Nat):Qe (a::l) f=f a+Qe l f:=rfl
theorem jV{α:Type}{l:List α}{f:α→Nat}(h: ∀a∈l,f a=0):Qe l f=0:=by
 induction l with
 |nil=>rfl
 |cons a l ih=>rw [NL,h a KM,ih fun b hb=>h b (RL _ hb)]
theorem A2m{α:Type}{l:List α}{f:α→Nat}(hn:l.Nodup){a:α}(ha:a∈l)(h: ∀b∈l,b≠a→f b=0):Qe l f=f a:=by
 induction l with
 |nil=>cases ha
 |cons b l ih=>
  obtain⟨h1,h2⟩:=List.nodup_cons.1 hn;rw [NL];rcases SK.1 ha with e|ha
  ·subst e;rw [jV fun c hc=>h c (RL _ hc) (fun e=>h1 (e▸hc)),YE]
  ·rw [ih h2 ha fun c hc=>h c (RL _ hc),h b KM (fun e=>h1 (e▸ha)),MK]
theorem zw{α:Type}(l:List α)(n:Nat)(f:α→Nat→Nat):Dm n (fun i=>Qe l fun a=>f a i)=Qe l fun a=>Dm n (f a):=by
 induction l with
 |nil=>exact RF fun _ _=>rfl
 |cons a l ih=>
  rw [NL,←ih,←rf];rfl
theorem A2n{α:Type}(l:List α)(c:Nat)(f:α→Nat):Qe l (fun a=>c*f a)=c*Qe l f:=by
 induction l with
 |nil=>rfl
 |cons a l ih=>rw [NL,NL,ih,Nat.mul_add]
def Hw(n:Nat)(g:AB→Nat):List (Int→Nat)→AB→Nat
 | [],c=>g c
 |w::Ws,c=>Dm n fun b=>w (b:Int)*Hw n g Ws (c++[(b:Int)])
theorem XT{n:Nat}{g:AB→Nat}: ∀(Ws:List (Int→Nat)) (c:AB),(∀d:AB,d.length=Ws.length→g (c++d)=0)→Hw n g Ws c=0
 | [],c,h=>by have:=h [] rfl;rwa [VD]at this
 |w::Ws,c,h=>by
  unfold Hw;refine RF fun b _=> ?_;rw [XT Ws _ fun d hd=>by have:=h ((b:Int)::d) (by simp [hd]);rwa [OC],Nat.mul_zero]
theorem Uz{n:Nat}{g g':AB→Nat}: ∀(Ws:List (Int→Nat)) (c:AB),(∀d:AB,d.length=Ws.length→g (c++d)=g' (c++d))→Hw n g Ws c=Hw n g' Ws c
 | [],c,h=>by have:=h [] rfl;rwa [VD]at this
 |w::Ws,c,h=>by
  unfold Hw;refine JB fun b _=> ?_;rw [Uz (g:=g) (g':=g') Ws _ fun d hd=>by have:=h ((b:Int)::d) (by simp [hd]);rwa [OC]]
theorem rq{n:Nat}{α:Type}(l:List α)(g:α→AB→Nat): ∀(Ws:List (Int→Nat)) (c:AB),Hw n (fun d=>Qe l fun a=>g a d) Ws c=Qe l fun a=>Hw n (g a) Ws c
 | [],c=>rfl
 |w::Ws,c=>by
  unfold Hw;rw [←zw];refine JB fun b _=> ?_;rw [rq l g Ws,←A2n]
def Rx:List (Int→Nat)→AB→Nat
 | [],_=>1
 |w::Ws,x=>Dm x.length fun j=>if 0<j∧x.getD (j-1) default=x.getD j default then 0 else w (x.getD j default)*Rx Ws (x.eraseIdx j)
def Tm(x c:AB):Nat:=if c.Perm x then 1 else 0
theorem nU{x:AB}(hs:x.Pairwise fun a b=>a≤b){j k:Nat}(hj:j<x.length)(hk:k<j)(e:x[k]'(by omega)=x[j]):0<j∧x.getD (j-1) default=x.getD j default:=by
 refine⟨by omega, ?_⟩
 have hp:=yH.1 hs;rw [Ao _ _ (by omega),Ao _ _ hj]
 have h1:x[j-1]'(by omega)≤x[j]:=hp (j-1) j (by omega) hj (by omega)
 have h2:x[k]'(by omega)≤x[j-1]'(by omega):=by
  by_cases e2:k=j-1
  ·subst e2;exact Int.le_refl _
  ·exact hp k (j-1) (by omega) (by omega) (by omega)
 omega
theorem A2o{n:Nat}: ∀(Ws:List (Int→Nat)) (x pre:AB),x.length=Ws.length→(x.Pairwise fun a b=>a≤b)→(∀a∈x,0≤a∧a<n)→Hw n (Tm (pre++x)) Ws pre=Rx Ws x
 | [],x,pre,hl,_,_=>by
  have:x=[]:=sP hl
  subst this;simp [Hw,Rx,Tm]
 |w::Ws,x,pre,hl,hs,hr=>by
  unfold Hw Rx
  have hb: ∀b,b<n→w (b:Int)*Hw n (Tm (pre++x)) Ws (pre++[(b:Int)])=Dm x.length fun j=>if x.getD j default=(b:Int)then(if 0<j∧x.getD (j-1) default=x.getD j default then 0 else w (x.getD j default)*Rx Ws (x.eraseIdx j))else 0:=by
   intro b hbn;by_cases hm:(b:Int)∈x
   ·
    obtain⟨j,hj,hje,hjf⟩: ∃j,∃hj:j<x.length,x[j]=(b:Int)∧ ∀k,(hk:k<j)→x[k]'(by omega)≠(b:Int):=by
     refine⟨x.idxOf (b:Int),List.idxOf_lt_length_iff.2 hm,List.getElem_idxOf _,fun k hk e=> ?_⟩
     have:=List.not_of_lt_findIdx (p:=fun y=>y==(b:Int)) (xs:=x) (i:=k) hk
     simp at this;exact this e
    rw [WV hj fun k hk hne=> ?_]
    ·rw [if_pos (by rw [Ao _ _ hj];exact hje),if_neg ?_,Ao _ _ hj,hje]
     ·congr 1
      have hel:(x.eraseIdx j).length=Ws.length:=by rw [List.length_eraseIdx_of_lt hj,hl];rfl
      rw [←A2o Ws (x.eraseIdx j) (pre++[(b:Int)]) hel (hs.sublist (List.eraseIdx_sublist _ _)) (fun a ha=>hr a (List.mem_of_mem_eraseIdx ha))];refine Uz Ws _ fun d _=> ?_
      have hp:(pre++[(b:Int)]++x.eraseIdx j).Perm (pre++x):=by
       rw [OC];refine List.Perm.append_left _ ?_;have:=wH x j hj
       rw [hje]at this;exact this
      unfold Tm;by_cases c:(pre++[(b:Int)]++d).Perm (pre++x)
      ·rw [if_pos c,if_pos (c.trans hp.symm)]
      ·rw [if_neg c,if_neg (fun q=>c (q.trans hp))]
     ·rintro⟨h0,h1⟩
      rw [Ao _ _ (by omega),Ao _ _ hj,hje]at h1
      exact hjf (j-1) (by omega) h1
    ·by_cases e:x.getD k default=(b:Int)
     ·rw [if_pos e];rw [Ao _ _ hk]at e
      have hjk:j<k:=by
       apply Classical.byContradiction
       intro hc;exact hjf k (by omega) e
      rw [if_pos (nU hs hk hjk (by rw [hje,e]))]
     ·rw [if_neg e]
   ·rw [RF fun k hk=> ?_]
    ·rw [XT Ws _ fun d _=> ?_,Nat.mul_zero];unfold Tm;rw [if_neg];intro hp;rw [OC,List.perm_append_left_iff]at hp;exact hm (hp.mem_iff.1 (by simp))
    ·rw [if_neg];intro e;rw [Ao _ _ hk]at e;exact hm (e▸Nh _)
  rw [JB hb,zu];refine JB fun j hj=> ?_;have hxj:=hr _ (Nh hj);have hgj:x.getD j default=x[j]:=Ao _ _ hj;rw [WV (k:=x[j].toNat) (by omega) fun b _ hne=> ?_]
  ·rw [if_pos (by omega)]
  ·rw [if_neg (by omega)]
def wI:Nat:=1000000000001
def D7(x:Nat):Int:=((min x wI:Nat):Int)
theorem HY(x:Nat):0≤D7 x∧D7 x≤1000000000001:=by unfold D7 wI;omega
theorem FE(x:Nat):D7 x=0↔x=0:=by unfold D7 wI;omega
theorem yC(a b:Nat):KO (D7 a+D7 b) 1000000000001=D7 (a+b):=by
 unfold KO D7 wI
 split<;>omega
theorem jW{x:Nat}(h:D7 x<1000000000001):D7 x=(x:Int):=by unfold D7 wI at*;omega
theorem A4t{x:Nat}(h:1000000000001≤x):D7 x=1000000000001:=by unfold D7 wI;omega
theorem A4u(a b:Nat):D7 a*D7 b<1000000000001→D7 a*D7 b=D7 (a*b):=by
 intro h;by_cases h0:a=0
 ·subst h0;simp [D7]
 by_cases h1:b=0
 ·subst h1;simp [D7]
 have ha:D7 a<1000000000001:=by
  have hb:=HY b;have:1≤D7 b:=by have:=(FE b);omega
  have hm:D7 a*1≤D7 a*D7 b:=Int.mul_le_mul_of_nonneg_left this (HY a).1;omega
 have hb:D7 b<1000000000001:=by
  have:1≤D7 a:=by have:=(FE a);have:=HY a;omega
  have hm:1*D7 b≤D7 a*D7 b:=Int.mul_le_mul_of_nonneg_right this (HY b).1;omega
 rw [jW ha,jW hb]at h ⊢;have e:((a:Int)*(b:Int))=((a*b:Nat):Int):=by rw [Int.natCast_mul]
 rw [e]at h ⊢;unfold D7 wI;omega
theorem Y1(a b:Nat)(h:1000000000001≤D7 a*D7 b):D7 (a*b)=1000000000001:=by
 refine A4t ?_;have h1:(D7 a).toNat≤a:=by unfold D7;omega
 have h2:(D7 b).toNat≤b:=by unfold D7;omega
 have h3:=Nat.mul_le_mul h1 h2
 have e:(((D7 a).toNat*(D7 b).toNat:Nat):Int)=D7 a*D7 b:=by
  rw [Int.natCast_mul];have:=(HY a).1
  have:=(HY b).1
  rw [show(((D7 a).toNat:Nat):Int)=D7 a by omega,show(((D7 b).toNat:Nat):Int)=D7 b by omega]
 omega
end Go.Proofs.YtiehjihckndgkaaGreat
