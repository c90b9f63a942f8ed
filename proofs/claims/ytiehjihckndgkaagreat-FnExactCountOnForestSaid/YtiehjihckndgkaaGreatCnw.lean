/- Labelings of a branch counted: the program's walk. Conditions: those in each lemma. -/
import Derived.Test.YtiehjihckndgkaaGreatL6
import Derived.Test.YtiehjihckndgkaaGreatCnu
import Derived.Test.YtiehjihckndgkaaGreatRep
namespace Go.Proofs.YtiehjihckndgkaaGreat
open Go Dv
set_option linter.unusedSimpArgs false
set_option linter.unusedVariables false
set_option maxRecDepth 100000
theorem yF{n:Nat}(O:Nat→Nat)(y P:Nat):(Pt n O).set y (D7 (O y+P))=Pt n fun x=>O x+if x=y then P else 0:=by
 unfold Pt;refine VC (by simp) fun i h1 h2=> ?_
 rw [List.getElem_set];simp only [Ni,Ng];by_cases c:y=i
 ·subst c;rw [if_pos rfl,if_pos rfl]
 ·rw [if_neg c,if_neg (fun e=>c e.symm),YE]
theorem A2v(n:Nat):List.replicate n (0:Int)=Pt n fun _=>0:=by
 unfold Pt;refine VC (by simp) fun i h1 h2=> ?_
 simp [(FE 0).2 rfl]
theorem A03(n P:Nat):List.replicate n (D7 P)=Pt n fun _=>P:=by
 unfold Pt;refine VC (by simp) fun i h1 h2=> ?_
 simp
theorem XV(a b:Nat):KO (IntKind.i64.wrap (D7 a+D7 b)) 1000000000001=D7 (a+b):=by
 have h1:=HY a;have h2:=HY b;rw [I7 _ (by omega),yC]
def OO(ns:AY)(port:Int)(x:Nat)(c:AB):Nat:=
 if 0≤port then(if c.getD port.toNat default=(x:Int)then sO ns c else 0)else if x=0 then sO ns c else 0
theorem ja{n D:Nat}{port:Int}{hanging ns es:AY}{E:List (List (Int×Int))}{ids inp:AB}{Ws:List (Int→Nat)}
  (hlen:hanging.length=Ws.length)(h1: ∀k,(hk:k<Ws.length)→(k:Int)≠port→(hanging.getD k default).length=n∧ ∀b:Nat,b<n→(hanging.getD k default).getD b default=D7 (Ws[k] (b:Int)))
  (h2: ∀k,(hk:k<Ws.length)→(k:Int)=port→ ∀b:Int,Ws[k] b=1)(hl:Ws.length=D)(hD:D≤6)(hn:n≤8)(hn1:1≤n)(hp:port= -1∨(0≤port∧port.toNat<D))(hns:Bv ns)(hinc:Us ns=true):
  ∀(m k fuel P:Nat) (O:Nat→Nat) (o:AB),m+k=D→m<fuel→o.length=D→(∀y∈o.take k,0≤y∧y<n)→
   ∃o',BU fuel (k:Int) (D7 P) o (Pt n O) hanging (n:Int) (D:Int) ns es E ids inp port=some (o',Pt n fun x=>O x+P*Hw n (OO ns port x) (Ws.drop k) (o.take k))∧o'.length=D∧o'.take k=o.take k
 |m,k,0,P,O,o,_,hf,_,_=>by omega
 |m,k,fuel+1,P,O,o,hk,hf,ho,hr=>by
  show ∃o',DU (BU fuel) (k:Int) (D7 P) o (Pt n O) hanging (n:Int) (D:Int) ns es E ids inp port=_∧_
  unfold DU;by_cases p0:P=0
  ·subst p0;rw [if_pos ((FE 0).2 rfl)]
   refine⟨o, ?_,ho,rfl⟩
   simp only [Nat.zero_mul,YE]
  ·rw [if_neg (fun e=>p0 ((FE P).1 e))];by_cases hkD:k=D
   ·rw [if_pos (by omega),if_pos (by omega),List.drop_of_length_le (by omega),ji (by omega)]
    rw [ji (by omega)]at hr
    unfold Mj;rw [BL hns,BL (by omega),BL hinc]
    have hadd: ∀y:Nat,y<n→KO (IntKind.i64.wrap ((Pt n O).getD y default+D7 P)) 1000000000001=D7 (O y+P):=by
     intro y hy;rw [V5 _ hy,XV]
    have hleaf: ∀x,Hw n (OO ns port x) [] o=OO ns port x o:=fun x=>rfl;simp only [hleaf,Cz];by_cases hg:ns.contains (Me o)=true
    ·have hgc:sO ns o=1:=by unfold sO;rw [if_pos hg]
     rw [if_pos hg];by_cases c0:0≤port
     ·have hpl:port.toNat<o.length:=by omega
      have hm:=hr _ (Nh hpl);rw [←Ao _ _ hpl]at hm;obtain⟨y,hy⟩: ∃y:Nat,o.getD port.toNat default=(y:Int):=⟨(o.getD port.toNat default).toNat,by omega⟩
      have hyn:y<n:=by omega
      rw [if_pos c0,BL (by omega),hy,EC,BL (by rw [Nc];omega),hadd y hyn,yF]
      refine⟨o, ?_,ho,by first|rfl|exact ji (by omega)⟩
      congr 2
      refine PI fun x _=> ?_;unfold OO;rw [if_pos c0,hy,hgc];by_cases e:x=y
      ·rw [if_pos e,if_pos (by omega),Pw]
      ·rw [if_neg e,if_neg (by omega),Nat.mul_zero]
     ·rw [if_neg c0,BL (by rw [Nc];omega),hadd 0 (by omega),yF]
      refine⟨o, ?_,ho,by first|rfl|exact ji (by omega)⟩
      congr 2
      refine PI fun x _=> ?_;unfold OO;rw [if_neg c0,hgc];by_cases e:x=0
      ·rw [if_pos e,if_pos e,Pw]
      ·rw [if_neg e,if_neg e,Nat.mul_zero]
    ·have hgc:sO ns o=0:=by unfold sO;rw [if_neg hg]
     rw [if_neg hg]
     refine⟨o, ?_,ho,by first|rfl|exact ji (by omega)⟩
     congr 2
     refine PI fun x _=> ?_;unfold OO;rw [hgc,ite_self,ite_self,ite_self,Nat.mul_zero,YE]
   ·have hkl:k<Ws.length:=by omega
    have hd:Ws.drop k=Ws[k]::Ws.drop (k+1):=ed hkl;rw [if_neg (by omega),hd]
    unfold E8;have key:=Rc (fun v=>Cs (BU fuel) (k:Int) (D7 P) hanging (n:Int) (D:Int) ns es E ids inp port v.1 v.2.1 v.2.2)
     (fun q s=> ∃b:Nat,q=n-b∧b≤n∧s.1=(b:Int)∧s.2.1.length=D∧s.2.1.take k=o.take k∧s.2.2=Pt n fun x=>O x+P*Dm b fun b=>Ws[k] (b:Int)*Hw n (OO ns port x) (Ws.drop (k+1)) (o.take k++[(b:Int)]))
     (fun r=>r.1.length=D∧r.1.take k=o.take k∧r.2=Pt n fun x=>O x+P*Dm n fun b=>Ws[k] (b:Int)*Hw n (OO ns port x) (Ws.drop (k+1)) (o.take k++[(b:Int)])) ?_ n ((0:Int),o,Pt n O) ⟨0,rfl,by omega,rfl,ho,rfl,by simp only [UD,Nat.mul_zero,YE]⟩
    ·obtain⟨r,k1,k2,k3,k4⟩:=key
     refine⟨r.1, ?_,k2,k3⟩
     rw [k1,Cz,k4];rfl
    ·rintro q ⟨b',o1,w⟩ ⟨b,hq,hb,eb,g1,g2,g3⟩
     dsimp only at eb g1 g2 g3;subst eb g3;simp only [Cs,EC];by_cases c:b<n
     ·left
      rw [if_pos (by omega),BL (by omega),K4 b (by omega),K4 k (by omega)]
      have et:(o1.set k (b:Int)).take (k+1)=o.take k++[(b:Int)]:=by
       rw [jh (by rw [Ki];omega),oK,List.take_set_of_le (Dh _),g2]
      have hwk: ∃p',(if(k:Int)=port then some (D7 P)else ck (0≤(k:Int)∧k<hanging.length)<|ck (0≤(b:Int)∧b<(hanging.getD k default).length)<|QW (D7 P) ((hanging.getD k default).getD b default))=some (D7 p')∧p'=P*Ws[k] (b:Int):=by
       refine⟨_, ?_,rfl⟩
       by_cases ci:(k:Int)=port
       ·rw [if_pos ci,h2 k hkl ci,Pw]
       ·obtain⟨w1,w2⟩:=h1 k hkl ci;rw [if_neg ci,BL (by omega),BL (by omega),w2 b c,V3]
      obtain⟨p',hp',ep⟩:=hwk
      obtain⟨o2,q1,q2,q3⟩:=ja (inp:=inp) (ids:=ids) (es:=es) (E:=E) hlen h1 h2 hl hD hn hn1 hp hns hinc (m-1) (k+1) fuel p' (fun x=>O x+P*Dm b fun b=>Ws[k] (b:Int)*Hw n (OO ns port x) (Ws.drop (k+1)) (o.take k++[(b:Int)])) (o1.set k (b:Int)) (by omega) (by omega) (by rw [Ki];exact g1) (by
       rw [et];intro y hy;rcases OU.1 hy with hy|hy
       ·exact hr y hy
       ·rw [Wl]at hy;omega)
      rw [et]at q1 q3
      have g5:o2.take k=o.take k:=by
       have:=congrArg (List.take k) q3
       rw [List.take_take,Nat.min_eq_left (by omega)]at this
       rw [this,List.take_append_of_le_length (by rw [Ud];omega),List.take_take,Nat.min_self]
      have ev:(Pt n fun x=>(O x+P*Dm b fun b=>Ws[k] (b:Int)*Hw n (OO ns port x) (Ws.drop (k+1)) (o.take k++[(b:Int)]))+p'*Hw n (OO ns port x) (Ws.drop (k+1)) (o.take k++[(b:Int)]))=Pt n fun x=>O x+P*Dm (b+1) fun b=>Ws[k] (b:Int)*Hw n (OO ns port x) (Ws.drop (k+1)) (o.take k++[(b:Int)]):=by
       refine PI fun x _=> ?_;rw [Ef,Nat.mul_add,ep,Nat.mul_assoc,Nat.add_assoc]
      rw [ev]at q1
      refine⟨(((b+1:Nat):Int),o2,_),n-(b+1), ?_,by omega,b+1,rfl,by omega,rfl,q2,g5,rfl⟩
      by_cases ci:(k:Int)=port
      ·rw [if_pos ci]at hp';have hpe:D7 P=D7 p':=Option.some.inj hp';rw [if_pos ci,hpe,q1,Cz];rfl
      ·rw [if_neg ci]at hp' ⊢;obtain⟨w1,w2⟩:=h1 k hkl ci;rw [BL (by omega),BL (by omega)]at hp' ⊢
       rw [hp',Cz,q1,Cz];rfl
     ·right
      have:b=n:=by omega
      subst this;rw [if_neg (by omega)]
      exact⟨_,rfl,g1,g2,rfl⟩
end Go.Proofs.YtiehjihckndgkaaGreat
