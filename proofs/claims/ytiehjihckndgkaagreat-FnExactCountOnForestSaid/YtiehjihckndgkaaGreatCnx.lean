/- Labelings of a branch counted: the program's recursion. Conditions: those in each lemma. -/
import Derived.Test.YtiehjihckndgkaaGreatL6
import Derived.Test.YtiehjihckndgkaaGreatCnw
namespace Go.Proofs.YtiehjihckndgkaaGreat
open Go Dv
set_option linter.unusedSimpArgs false
set_option linter.unusedVariables false
set_option maxRecDepth 100000
theorem XW{n:Nat}{i:Int}{a:Nat}{Ws:List (Int→Nat)}{ways:AY}(L D:Int)(ns es:AY)(E:List (List (Int×Int)))(ids inp:AB)(h:RelW n i (a:Int) Ws ways)(hl:Ws.length≤6)(hn:n≤8)(hi:a<n∨i<0):
  Db L D ns es E ids inp ways i (1,0)=some (D7 (Hw n (fun _=>1) Ws [])):=by
 have hwl:=h.len;unfold Db;rw [dh];have key:=Cf (fun v=>Cc L D ns es E ids inp ways i v.1 v.2) (fun k=>(D7 (((Ws.map fun w=>Dm n fun b=>w (b:Int)).take k).prod),(k:Int))) Ws.length (D7 ((Ws.map fun w=>Dm n fun b=>w (b:Int)).prod)) ?_ ?_
 ·have e0:D7 (((Ws.map fun w=>Dm n fun b=>w (b:Int)).take 0).prod)=1:=rfl;rw [e0,Gn]at key;exact key
 ·intro k hk
  have et:((Ws.map fun w=>Dm n fun b=>w (b:Int)).take (k+1)).prod=((Ws.map fun w=>Dm n fun b=>w (b:Int)).take k).prod*Dm n fun b=>Ws[k] (b:Int):=by
   rw [jh (by simpa using hk),jZ,Ni]
  simp only [Cc];rw [if_pos (by omega),BL (by omega),et,K4 k (by omega)]
  by_cases ci:(k:Int)=i
  ·rw [if_pos ci]
   have:(Dm n fun b=>Ws[k] (b:Int))=1:=by
    have ha:a<n:=by omega
    rw [WV ha fun b _ hne=>by rw [h.one k hk ci,if_neg (by omega)],h.one k hk ci,if_pos rfl]
   rw [this,Pw]
  ·obtain⟨w1,w2⟩:=h.at_ k hk ci
   have inner:Da L D ns es E ids inp ways i (D7 (((Ws.map fun w=>Dm n fun b=>w (b:Int)).take k).prod)) (k:Int) (0,0)=some (D7 (Dm n fun b=>Ws[k] (b:Int))):=by
    unfold Da;have key:=Cf (fun v=>Cb L D ns es E ids inp ways i (D7 (((Ws.map fun w=>Dm n fun b=>w (b:Int)).take k).prod)) (k:Int) v.1 v.2) (fun j=>(D7 (Dm j fun b=>Ws[k] (b:Int)),(j:Int))) n (D7 (Dm n fun b=>Ws[k] (b:Int))) ?_ ?_
    ·exact key
    ·intro j hj;simp only [Cb,EC];rw [if_pos (by omega),BL (by omega),w2 j hj,XV,K4 j (by omega),Ef]
    ·simp only [Cb,EC];rw [if_neg (by omega)]
   rw [if_neg ci,inner,Cz,V3,Cz]
 ·simp only [Cc];rw [if_neg (by omega),ji (by simp)]
def AIR(n:Nat)(i:Int)(r:AB)(g:Nat→Nat):Prop:=r.length=n∧if i<0 then r.getD 0 default=D7 (g 0)else r=Pt n g
section
variable {E:List (List (Int×Int))} {ns es:AY} {n D:Nat} (C:Ctn E ns es n D) (ids inp:AB)
include C
theorem nX{i:Int}{rl:Nat}{wg:Nat→Nat→Int→Nat}(hn1:1≤n)(hi:i= -1∨(0≤i∧i.toNat<rl))(hrl:rl≤6)
  (hw1: ∀a k:Nat,k<rl→(k:Int)=i→ ∀b,wg a k b=if b=(a:Int)then 1 else 0)(hw2: ∀a k:Nat,k<rl→(k:Int)≠i→wg a k=wg 0 k):
  ∃r,EO (n:Int) (D:Int) ns es E ids inp ((List.range rl).map fun(k:Nat)=>if(k:Int)=i then []else Pt n fun b=>wg 0 k (b:Int)) i=some r∧AIR n i r fun a=>Hw n (if rl=D then sO ns else fun _=>1) ((List.range rl).map (wg a)) []:=by
 have hn:=C.hn;have hlen:((List.range rl).map fun(k:Nat)=>if(k:Int)=i then []else Pt n fun b=>wg 0 k (b:Int)).length=rl:=by simp
 have hrel: ∀a:Nat,RelW n i (a:Int) ((List.range rl).map (wg a)) ((List.range rl).map fun(k:Nat)=>if(k:Int)=i then []else Pt n fun b=>wg 0 k (b:Int)):=by
  intro a
  refine⟨by simp,fun k hk hki=> ?_,fun k hk hki b=> ?_⟩
  ·have hk':k<rl:=by simpa using hk
   rw [Ao _ _ (by simpa using hk)]
   simp only [Ni,Ng];rw [if_neg hki]
   refine⟨Nc _ _,fun b hb=> ?_⟩
   rw [V5 _ hb,hw2 a k hk' hki]
  ·have hk':k<rl:=by simpa using hk
   simp only [Ni,Ng];exact hw1 a k hk' hki b
 unfold EO;rw [BL (by omega),BL (by omega),hlen]
 by_cases hD:rl=D
 ·rw [if_pos (by omega)]
  unfold Gd
  let W1:List (Int→Nat):=(List.range rl).map fun(k:Nat)=>if(k:Int)=i then fun _=>1 else wg 0 k
  have hW1:W1.length=rl:=by simp [W1]
  have hW1a: ∀k (h:k<W1.length),W1[k]=if(k:Int)=i then fun _=>1 else wg 0 k:=fun k h=>by simp [W1]
  obtain⟨o',q1,q2,q3⟩:=ja (n:=n) (D:=D) (port:=i) (ns:=ns) (es:=es) (E:=E) (ids:=ids) (inp:=inp) (Ws:=W1) (hanging:=(List.range rl).map fun(k:Nat)=>if(k:Int)=i then []else Pt n fun b=>wg 0 k (b:Int)) (by rw [hlen,hW1])
   (fun k hk hki=>by
    rw [hW1a k hk,if_neg hki,Ao _ _ (by rw [hlen];omega)]
    simp only [Ni,Ng];rw [if_neg hki]
    exact⟨Nc _ _,fun b hb=>V5 _ hb⟩)
   (fun k hk hki b=>by rw [hW1a k hk,if_pos hki]) (by omega) (by omega) hn hn1 (by omega) C.hs C.hin D 0 1000000 1 (fun _=>0) (List.replicate rl 0) (by omega) (by omega) (by simp;omega) (fun y hy=>by rw [ZB]at hy;cases hy)
  have e1:D7 1=1:=rfl;rw [e1,Gn,←A2v,YC,ZB]at q1;rw [EC,q1,Cz]
  refine⟨_,rfl,Nc _ _, ?_⟩
  simp only [MK,Nat.one_mul];rw [if_pos hD];by_cases c0:i<0
  ·rw [if_pos c0,V5 _ (by omega:0<n)]
   congr 1
   have:OO ns i 0=sO ns:=by
    funext c
    unfold OO;rw [if_neg (by omega),if_pos rfl]
   rw [this]
   congr 1
   refine sV fun k _=> ?_;rw [if_neg (by omega)]
  ·rw [if_neg c0];refine PI fun a ha=> ?_
   congr 1
   have e:OO ns i a=fun d=>if d.getD i.toNat default=(a:Int)then sO ns d else 0:=by
    funext c
    unfold OO;rw [if_pos (by omega)]
   rw [e];refine ry W1 _ [] (by rw [hW1];simp) (fun k k1 k2 hne=> ?_) (fun k k1 k2 he b=> ?_) (fun h=>by simp at h) (by rw [hW1];simp;omega)
   ·rw [hW1a k k1];simp only [Ni,Ng];have:(k:Int)≠i:=by simp at hne;omega
    rw [if_neg this,hw2 a k (by omega) this]
   ·rw [hW1a k k1];simp only [Ni,Ng];have:(k:Int)=i:=by simp at he;omega
    rw [if_pos this]
    exact⟨rfl,hw1 a k (by omega) this b⟩
 ·rw [if_neg (by omega),if_neg hD]
  unfold FP;by_cases c0:i<0
  ·have hp:=XW (n:Int) (D:Int) ns es E ids inp (hrel 0) (by simpa using hrl) hn (.inr c0)
   rw [hp,Cz,BL (by omega),BL (by simp;omega),if_neg (by omega),EC]
   refine⟨_,rfl,by simp, ?_⟩
   rw [if_pos c0,Ao _ _ (by simp;omega),oK]
  ·have hp:=XW (n:Int) (D:Int) ns es E ids inp (hrel 0) (by simpa using hrl) hn (.inl hn1)
   rw [hp,Cz,BL (by omega),BL (by simp;omega),if_pos (by omega),bV _ _ (by omega),Cz,EC]
   refine⟨_,rfl,by simp, ?_⟩
   rw [if_neg c0,A03];exact PI fun a ha=>Option.some.inj (hp.symm.trans (XW (n:Int) (D:Int) ns es E ids inp (hrel a) (by simpa using hrl) hn (.inl ha)))
end
end Go.Proofs.YtiehjihckndgkaaGreat
