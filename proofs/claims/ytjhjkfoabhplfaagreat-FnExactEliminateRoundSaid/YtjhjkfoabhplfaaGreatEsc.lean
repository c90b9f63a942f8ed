/- Choices from sets: program and reference. Conditions: those in each lemma. -/
import Derived.Test.YtjhjkfoabhplfaaGreatL6
import Derived.Test.YtjhjkfoabhplfaaGreatEsA
import Derived.Test.YtjhjkfoabhplfaaGreatEmu
import Derived.Test.YtjhjkfoabhplfaaGreatEfc
import Derived.Test.YtjhjkfoabhplfaaGreatBit
import Derived.Test.YtjhjkfoabhplfaaGreatZob
namespace Go.Proofs.YtjhjkfoabhplfaaGreat
open Go Dv
set_option linter.unusedSimpArgs false
set_option linter.unusedVariables false
set_option maxRecDepth 100000
def uD(to c:AA):AA:=c.map fun a=>to.getD a.toNat default
theorem Tp(to c:AA):(uD to c).length=c.length:=by simp [uD]
def inN(c:AA)(n:Nat):Prop:= ∀a∈c,0≤a∧a.toNat<n
theorem lF(to c:AA)(n:Nat)(ht:to.length=n)(hc:inN c n)(hcl:c.length<1099511627775):Nq to c=some (uD to c):=by
 unfold Nq MU;rw [A09 (fun v=>FP to c v.1 v.2) c (fun a=>to.getD a.toNat default)]
 ·rfl
 ·intro i hi o ho;have ha:=hc c[i] (FT hi);simp only [FP,H5];rw [if_pos (BZ hi),Ao (by omega),Ao (by rw [AX _ _ hi];omega),Ao (by omega),H9 i (by omega),AX _ _ hi]
 ·intro o ho;simp only [FP];rw [if_neg (Ae _)]
theorem A97{to c:AA}(hc:inN c to.length): ∀x∈uD to c,x∈to:=by
 intro x hx;obtain⟨a,ha,rfl⟩:=Fq.1 hx;have:=hc a ha
 rw [AX _ _ this.2];exact FT _
def gd(good:AL)(sets x:AA):Bool:=YI (fun c=>good.contains (Bt c)) ((uD sets x).map fun s=>AR s 8) []
theorem uE(set:Int)(a:Nat)(h:0≤set∧set≤255)(ha:a≤8):W9 set (a:Int)=some (Ea set a):=by
 unfold W9 Ea;rw [Ao (by omega),H5,X4 set a (by omega),Int.tmod_eq_emod_of_nonneg (TB set a h.1)]
theorem QI(set:Int)(h:0≤set∧set≤255):LW set=some (AR set 8):=by
 unfold LW NQ;have key:=BD (fun v=>GA set v.1 v.2) (fun i=>(AR set i,(i:Int))) 8 (AR set 8) ?_ ?_
 ·have e0:AR set 0=[]:=rfl;rw [e0,Jb]at key;rw [key];rfl
 ·intro i hi;have hl:=Jk set i;simp only [GA];rw [if_pos (by omega),uE set i h (by omega),Bl,H9 i (by omega),Le]
  cases Ea set i with
  |true=>rw [if_pos rfl,Ao (by omega),if_pos rfl]
  |false=>rw [if_neg (by decide),if_neg (by decide)]
 ·simp only [GA];rw [if_neg (by decide)]
theorem Xk(good:AL)(sets:AA)(hs: ∀s∈sets,0≤s∧s≤255)(hl:sets.length≤4)(hg:good.length<1099511627776):
  ∀(m fuel:Nat) (c:AA),m+c.length=sets.length→m<fuel→
   ∃r,Cr fuel good sets c=some (.inl (r,YI (fun c=>good.contains (Bt c)) ((sets.drop c.length).map fun s=>AR s 8) c))∨Cr fuel good sets c=some (.inr (r,YI (fun c=>good.contains (Bt c)) ((sets.drop c.length).map fun s=>AR s 8) c))
 |_,0,_,_,hf=>by omega
 |0,fuel+1,c,hc,_=>by
  refine⟨c,.inl ?_⟩
  show Ii (Cr fuel) good sets c=_
  unfold Ii;rw [if_pos (by omega),Ao (by omega),Ao hg,Ao (by rw [Tf];omega),List.drop_of_length_le (by omega)];rfl
 |m+1,fuel+1,c,hc,hf=>by
  have hcl:c.length<sets.length:=by omega
  have hd:sets.drop c.length=sets[c.length]::sets.drop (c.length+1):=fw hcl;have hr:=hs _ (FT hcl);have hL:=Jk sets[c.length] 8;have hcg:sets.getD c.length default=sets[c.length]:=AX _ _ hcl;have key:=JV (fun v=>J2 (Cr fuel) good sets c (AR sets[c.length] 8) v)
   (fun n s=> ∃i:Nat,n=(AR sets[c.length] 8).length-i∧i≤(AR sets[c.length] 8).length∧s=(i:Int)∧ ∀j,j<i→YI (fun c=>good.contains (Bt c)) ((sets.drop (c.length+1)).map fun s=>AR s 8) (c++[(AR sets[c.length] 8).getD j default])=false)
   (fun r=>match r with
    | .inl _=>YI (fun c=>good.contains (Bt c)) ((sets.drop c.length).map fun s=>AR s 8) c=true
    | .inr (.inl _)=>YI (fun c=>good.contains (Bt c)) ((sets.drop c.length).map fun s=>AR s 8) c=true
    | .inr (.inr _)=>YI (fun c=>good.contains (Bt c)) ((sets.drop c.length).map fun s=>AR s 8) c=false) ?_ (AR sets[c.length] 8).length (0:Int) ⟨0,rfl,by omega,rfl,fun j hj=>by omega⟩
  ·obtain⟨r,h1,h2⟩:=key;have h1':NR (Cr fuel) good sets c (AR sets[c.length] 8) 0=some r:=h1;have e:Cr (fuel+1) good sets c=Ii (Cr fuel) good sets c:=rfl;rw [e];unfold Ii;rw [if_neg (by omega),Ao (by omega),hcg,QI _ hr,Bl,h1',Bl]
   rcases r with q|q|q
   ·simp only at h2;rw [h2];exact⟨q,.inl rfl⟩
   ·simp only at h2;rw [h2];exact⟨q,.inr rfl⟩
   ·simp only at h2;rw [h2];exact⟨[],.inr rfl⟩
  ·rintro n s ⟨i,hn,hi,rfl,h3⟩
   simp only [J2,NL,H5];by_cases hlt:i<(AR sets[c.length] 8).length
   ·rw [if_pos (by omega),Ao (by omega),Ao (by omega),Bl,Ao (by omega),H9 i (by omega)]
    obtain⟨r,hr'⟩:=Xk good sets hs hl hg m fuel (c++[(AR sets[c.length] 8).getD i default]) (by rw [KU,qE];omega) (by omega)
    have hlen:(c++[(AR sets[c.length] 8).getD i default]).length=c.length+1:=by simp
    rw [hlen]at hr'
    have ht:YI (fun c=>good.contains (Bt c)) ((sets.drop (c.length+1)).map fun s=>AR s 8) (c++[(AR sets[c.length] 8).getD i default])=true→YI (fun c=>good.contains (Bt c)) ((sets.drop c.length).map fun s=>AR s 8) c=true:=fun h=>by
     rw [hd];simp only [Rp,YI,List.any_eq_true]
     exact⟨_,by rw [AX _ _ hlt];exact FT _,h⟩
    have step: ∀j,j<i+1→YI (fun c=>good.contains (Bt c)) ((sets.drop (c.length+1)).map fun s=>AR s 8) (c++[(AR sets[c.length] 8).getD i default])=false→YI (fun c=>good.contains (Bt c)) ((sets.drop (c.length+1)).map fun s=>AR s 8) (c++[(AR sets[c.length] 8).getD j default])=false:=fun j hj hfalse=>by
     by_cases e:j=i
     ·rw [e];exact hfalse
     ·exact h3 j (by omega)
    rcases hr' with hr'|hr'<;>rw [hr',Bl]<;>
     cases hb:YI (fun c=>good.contains (Bt c)) ((sets.drop (c.length+1)).map fun s=>AR s 8) (c++[(AR sets[c.length] 8).getD i default])
    ·exact .inl ⟨_,(AR sets[c.length] 8).length-(i+1),rfl,by omega,i+1,rfl,by omega,rfl,fun j hj=>step j hj hb⟩
    ·exact .inr ⟨_,rfl,ht hb⟩
    ·exact .inl ⟨_,(AR sets[c.length] 8).length-(i+1),rfl,by omega,i+1,rfl,by omega,rfl,fun j hj=>step j hj hb⟩
    ·exact .inr ⟨_,rfl,ht hb⟩
   ·right
    rw [if_neg (by omega)]
    refine⟨_,rfl, ?_⟩
    simp only;rw [hd];simp only [Rp,YI];rw [List.any_eq_false];intro a ha;obtain⟨j,hj,rfl⟩:=UO ha;have:=h3 j (by omega)
    rw [AX _ _ hj]at this;rw [this];decide
theorem fP(good:AL)(sets:AA)(size:Int)(hs: ∀s∈sets,0≤s∧s≤255)(hl:sets.length≤8)(hz:0≤size∧size≤4)(hg:good.length<1099511627776):
  Qu good sets size=some ((AY (sets.length:Int) size.toNat).filter (gd good sets)):=by
 have hck:=Fh (sets.length:Int) 8 (by omega) size.toNat
 have hcl:=TP (sets.length:Int) (by omega) size.toNat (by omega)
 unfold Qu Q6;rw [TR _ _ (by omega) hz,Bl]
 have key:=BD (fun v=>JH good sets (AY (sets.length:Int) size.toNat) v.1 v.2) (fun i=>(((AY (sets.length:Int) size.toNat).take i).filter (gd good sets),(i:Int))) (AY (sets.length:Int) size.toNat).length ((AY (sets.length:Int) size.toNat).filter (gd good sets)) ?_ ?_
 ·have:=key
  simp only [List.take_zero,List.filter_nil,Jb]at this;rw [this];rfl
 ·intro i hi;have hx:=hck.1 _ (FT hi);have hin:inN (AY (sets.length:Int) size.toNat)[i] sets.length:=fun a ha=>by have:=hx.2 a ha;omega
  have hfl:(((AY (sets.length:Int) size.toNat).take i).filter (gd good sets)).length≤10000:=by
   refine UU (qF _ _) ?_;rw [KV];omega
  have hil:=Tp sets (AY (sets.length:Int) size.toNat)[i];obtain⟨r,hr⟩:=Xk good (uD sets (AY (sets.length:Int) size.toNat)[i]) (fun s h=>hs s (A97 hin s h)) (by omega) hg (uD sets (AY (sets.length:Int) size.toNat)[i]).length 1000000 [] (by simp) (by omega)
  simp only [SB,UT]at hr;have eg:YI (fun c=>good.contains (Bt c)) ((uD sets (AY (sets.length:Int) size.toNat)[i]).map fun s=>AR s 8) []=gd good sets (AY (sets.length:Int) size.toNat)[i]:=rfl;rw [eg]at hr
  have e2:((AY (sets.length:Int) size.toNat).take (i+1)).filter (gd good sets)=((AY (sets.length:Int) size.toNat).take i).filter (gd good sets)++if gd good sets (AY (sets.length:Int) size.toNat)[i]=true then [(AY (sets.length:Int) size.toNat)[i]]else []:=by
   rw [S9 hi,lM]
   congr 1
   cases h:gd good sets (AY (sets.length:Int) size.toNat)[i]<;>simp [h]
  simp only [JH,H5];rw [if_pos (BZ hi),Ao (by omega),AX _ _ hi,lF sets _ sets.length rfl hin (by omega),Bl,H9 i (by omega),e2]
  unfold Uo;rcases hr with hr|hr<;>rw [hr,Bl]<;>cases gd good sets (AY (sets.length:Int) size.toNat)[i]
  ·simp
  ·simp only [if_true];rw [Ao (by omega)]
  ·simp
  ·simp only [if_true];rw [Ao (by omega)]
 ·simp only [JH];rw [if_neg (Ae _),Lr]
theorem aZ(sets c:AA)(hs: ∀s∈sets,0≤s∧s≤255)(hc:inN c sets.length)(hl:c.length<1000000):Od sets c=some ((uD sets c).map fun s=>AR s 8):=by
 unfold Od OW;have key:=BD (fun v=>I6 sets c v.1 v.2) (fun i=>((uD sets (c.take i)).map fun s=>AR s 8,(i:Int))) c.length ((uD sets c).map fun s=>AR s 8) ?_ ?_
 ·have e0:((uD sets (c.take 0)).map fun s=>AR s 8)=[]:=rfl;rw [e0,Jb]at key;rw [key];rfl
 ·intro i hi;have ha:=hc c[i] (FT hi);have h2:sets.getD c[i].toNat default∈sets:=by rw [AX _ _ ha.2];exact FT _
  simp only [I6,H5];have hg:=AX c i hi;rw [if_pos (BZ hi),Ao (by omega),Ao (by rw [hg];omega),hg,Xh _ (hs _ h2),Bl,Ao (by rw [R4,Tp,KV];omega),H9 i (by omega)]
  unfold uD;rw [S9 hi,UR,UR];rfl
 ·simp only [I6];rw [if_neg (Ae _),Lr]
theorem aa(good:AL)(sets:AA)(size:Int)(f:AA→Option Bool)(hl:sets.length≤8)(hz:0≤size∧size≤4)
  (hf: ∀x,x.length=size.toNat→inN x sets.length→f x=some (gd good sets x)):GZ (sets.length:Int) size f=some ((AY (sets.length:Int) size.toNat).filter (gd good sets)):=by
 have hck:=Fh (sets.length:Int) 8 (by omega) size.toNat
 exact uC _ _ _ _ (by omega) hz fun x hx=>hf x (hck.1 x hx).1 fun a ha=>by have:=(hck.1 x hx).2 a ha;omega
end Go.Proofs.YtjhjkfoabhplfaaGreat
