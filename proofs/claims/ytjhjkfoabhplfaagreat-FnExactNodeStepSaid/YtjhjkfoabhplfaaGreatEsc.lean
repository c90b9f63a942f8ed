/- Choices from sets: program and reference. Conditions: those in each lemma. -/
import Derived.Test.YtjhjkfoabhplfaaGreatL6
import Derived.Test.YtjhjkfoabhplfaaGreatEsA
import Derived.Test.YtjhjkfoabhplfaaGreatEmu
import Derived.Test.YtjhjkfoabhplfaaGreatEfc
import Derived.Test.YtjhjkfoabhplfaaGreatBit
import Derived.Test.YtjhjkfoabhplfaaGreatZob
namespace Go.Proofs.YtjhjkfoabhplfaaGreat
open Go Dv
set_option linter.unusedSimpArgs false
set_option linter.unusedVariables false
set_option maxRecDepth 100000
def rY(to c:AL):AL:=c.map fun a=>to.getD a.toNat default
theorem Xj(to c:AL):(rY to c).length=c.length:=by simp [rY]
def inN(c:AL)(n:Nat):Prop:= ∀a∈c,0≤a∧a.toNat<n
theorem jH(to c:AL)(n:Nat)(ht:to.length=n)(hc:inN c n)(hcl:c.length<1099511627775):Ny to c=some (rY to c):=by
 unfold Ny MZ;rw [xz (fun v=>GA to c v.1 v.2) c (fun a=>to.getD a.toNat default)]
 ·rfl
 ·intro i hi o ho;have ha:=hc c[i] (GG hi);simp only [GA,JD];rw [if_pos (CV hi),BF (by omega),BF (by rw [Af _ _ hi];omega),BF (by omega),JS i (by omega),Af _ _ hi]
 ·intro o ho;simp only [GA];rw [if_neg (Au _)]
theorem A71{to c:AL}(hc:inN c to.length): ∀x∈rY to c,x∈to:=by
 intro x hx;obtain⟨a,ha,rfl⟩:=I1.1 hx;have:=hc a ha
 rw [Af _ _ this.2];exact GG _
def gd(good:AO)(sets x:AL):Bool:=Xa (fun c=>good.contains (CY c)) ((rY sets x).map fun s=>Ae s 8) []
theorem qQ(set:Int)(a:Nat)(h:0≤set∧set≤255)(ha:a≤8):VS set (a:Int)=some (FB set a):=by
 unfold VS FB;rw [BF (by omega),JD,WK set a (by omega),Int.tmod_eq_emod_of_nonneg (SN set a h.1)]
theorem Tm(set:Int)(h:0≤set∧set≤255):NE set=some (Ae set 8):=by
 unfold NE NW;have key:=Bv (fun v=>Gm set v.1 v.2) (fun i=>(Ae set i,(i:Int))) 8 (Ae set 8) ?_ ?_
 ·have e0:Ae set 0=[]:=rfl;rw [e0,Kr]at key;rw [key];rfl
 ·intro i hi;have hl:=P5 set i;simp only [Gm];rw [if_pos (by omega),qQ set i h (by omega),Cs,JS i (by omega),Lv]
  cases FB set i with
  |true=>rw [if_pos rfl,BF (by omega),if_pos rfl]
  |false=>rw [if_neg (by decide),if_neg (by decide)]
 ·simp only [Gm];rw [if_neg (by decide)]
theorem X3(good:AO)(sets:AL)(hs: ∀s∈sets,0≤s∧s≤255)(hl:sets.length≤4)(hg:good.length<1099511627776):
  ∀(m fuel:Nat) (c:AL),m+c.length=sets.length→m<fuel→
   ∃r,DX fuel good sets c=some (.inl (r,Xa (fun c=>good.contains (CY c)) ((sets.drop c.length).map fun s=>Ae s 8) c))∨DX fuel good sets c=some (.inr (r,Xa (fun c=>good.contains (CY c)) ((sets.drop c.length).map fun s=>Ae s 8) c))
 |_,0,_,_,hf=>by omega
 |0,fuel+1,c,hc,_=>by
  refine⟨c,.inl ?_⟩
  show J8 (DX fuel) good sets c=_
  unfold J8;rw [if_pos (by omega),BF (by omega),BF hg,BF (by rw [TB];omega),List.drop_of_length_le (by omega)];rfl
 |m+1,fuel+1,c,hc,hf=>by
  have hcl:c.length<sets.length:=by omega
  have hd:sets.drop c.length=sets[c.length]::sets.drop (c.length+1):=dI hcl;have hr:=hs _ (GG hcl);have hL:=P5 sets[c.length] 8;have hcg:sets.getD c.length default=sets[c.length]:=Af _ _ hcl;have key:=Jk (fun v=>JM (DX fuel) good sets c (Ae sets[c.length] 8) v)
   (fun n s=> ∃i:Nat,n=(Ae sets[c.length] 8).length-i∧i≤(Ae sets[c.length] 8).length∧s=(i:Int)∧ ∀j,j<i→Xa (fun c=>good.contains (CY c)) ((sets.drop (c.length+1)).map fun s=>Ae s 8) (c++[(Ae sets[c.length] 8).getD j default])=false)
   (fun r=>match r with
    | .inl _=>Xa (fun c=>good.contains (CY c)) ((sets.drop c.length).map fun s=>Ae s 8) c=true
    | .inr (.inl _)=>Xa (fun c=>good.contains (CY c)) ((sets.drop c.length).map fun s=>Ae s 8) c=true
    | .inr (.inr _)=>Xa (fun c=>good.contains (CY c)) ((sets.drop c.length).map fun s=>Ae s 8) c=false) ?_ (Ae sets[c.length] 8).length (0:Int) ⟨0,rfl,by omega,rfl,fun j hj=>by omega⟩
  ·obtain⟨r,h1,h2⟩:=key;have h1':NY (DX fuel) good sets c (Ae sets[c.length] 8) 0=some r:=h1;have e:DX (fuel+1) good sets c=J8 (DX fuel) good sets c:=rfl;rw [e];unfold J8;rw [if_neg (by omega),BF (by omega),hcg,Tm _ hr,Cs,h1',Cs]
   rcases r with q|q|q
   ·simp only at h2;rw [h2];exact⟨q,.inl rfl⟩
   ·simp only at h2;rw [h2];exact⟨q,.inr rfl⟩
   ·simp only at h2;rw [h2];exact⟨[],.inr rfl⟩
  ·rintro n s ⟨i,hn,hi,rfl,h3⟩
   simp only [JM,NS,JD];by_cases hlt:i<(Ae sets[c.length] 8).length
   ·rw [if_pos (by omega),BF (by omega),BF (by omega),Cs,BF (by omega),JS i (by omega)]
    obtain⟨r,hr'⟩:=X3 good sets hs hl hg m fuel (c++[(Ae sets[c.length] 8).getD i default]) (by rw [Ko,mf];omega) (by omega)
    have hlen:(c++[(Ae sets[c.length] 8).getD i default]).length=c.length+1:=by simp
    rw [hlen]at hr'
    have ht:Xa (fun c=>good.contains (CY c)) ((sets.drop (c.length+1)).map fun s=>Ae s 8) (c++[(Ae sets[c.length] 8).getD i default])=true→Xa (fun c=>good.contains (CY c)) ((sets.drop c.length).map fun s=>Ae s 8) c=true:=fun h=>by
     rw [hd];simp only [RQ,Xa,List.any_eq_true]
     exact⟨_,by rw [Af _ _ hlt];exact GG _,h⟩
    have step: ∀j,j<i+1→Xa (fun c=>good.contains (CY c)) ((sets.drop (c.length+1)).map fun s=>Ae s 8) (c++[(Ae sets[c.length] 8).getD i default])=false→Xa (fun c=>good.contains (CY c)) ((sets.drop (c.length+1)).map fun s=>Ae s 8) (c++[(Ae sets[c.length] 8).getD j default])=false:=fun j hj hfalse=>by
     by_cases e:j=i
     ·rw [e];exact hfalse
     ·exact h3 j (by omega)
    rcases hr' with hr'|hr'<;>rw [hr',Cs]<;>
     cases hb:Xa (fun c=>good.contains (CY c)) ((sets.drop (c.length+1)).map fun s=>Ae s 8) (c++[(Ae sets[c.length] 8).getD i default])
    ·exact .inl ⟨_,(Ae sets[c.length] 8).length-(i+1),rfl,by omega,i+1,rfl,by omega,rfl,fun j hj=>step j hj hb⟩
    ·exact .inr ⟨_,rfl,ht hb⟩
    ·exact .inl ⟨_,(Ae sets[c.length] 8).length-(i+1),rfl,by omega,i+1,rfl,by omega,rfl,fun j hj=>step j hj hb⟩
    ·exact .inr ⟨_,rfl,ht hb⟩
   ·right
    rw [if_neg (by omega)]
    refine⟨_,rfl, ?_⟩
    simp only;rw [hd];simp only [RQ,Xa];rw [List.any_eq_false];intro a ha;obtain⟨j,hj,rfl⟩:=Tt ha;have:=h3 j (by omega)
    rw [Af _ _ hj]at this;rw [this];decide
theorem vP(good:AO)(sets:AL)(size:Int)(hs: ∀s∈sets,0≤s∧s≤255)(hl:sets.length≤8)(hz:0≤size∧size≤4)(hg:good.length<1099511627776):
  Qd good sets size=some ((Aj (sets.length:Int) size.toNat).filter (gd good sets)):=by
 have hck:=Hr (sets.length:Int) 8 (by omega) size.toNat
 have hcl:=Sa (sets.length:Int) (by omega) size.toNat (by omega)
 unfold Qd Pp;rw [Sc _ _ (by omega) hz,Cs]
 have key:=Bv (fun v=>Jb good sets (Aj (sets.length:Int) size.toNat) v.1 v.2) (fun i=>(((Aj (sets.length:Int) size.toNat).take i).filter (gd good sets),(i:Int))) (Aj (sets.length:Int) size.toNat).length ((Aj (sets.length:Int) size.toNat).filter (gd good sets)) ?_ ?_
 ·have:=key
  simp only [List.take_zero,List.filter_nil,Kr]at this;rw [this];rfl
 ·intro i hi;have hx:=hck.1 _ (GG hi);have hin:inN (Aj (sets.length:Int) size.toNat)[i] sets.length:=fun a ha=>by have:=hx.2 a ha;omega
  have hfl:(((Aj (sets.length:Int) size.toNat).take i).filter (gd good sets)).length≤10000:=by
   refine Tv (ry _ _) ?_;rw [Kq];omega
  have hil:=Xj sets (Aj (sets.length:Int) size.toNat)[i];obtain⟨r,hr⟩:=X3 good (rY sets (Aj (sets.length:Int) size.toNat)[i]) (fun s h=>hs s (A71 hin s h)) (by omega) hg (rY sets (Aj (sets.length:Int) size.toNat)[i]).length 1000000 [] (by simp) (by omega)
  simp only [Re,Tu]at hr;have eg:Xa (fun c=>good.contains (CY c)) ((rY sets (Aj (sets.length:Int) size.toNat)[i]).map fun s=>Ae s 8) []=gd good sets (Aj (sets.length:Int) size.toNat)[i]:=rfl;rw [eg]at hr
  have e2:((Aj (sets.length:Int) size.toNat).take (i+1)).filter (gd good sets)=((Aj (sets.length:Int) size.toNat).take i).filter (gd good sets)++if gd good sets (Aj (sets.length:Int) size.toNat)[i]=true then [(Aj (sets.length:Int) size.toNat)[i]]else []:=by
   rw [TH hi,mr]
   congr 1
   cases h:gd good sets (Aj (sets.length:Int) size.toNat)[i]<;>simp [h]
  simp only [Jb,JD];rw [if_pos (CV hi),BF (by omega),Af _ _ hi,jH sets _ sets.length rfl hin (by omega),Cs,JS i (by omega),e2]
  unfold UI;rcases hr with hr|hr<;>rw [hr,Cs]<;>cases gd good sets (Aj (sets.length:Int) size.toNat)[i]
  ·simp
  ·simp only [if_true];rw [BF (by omega)]
  ·simp
  ·simp only [if_true];rw [BF (by omega)]
 ·simp only [Jb];rw [if_neg (Au _),Md]
theorem qR(sets c:AL)(hs: ∀s∈sets,0≤s∧s≤255)(hc:inN c sets.length)(hl:c.length<1000000):Qc sets c=some ((rY sets c).map fun s=>Ae s 8):=by
 unfold Qc OU;have key:=Bv (fun v=>IW sets c v.1 v.2) (fun i=>((rY sets (c.take i)).map fun s=>Ae s 8,(i:Int))) c.length ((rY sets c).map fun s=>Ae s 8) ?_ ?_
 ·have e0:((rY sets (c.take 0)).map fun s=>Ae s 8)=[]:=rfl;rw [e0,Kr]at key;rw [key];rfl
 ·intro i hi;have ha:=hc c[i] (GG hi);have h2:sets.getD c[i].toNat default∈sets:=by rw [Af _ _ ha.2];exact GG _
  simp only [IW,JD];have hg:=Af c i hi;rw [if_pos (CV hi),BF (by omega),BF (by rw [hg];omega),hg,lu _ (hs _ h2),Cs,BF (by rw [TL,Xj,Kq];omega),JS i (by omega)]
  unfold rY;rw [TH hi,UR,UR];rfl
 ·simp only [IW];rw [if_neg (Au _),Md]
theorem qU(good:AO)(sets:AL)(size:Int)(f:AL→Option Bool)(hl:sets.length≤8)(hz:0≤size∧size≤4)
  (hf: ∀x,x.length=size.toNat→inN x sets.length→f x=some (gd good sets x)):Im (sets.length:Int) size f=some ((Aj (sets.length:Int) size.toNat).filter (gd good sets)):=by
 have hck:=Hr (sets.length:Int) 8 (by omega) size.toNat
 exact qI _ _ _ _ (by omega) hz fun x hx=>hf x (hck.1 x hx).1 fun a ha=>by have:=(hck.1 x hx).2 a ha;omega
end Go.Proofs.YtjhjkfoabhplfaaGreat
