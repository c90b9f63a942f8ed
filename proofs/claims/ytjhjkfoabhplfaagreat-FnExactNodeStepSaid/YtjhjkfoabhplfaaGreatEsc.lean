/- Choices from sets: program and reference. Conditions: those in each lemma. -/
import Derived.Test.YtjhjkfoabhplfaaGreatL6
import Derived.Test.YtjhjkfoabhplfaaGreatEsA
import Derived.Test.YtjhjkfoabhplfaaGreatEmu
import Derived.Test.YtjhjkfoabhplfaaGreatEfc
import Derived.Test.YtjhjkfoabhplfaaGreatBit
import Derived.Test.YtjhjkfoabhplfaaGreatZob
namespace Go.Proofs.YtjhjkfoabhplfaaGreat
open Go Dv
set_option linter.unusedSimpArgs false
set_option linter.unusedVariables false
set_option maxRecDepth 100000
def pq(to c:List Int):List Int:=c.map fun a=>to.getD a.toNat default
theorem Wm(to c:List Int):(pq to c).length=c.length:=by simp [pq]
def inN(c:List Int)(n:Nat):Prop:= ∀a∈c,0≤a∧a.toNat<n
theorem gJ(to c:List Int)(n:Nat)(ht:to.length=n)(hc:inN c n)(hcl:c.length<1099511627775):Mm to c=some (pq to c):=by
 unfold Mm LV;rw [wR (fun v=>FB to c v.1 v.2) c (fun a=>to.getD a.toNat default)]
 ·rfl
 ·intro i hi o ho;have ha:=hc c[i] (FE hi);simp only [FB,IA];rw [if_pos (Bi hi),Am (by omega),Am (by rw [AV _ _ hi];omega),Am (by omega),IR i (by omega),AV _ _ hi]
 ·intro o ho;simp only [FB];rw [if_neg (Af _)]
theorem A6J{to c:List Int}(hc:inN c to.length): ∀x∈pq to c,x∈to:=by
 intro x hx;obtain⟨a,ha,rfl⟩:=GV.1 hx;have:=hc a ha
 rw [AV _ _ this.2];exact FE _
def gd(good:List (List Int))(sets x:List Int):Bool:=WX (fun c=>good.contains (Bn c)) ((pq sets x).map fun s=>AU s 8) []
theorem ny(set:Int)(a:Nat)(h:0≤set∧set≤255)(ha:a≤8):UZ set (a:Int)=some (EQ set a):=by
 unfold UZ EQ;rw [Am (by omega),IA,VH set a (by omega),Int.tmod_eq_emod_of_nonneg (RG set a h.1)]
theorem Sc(set:Int)(h:0≤set∧set≤255):M4 set=some (AU set 8):=by
 unfold M4 ML;have key:=BO (fun v=>Fb set v.1 v.2) (fun i=>(AU set i,(i:Int))) 8 (AU set 8) ?_ ?_
 ·have e0:AU set 0=[]:=rfl;rw [e0,Js]at key;rw [key];rfl
 ·intro i hi;have hl:=Nz set i;simp only [Fb];rw [if_pos (by omega),ny set i h (by omega),CO,IR i (by omega),Ko]
  cases EQ set i with
  | true=>rw [if_pos rfl,Am (by omega),if_pos rfl]
  | false=>rw [if_neg (by decide),if_neg (by decide)]
 ·simp only [Fb];rw [if_neg (by decide)]
theorem Vt(good:List (List Int))(sets:List Int)(hs: ∀s∈sets,0≤s∧s≤255)(hl:sets.length≤4)(hg:good.length<1099511627776):
  ∀(m fuel:Nat) (c:List Int),m+c.length=sets.length→m<fuel→
   ∃r,Ck fuel good sets c=some (.inl (r,WX (fun c=>good.contains (Bn c)) ((sets.drop c.length).map fun s=>AU s 8) c))∨Ck fuel good sets c=some (.inr (r,WX (fun c=>good.contains (Bn c)) ((sets.drop c.length).map fun s=>AU s 8) c))
 | _,0,_,_,hf=>by omega
 | 0,fuel+1,c,hc,_=>by
  refine⟨c,.inl ?_⟩
  show I5 (Ck fuel) good sets c=_
  unfold I5;rw [if_pos (by omega),Am (by omega),Am hg,Am (by rw [Rp];omega),List.drop_of_length_le (by omega)];rfl
 | m+1,fuel+1,c,hc,hf=>by
  have hcl:c.length<sets.length:=by omega
  have hd:sets.drop c.length=sets[c.length]::sets.drop (c.length+1):=aS hcl;have hr:=hs _ (FE hcl);have hL:=Nz sets[c.length] 8;have hcg:sets.getD c.length default=sets[c.length]:=AV _ _ hcl;have key:=Im (fun v=>IK (Ck fuel) good sets c (AU sets[c.length] 8) v)
   (fun n s=> ∃i:Nat,n=(AU sets[c.length] 8).length-i∧i≤(AU sets[c.length] 8).length∧s=(i:Int)∧ ∀j,j<i→WX (fun c=>good.contains (Bn c)) ((sets.drop (c.length+1)).map fun s=>AU s 8) (c++[(AU sets[c.length] 8).getD j default])=false)
   (fun r=>match r with
    | .inl _=>WX (fun c=>good.contains (Bn c)) ((sets.drop c.length).map fun s=>AU s 8) c=true
    | .inr (.inl _)=>WX (fun c=>good.contains (Bn c)) ((sets.drop c.length).map fun s=>AU s 8) c=true
    | .inr (.inr _)=>WX (fun c=>good.contains (Bn c)) ((sets.drop c.length).map fun s=>AU s 8) c=false) ?_ (AU sets[c.length] 8).length (0:Int) ⟨0,rfl,by omega,rfl,fun j hj=>by omega⟩
  ·obtain⟨r,h1,h2⟩:=key;have h1':MM (Ck fuel) good sets c (AU sets[c.length] 8) 0=some r:=h1;have e:Ck (fuel+1) good sets c=I5 (Ck fuel) good sets c:=rfl;rw [e];unfold I5;rw [if_neg (by omega),Am (by omega),hcg,Sc _ hr,CO,h1',CO]
   rcases r with q | q | q
   ·simp only at h2;rw [h2];exact⟨q,.inl rfl⟩
   ·simp only at h2;rw [h2];exact⟨q,.inr rfl⟩
   ·simp only at h2;rw [h2];exact⟨[],.inr rfl⟩
  ·rintro n s ⟨i,hn,hi,rfl,h3⟩
   simp only [IK,LH,IA];by_cases hlt:i<(AU sets[c.length] 8).length
   ·rw [if_pos (by omega),Am (by omega),Am (by omega),CO,Am (by omega),IR i (by omega)]
    obtain⟨r,hr'⟩:=Vt good sets hs hl hg m fuel (c++[(AU sets[c.length] 8).getD i default]) (by rw [Jq,kW];omega) (by omega)
    have hlen:(c++[(AU sets[c.length] 8).getD i default]).length=c.length+1:=by simp
    rw [hlen]at hr'
    have ht:WX (fun c=>good.contains (Bn c)) ((sets.drop (c.length+1)).map fun s=>AU s 8) (c++[(AU sets[c.length] 8).getD i default])=true→WX (fun c=>good.contains (Bn c)) ((sets.drop c.length).map fun s=>AU s 8) c=true:=fun h=>by
     rw [hd];simp only [QW,WX,List.any_eq_true]
     exact⟨_,by rw [AV _ _ hlt];exact FE _,h⟩
    have step: ∀j,j<i+1→WX (fun c=>good.contains (Bn c)) ((sets.drop (c.length+1)).map fun s=>AU s 8) (c++[(AU sets[c.length] 8).getD i default])=false→WX (fun c=>good.contains (Bn c)) ((sets.drop (c.length+1)).map fun s=>AU s 8) (c++[(AU sets[c.length] 8).getD j default])=false:=fun j hj hfalse=>by
     by_cases e:j=i
     ·rw [e];exact hfalse
     ·exact h3 j (by omega)
    rcases hr' with hr' | hr'<;>rw [hr',CO]<;>
     cases hb:WX (fun c=>good.contains (Bn c)) ((sets.drop (c.length+1)).map fun s=>AU s 8) (c++[(AU sets[c.length] 8).getD i default])
    ·exact .inl ⟨_,(AU sets[c.length] 8).length-(i+1),rfl,by omega,i+1,rfl,by omega,rfl,fun j hj=>step j hj hb⟩
    ·exact .inr ⟨_,rfl,ht hb⟩
    ·exact .inl ⟨_,(AU sets[c.length] 8).length-(i+1),rfl,by omega,i+1,rfl,by omega,rfl,fun j hj=>step j hj hb⟩
    ·exact .inr ⟨_,rfl,ht hb⟩
   ·right
    rw [if_neg (by omega)]
    refine⟨_,rfl, ?_⟩
    simp only;rw [hd];simp only [QW,WX];rw [List.any_eq_false];intro a ha;obtain⟨j,hj,rfl⟩:=Sj ha;have:=h3 j (by omega)
    rw [AV _ _ hj]at this;rw [this];decide
theorem tu(good:List (List Int))(sets:List Int)(size:Int)(hs: ∀s∈sets,0≤s∧s≤255)(hl:sets.length≤8)(hz:0≤size∧size≤4)(hg:good.length<1099511627776):
  Po good sets size=some ((AZ (sets.length:Int) size.toNat).filter (gd good sets)):=by
 have hck:=GM (sets.length:Int) 8 (by omega) size.toNat
 have hcl:=RQ (sets.length:Int) (by omega) size.toNat (by omega)
 unfold Po Oe;rw [RU _ _ (by omega) hz,CO]
 have key:=BO (fun v=>Ib good sets (AZ (sets.length:Int) size.toNat) v.1 v.2) (fun i=>(((AZ (sets.length:Int) size.toNat).take i).filter (gd good sets),(i:Int))) (AZ (sets.length:Int) size.toNat).length ((AZ (sets.length:Int) size.toNat).filter (gd good sets)) ?_ ?_
 ·have:=key
  simp only [List.take_zero,List.filter_nil,Js]at this;rw [this];rfl
 ·intro i hi;have hx:=hck.1 _ (FE hi);have hin:inN (AZ (sets.length:Int) size.toNat)[i] sets.length:=fun a ha=>by have:=hx.2 a ha;omega
  have hfl:(((AZ (sets.length:Int) size.toNat).take i).filter (gd good sets)).length≤10000:=by
   refine Sl (qC _ _) ?_;rw [Jr];omega
  have hil:=Wm sets (AZ (sets.length:Int) size.toNat)[i];obtain⟨r,hr⟩:=Vt good (pq sets (AZ (sets.length:Int) size.toNat)[i]) (fun s h=>hs s (A6J hin s h)) (by omega) hg (pq sets (AZ (sets.length:Int) size.toNat)[i]).length 1000000 [] (by simp) (by omega)
  simp only [Qe,Sk]at hr;have eg:WX (fun c=>good.contains (Bn c)) ((pq sets (AZ (sets.length:Int) size.toNat)[i]).map fun s=>AU s 8) []=gd good sets (AZ (sets.length:Int) size.toNat)[i]:=rfl;rw [eg]at hr
  have e2:((AZ (sets.length:Int) size.toNat).take (i+1)).filter (gd good sets)=((AZ (sets.length:Int) size.toNat).take i).filter (gd good sets)++if gd good sets (AZ (sets.length:Int) size.toNat)[i]=true then [(AZ (sets.length:Int) size.toNat)[i]]else []:=by
   rw [Rw hi,ko]
   congr 1
   cases h:gd good sets (AZ (sets.length:Int) size.toNat)[i]<;>simp [h]
  simp only [Ib,IA];rw [if_pos (Bi hi),Am (by omega),AV _ _ hi,gJ sets _ sets.length rfl hin (by omega),CO,IR i (by omega),e2]
  unfold TK;rcases hr with hr | hr<;>rw [hr,CO]<;>cases gd good sets (AZ (sets.length:Int) size.toNat)[i]
  ·simp
  ·simp only [if_true];rw [Am (by omega)]
  ·simp
  ·simp only [if_true];rw [Am (by omega)]
 ·simp only [Ib];rw [if_neg (Af _),LZ]
theorem nz(sets c:List Int)(hs: ∀s∈sets,0≤s∧s≤255)(hc:inN c sets.length)(hl:c.length<1000000):Pn sets c=some ((pq sets c).map fun s=>AU s 8):=by
 unfold Pn NK;have key:=BO (fun v=>Gv sets c v.1 v.2) (fun i=>((pq sets (c.take i)).map fun s=>AU s 8,(i:Int))) c.length ((pq sets c).map fun s=>AU s 8) ?_ ?_
 ·have e0:((pq sets (c.take 0)).map fun s=>AU s 8)=[]:=rfl;rw [e0,Js]at key;rw [key];rfl
 ·intro i hi;have ha:=hc c[i] (FE hi);have h2:sets.getD c[i].toNat default∈sets:=by rw [AV _ _ ha.2];exact FE _
  simp only [Gv,IA];have hg:=AV c i hi;rw [if_pos (Bi hi),Am (by omega),Am (by rw [hg];omega),hg,kC _ (hs _ h2),CO,Am (by rw [S9,Wm,Jr];omega),IR i (by omega)]
  unfold pq;rw [Rw hi,TT,TT];rfl
 ·simp only [Gv];rw [if_neg (Af _),LZ]
theorem o5(good:List (List Int))(sets:List Int)(size:Int)(f:List Int→Option Bool)(hl:sets.length≤8)(hz:0≤size∧size≤4)
  (hf: ∀x,x.length=size.toNat→inN x sets.length→f x=some (gd good sets x)):He (sets.length:Int) size f=some ((AZ (sets.length:Int) size.toNat).filter (gd good sets)):=by
 have hck:=GM (sets.length:Int) 8 (by omega) size.toNat
 exact nW _ _ _ _ (by omega) hz fun x hx=>hf x (hck.1 x hx).1 fun a ha=>by have:=(hck.1 x hx).2 a ha;omega
end Go.Proofs.YtjhjkfoabhplfaaGreat
