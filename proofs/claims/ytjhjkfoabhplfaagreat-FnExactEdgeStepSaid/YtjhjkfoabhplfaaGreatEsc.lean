/- Choices from sets: program and reference. Conditions: those in each lemma. -/
import Derived.Test.YtjhjkfoabhplfaaGreatL6
import Derived.Test.YtjhjkfoabhplfaaGreatEsA
import Derived.Test.YtjhjkfoabhplfaaGreatEmu
import Derived.Test.YtjhjkfoabhplfaaGreatEfc
import Derived.Test.YtjhjkfoabhplfaaGreatBit
import Derived.Test.YtjhjkfoabhplfaaGreatZob
namespace Go.Proofs.YtjhjkfoabhplfaaGreat
open Go Dv
set_option linter.unusedSimpArgs false
set_option linter.unusedVariables false
set_option maxRecDepth 100000
def kY(to c:List Int):List Int:=c.map fun a=>to.getD a.toNat default
theorem UH(to c:List Int):(kY to c).length=c.length:=by simp [kY]
def inN(c:List Int)(n:Nat):Prop:= ∀a∈c,0≤a∧a.toNat<n
theorem aG(to c:List Int)(n:Nat)(ht:to.length=n)(hc:inN c n)(hcl:c.length<1099511627775):Kq to c=some (kY to c):=by
 unfold Kq Jl;rw [rR (fun v=>Ea to c v.1 v.2) c (fun a=>to.getD a.toNat default)]
 ·rfl
 ·intro i hi o ho;have ha:=hc c[i] (List.getElem_mem hi);simp only [Ea,Int.toNat_natCast];rw [if_pos (CJ hi),Az (by omega),Az (by rw [Ae _ _ hi];omega),Az (by omega),JM i (by omega),Ae _ _ hi]
 ·intro o ho;simp only [Ea];rw [if_neg (Ak _)]
theorem A4L{to c:List Int}(hc:inN c to.length): ∀x∈kY to c,x∈to:=by
 intro x hx;obtain⟨a,ha,rfl⟩:=List.mem_map.1 hx;have:=hc a ha
 rw [Ae _ _ this.2];exact List.getElem_mem _
def gd(good:List (List Int))(sets x:List Int):Bool:=U9 (fun c=>good.contains (DI c)) ((kY sets x).map fun s=>AZ s 8) []
theorem jc(set:Int)(a:Nat)(h:0≤set∧set≤255)(ha:a≤8):Re set (a:Int)=some (O9 set a):=by
 unfold Re O9;rw [Az (by omega),Int.toNat_natCast,Xx set a (by omega),Int.tmod_eq_emod_of_nonneg (TS set a h.1)]
theorem Po(set:Int)(h:0≤set∧set≤255):K8 set=some (AZ set 8):=by
 unfold K8 KL;have key:=Be (fun v=>Ey set v.1 v.2) (fun i=>(AZ set i,(i:Int))) 8 (AZ set 8) ?_ ?_
 ·have e0:AZ set 0=[]:=rfl;rw [e0,Int.natCast_zero]at key;rw [key];rfl
 ·intro i hi;have hl:=Jz set i;simp only [Ey];rw [if_pos (by omega),jc set i h (by omega),Option.bind_some,JM i (by omega),Mf]
  cases O9 set i with
  | true=>rw [if_pos rfl,Az (by omega),if_pos rfl]
  | false=>rw [if_neg (by decide),if_neg (by decide)]
 ·simp only [Ey];rw [if_neg (by decide)]
theorem TY(good:List (List Int))(sets:List Int)(hs: ∀s∈sets,0≤s∧s≤255)(hl:sets.length≤4)(hg:good.length<1099511627776):
  ∀(m fuel:Nat) (c:List Int),m+c.length=sets.length→m<fuel→
   ∃r,Ch fuel good sets c=some (.inl (r,U9 (fun c=>good.contains (DI c)) ((sets.drop c.length).map fun s=>AZ s 8) c))∨Ch fuel good sets c=some (.inr (r,U9 (fun c=>good.contains (DI c)) ((sets.drop c.length).map fun s=>AZ s 8) c))
 | _,0,_,_,hf=>by omega
 | 0,fuel+1,c,hc,_=>by
  refine⟨c,.inl ?_⟩
  show Ga (Ch fuel) good sets c=_
  unfold Ga;rw [if_pos (by omega),Az (by omega),Az hg,Az (by rw [Sc];omega),List.drop_of_length_le (by omega)];rfl
 | m+1,fuel+1,c,hc,hf=>by
  have hcl:c.length<sets.length:=by omega
  have hd:sets.drop c.length=sets[c.length]::sets.drop (c.length+1):=List.drop_eq_getElem_cons hcl;have hr:=hs _ (List.getElem_mem hcl);have hL:=Jz sets[c.length] 8;have hcg:sets.getD c.length default=sets[c.length]:=Ae _ _ hcl;have key:=KD (fun v=>Gh (Ch fuel) good sets c (AZ sets[c.length] 8) v)
   (fun n s=> ∃i:Nat,n=(AZ sets[c.length] 8).length-i∧i≤(AZ sets[c.length] 8).length∧s=(i:Int)∧ ∀j,j<i→U9 (fun c=>good.contains (DI c)) ((sets.drop (c.length+1)).map fun s=>AZ s 8) (c++[(AZ sets[c.length] 8).getD j default])=false)
   (fun r=>match r with
    | .inl _=>U9 (fun c=>good.contains (DI c)) ((sets.drop c.length).map fun s=>AZ s 8) c=true
    | .inr (.inl _)=>U9 (fun c=>good.contains (DI c)) ((sets.drop c.length).map fun s=>AZ s 8) c=true
    | .inr (.inr _)=>U9 (fun c=>good.contains (DI c)) ((sets.drop c.length).map fun s=>AZ s 8) c=false) ?_ (AZ sets[c.length] 8).length (0:Int) ⟨0,rfl,by omega,rfl,fun j hj=>by omega⟩
  ·obtain⟨r,h1,h2⟩:=key;have h1':KM (Ch fuel) good sets c (AZ sets[c.length] 8) 0=some r:=h1;have e:Ch (fuel+1) good sets c=Ga (Ch fuel) good sets c:=rfl;rw [e];unfold Ga;rw [if_neg (by omega),Az (by omega),hcg,Po _ hr,Option.bind_some,h1',Option.bind_some]
   rcases r with q | q | q
   ·simp only at h2;rw [h2];exact⟨q,.inl rfl⟩
   ·simp only at h2;rw [h2];exact⟨q,.inr rfl⟩
   ·simp only at h2;rw [h2];exact⟨[],.inr rfl⟩
  ·rintro n s ⟨i,hn,hi,rfl,h3⟩
   simp only [Gh,Jb,Int.toNat_natCast];by_cases hlt:i<(AZ sets[c.length] 8).length
   ·rw [if_pos (by omega),Az (by omega),Az (by omega),Option.bind_some,Az (by omega),JM i (by omega)]
    obtain⟨r,hr'⟩:=TY good sets hs hl hg m fuel (c++[(AZ sets[c.length] 8).getD i default]) (by rw [List.length_append,List.length_singleton];omega) (by omega)
    have hlen:(c++[(AZ sets[c.length] 8).getD i default]).length=c.length+1:=by simp
    rw [hlen]at hr'
    have ht:U9 (fun c=>good.contains (DI c)) ((sets.drop (c.length+1)).map fun s=>AZ s 8) (c++[(AZ sets[c.length] 8).getD i default])=true→U9 (fun c=>good.contains (DI c)) ((sets.drop c.length).map fun s=>AZ s 8) c=true:=fun h=>by
     rw [hd];simp only [List.map_cons,U9,List.any_eq_true]
     exact⟨_,by rw [Ae _ _ hlt];exact List.getElem_mem _,h⟩
    have step: ∀j,j<i+1→U9 (fun c=>good.contains (DI c)) ((sets.drop (c.length+1)).map fun s=>AZ s 8) (c++[(AZ sets[c.length] 8).getD i default])=false→U9 (fun c=>good.contains (DI c)) ((sets.drop (c.length+1)).map fun s=>AZ s 8) (c++[(AZ sets[c.length] 8).getD j default])=false:=fun j hj hfalse=>by
     by_cases e:j=i
     ·rw [e];exact hfalse
     ·exact h3 j (by omega)
    rcases hr' with hr' | hr'<;>rw [hr',Option.bind_some]<;>
     cases hb:U9 (fun c=>good.contains (DI c)) ((sets.drop (c.length+1)).map fun s=>AZ s 8) (c++[(AZ sets[c.length] 8).getD i default])
    ·exact .inl ⟨_,(AZ sets[c.length] 8).length-(i+1),rfl,by omega,i+1,rfl,by omega,rfl,fun j hj=>step j hj hb⟩
    ·exact .inr ⟨_,rfl,ht hb⟩
    ·exact .inl ⟨_,(AZ sets[c.length] 8).length-(i+1),rfl,by omega,i+1,rfl,by omega,rfl,fun j hj=>step j hj hb⟩
    ·exact .inr ⟨_,rfl,ht hb⟩
   ·right
    rw [if_neg (by omega)]
    refine⟨_,rfl, ?_⟩
    simp only;rw [hd];simp only [List.map_cons,U9];rw [List.any_eq_false];intro a ha;obtain⟨j,hj,rfl⟩:=List.getElem_of_mem ha;have:=h3 j (by omega)
    rw [Ae _ _ hj]at this;rw [this];decide
theorem nu(good:List (List Int))(sets:List Int)(size:Int)(hs: ∀s∈sets,0≤s∧s≤255)(hl:sets.length≤8)(hz:0≤size∧size≤4)(hg:good.length<1099511627776):
  Ng good sets size=some ((BF (sets.length:Int) size.toNat).filter (gd good sets)):=by
 have hck:=I4 (sets.length:Int) 8 (by omega) size.toNat
 have hcl:=PL (sets.length:Int) (by omega) size.toNat (by omega)
 unfold Ng Mi;rw [WN _ _ (by omega) hz,Option.bind_some]
 have key:=Be (fun v=>Gv good sets (BF (sets.length:Int) size.toNat) v.1 v.2) (fun i=>(((BF (sets.length:Int) size.toNat).take i).filter (gd good sets),(i:Int))) (BF (sets.length:Int) size.toNat).length ((BF (sets.length:Int) size.toNat).filter (gd good sets)) ?_ ?_
 ·have:=key
  simp only [List.take_zero,List.filter_nil,Int.natCast_zero]at this;rw [this];rfl
 ·intro i hi;have hx:=hck.1 _ (List.getElem_mem hi);have hin:inN (BF (sets.length:Int) size.toNat)[i] sets.length:=fun a ha=>by have:=hx.2 a ha;omega
  have hfl:(((BF (sets.length:Int) size.toNat).take i).filter (gd good sets)).length≤10000:=by
   refine Nat.le_trans (List.length_filter_le _ _) ?_;rw [List.length_take];omega
  have hil:=UH sets (BF (sets.length:Int) size.toNat)[i];obtain⟨r,hr⟩:=TY good (kY sets (BF (sets.length:Int) size.toNat)[i]) (fun s h=>hs s (A4L hin s h)) (by omega) hg (kY sets (BF (sets.length:Int) size.toNat)[i]).length 1000000 [] (by simp) (by omega)
  simp only [List.length_nil,List.drop_zero]at hr;have eg:U9 (fun c=>good.contains (DI c)) ((kY sets (BF (sets.length:Int) size.toNat)[i]).map fun s=>AZ s 8) []=gd good sets (BF (sets.length:Int) size.toNat)[i]:=rfl;rw [eg]at hr
  have e2:((BF (sets.length:Int) size.toNat).take (i+1)).filter (gd good sets)=((BF (sets.length:Int) size.toNat).take i).filter (gd good sets)++if gd good sets (BF (sets.length:Int) size.toNat)[i]=true then [(BF (sets.length:Int) size.toNat)[i]]else []:=by
   rw [List.take_succ_eq_append_getElem hi,List.filter_append]
   congr 1
   cases h:gd good sets (BF (sets.length:Int) size.toNat)[i]<;>simp [h]
  simp only [Gv,Int.toNat_natCast];rw [if_pos (CJ hi),Az (by omega),Ae _ _ hi,aG sets _ sets.length rfl hin (by omega),Option.bind_some,JM i (by omega),e2]
  unfold QJ;rcases hr with hr | hr<;>rw [hr,Option.bind_some]<;>cases gd good sets (BF (sets.length:Int) size.toNat)[i]
  ·simp
  ·simp only [if_true];rw [Az (by omega)]
  ·simp
  ·simp only [if_true];rw [Az (by omega)]
 ·simp only [Gv];rw [if_neg (Ak _),List.take_length]
theorem jd(sets c:List Int)(hs: ∀s∈sets,0≤s∧s≤255)(hc:inN c sets.length)(hl:c.length<1000000):Nf sets c=some ((kY sets c).map fun s=>AZ s 8):=by
 unfold Nf LK;have key:=Be (fun v=>GG sets c v.1 v.2) (fun i=>((kY sets (c.take i)).map fun s=>AZ s 8,(i:Int))) c.length ((kY sets c).map fun s=>AZ s 8) ?_ ?_
 ·have e0:((kY sets (c.take 0)).map fun s=>AZ s 8)=[]:=rfl;rw [e0,Int.natCast_zero]at key;rw [key];rfl
 ·intro i hi;have ha:=hc c[i] (List.getElem_mem hi);have h2:sets.getD c[i].toNat default∈sets:=by rw [Ae _ _ ha.2];exact List.getElem_mem _
  simp only [GG,Int.toNat_natCast];have hg:=Ae c i hi;rw [if_pos (CJ hi),Az (by omega),Az (by rw [hg];omega),hg,TU _ (hs _ h2),Option.bind_some,Az (by rw [List.length_map,UH,List.length_take];omega),JM i (by omega)]
  unfold kY;rw [List.take_succ_eq_append_getElem hi,List.map_append,List.map_append];rfl
 ·simp only [GG];rw [if_neg (Ak _),List.take_length]
theorem je(good:List (List Int))(sets:List Int)(size:Int)(f:List Int→Option Bool)(hl:sets.length≤8)(hz:0≤size∧size≤4)
  (hf: ∀x,x.length=size.toNat→inN x sets.length→f x=some (gd good sets x)):JL (sets.length:Int) size f=some ((BF (sets.length:Int) size.toNat).filter (gd good sets)):=by
 have hck:=I4 (sets.length:Int) 8 (by omega) size.toNat
 exact jY _ _ _ _ (by omega) hz fun x hx=>hf x (hck.1 x hx).1 fun a ha=>by have:=(hck.1 x hx).2 a ha;omega
end Go.Proofs.YtjhjkfoabhplfaaGreat
