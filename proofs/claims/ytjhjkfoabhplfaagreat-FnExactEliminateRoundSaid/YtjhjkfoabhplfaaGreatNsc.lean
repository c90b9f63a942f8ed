/- Sets that complete choices and full lists, program and reference. Conditions: those in each lemma. -/
import Derived.Test.YtjhjkfoabhplfaaGreatL6
import Derived.Test.YtjhjkfoabhplfaaGreatNsb
namespace Go.Proofs.YtjhjkfoabhplfaaGreat
open Go Dv
set_option linter.unusedSimpArgs false
set_option linter.unusedVariables false
set_option maxRecDepth 100000
def gB(ns:AL)(b:Nat)(c:AA):Bool:=ns.contains (Bt (c++[(b:Int)]))
theorem A3N(s:Int)(a:Nat)(h:0≤s∧s≤255)(ha:a≤8):(Lv .and .i64 (s.fdiv (2 ^ (min ((a:Nat):Int).toNat (IntKind.i64.bits)))) 1=1)↔Ea s a=true:=by
 rw [H5,X4 s a (by omega),ou _ ⟨TB s a h.1,Int.le_trans (uw s a h.1) h.2⟩]
 unfold Ea;simp
theorem Rf(n:Nat)(hn:n≤8):(2:Int) ^ n≤256:=by
 have h2:(2:Int) ^ n≤2 ^ 8:=I1 hn;have e:(2:Int) ^ 8=256:=by decide
 omega
theorem fV(n d:Nat)(ns es:AL)(hn:1≤n∧n≤8)(hd:d≤3)(sets:AA)(hs:sets.length=d)(hr: ∀s∈sets,0≤s∧s<2 ^ n):
  ∀(m k fuel:Nat) (c:AA) (P:Nat→Bool),m+k=d→c.length=k→(∀x∈c,0≤x∧x<(n:Int))→m<fuel→
   Au fuel (k:Int) (enc (n:Int) c) ((n ^ k:Nat):Int) (Az P n) sets (n:Int) ((d+1:Nat):Int) ns es ((List.range (n ^ d)).map (PU ns n d))=some (Az (fun b=>P b&&WJ (gB ns b) ((sets.drop k).map fun s=>AR s 8) c) n)
 |_,_,0,_,_,_,_,_,hf=>by omega
 |0,k,fuel+1,c,P,hk,hc,hx,_=>by
  have he:=Re (L:=(n:Int)) (by omega) hx
  rw [hc,Qy]at he;have hkd:k=d:=by omega
  have hlt:(enc (n:Int) c).toNat<n ^ d:=by rw [←hkd];omega
  have hg:((List.range (n ^ d)).map (PU ns n d)).getD (enc (n:Int) c).toNat default=Az (fun b=>gB ns b c) n:=by
   rw [AX _ _ (by simpa using hlt)]
   simp only [List.getElem_map,qL,PU];refine Dq fun b _=> ?_;have e1:(((enc (n:Int) c).toNat:Nat):Int)=enc (n:Int) c:=by omega
   have e2:Tt (n:Int) d (enc (n:Int) c)=c:=by rw [←hkd,←hc];exact lI (by omega) hx
   rw [e1,e2];rfl
  show Bn (Au fuel) _ _ _ _ _ _ _ _ _ _=_
  unfold Bn;rw [if_pos (by omega),Ao ⟨he.1,by simpa using hlt⟩,hg,pV _ _ n hn.2,List.drop_of_length_le (by omega)]
  rfl
 |m+1,k,fuel+1,c,P,hk,hc,hx,hf=>by
  have hkl:k<sets.length:=by omega
  have hd':sets.drop k=sets[k]::sets.drop (k+1):=fw hkl;have hsr:=hr _ (FT hkl);have h2n:=Rf n hn.2;have he:=Re (L:=(n:Int)) (by omega) hx
  rw [hc,Qy]at he;have hp1:=OZ n hn.2 k (by omega)
  have hp2:=OZ n hn.2 (k+1) (by omega)
  have hcut:AR sets[k] 8=AR sets[k] n:=pW hsr.1 hsr.2 hn.2;have hkg:sets.getD k default=sets[k]:=AX _ _ hkl;have key:=BD (fun v=>Bo (Au fuel) (k:Int) (enc (n:Int) c) ((n ^ k:Nat):Int) sets (n:Int) ((d+1:Nat):Int) ns es ((List.range (n ^ d)).map (PU ns n d)) v.1 v.2)
   (fun a=>((a:Int),Az (fun b=>P b&&(AR sets[k] a).all fun x=>WJ (gB ns b) ((sets.drop (k+1)).map fun s=>AR s 8) (c++[x])) n)) n
   (Az (fun b=>P b&&WJ (gB ns b) ((sets.drop k).map fun s=>AR s 8) c) n) ?_ ?_
  ·have e:Au (fuel+1) (k:Int) (enc (n:Int) c) ((n ^ k:Nat):Int) (Az P n) sets (n:Int) ((d+1:Nat):Int) ns es ((List.range (n ^ d)).map (PU ns n d))=Bn (Au fuel) (k:Int) (enc (n:Int) c) ((n ^ k:Nat):Int) (Az P n) sets (n:Int) ((d+1:Nat):Int) ns es ((List.range (n ^ d)).map (PU ns n d)):=rfl;rw [e];unfold Bn Df;have e0:Az (fun b=>P b&&(AR sets[k] 0).all fun x=>WJ (gB ns b) ((sets.drop (k+1)).map fun s=>AR s 8) (c++[x])) n=Az P n:=Dq fun b _=>by simp [AR]
   rw [e0,Jb]at key;rw [if_neg (by omega),key];rfl
  ·intro a ha;simp only [Bo,H5,hkg];rw [if_pos (BZ ha),Ao (by omega),Ao (by omega),H9 a (by omega)]
   have hb:=A3N sets[k] a (by omega) (by omega)
   rw [H5]at hb
   cases hl:Ea sets[k] a with
   |true=>
    have ea:AR sets[k] (a+1)=AR sets[k] a++[(a:Int)]:=by rw [Le,hl,if_pos rfl]
    rw [if_pos (hb.2 hl),ea];by_cases hz:Az (fun b=>P b&&(AR sets[k] a).all fun x=>WJ (gB ns b) ((sets.drop (k+1)).map fun s=>AR s 8) (c++[x])) n=0
    ·rw [if_pos hz];have hzz:=fU hz
     congr 2
     refine Prod.ext rfl (Dq fun b hbn=> ?_);have h1:=hzz b hbn;rw [List.all_append,←Bool.and_assoc,h1];rfl
    ·rw [if_neg hz];have h0:(0:Int)≤(a:Int)*((n ^ k:Nat):Int):=Int.mul_nonneg (by omega) (by omega)
     have h1:(a:Int)*((n ^ k:Nat):Int)≤8*4096:=Int.mul_le_mul (by omega) (by omega) (by omega) (by omega)
     have e1:enc (n:Int) (c++[(a:Int)])=enc (n:Int) c+(a:Int)*((n ^ k:Nat):Int):=by rw [vK,hc,Qy]
     have e2:((n ^ k:Nat):Int)*(n:Int)=((n ^ (k+1):Nat):Int):=by rw [Nat.pow_succ];norm_cast
     have ih:=fV n d ns es hn hd sets hs hr m (k+1) fuel (c++[(a:Int)]) (fun b=>P b&&(AR sets[k] a).all fun x=>WJ (gB ns b) ((sets.drop (k+1)).map fun s=>AR s 8) (c++[x])) (by omega) (by simp [hc]) (fun x hx'=>by
      rcases PW.1 hx' with h|h
      ·exact hx x h
      ·rw [UQ.1 h];omega) (by omega)
     rw [Db ((a:Int)*((n ^ k:Nat):Int)) (by omega),Db (enc (n:Int) c+(a:Int)*((n ^ k:Nat):Int)) (by omega),←e1,e2,Db ((n ^ (k+1):Nat):Int) (by omega),H9 k (by omega),ih,Bl]
     congr 2
     refine Prod.ext rfl (Dq fun b hbn=> ?_);rw [List.all_append,Bool.and_assoc];simp
   |false=>
    have ea:AR sets[k] (a+1)=AR sets[k] a:=by rw [Le,hl,if_neg (by decide)]
    rw [if_neg (fun h=>by rw [hb.1 h]at hl;cases hl),ea]
  ·simp only [Bo];rw [if_neg (Ae _),hd']
   congr 2
   refine Dq fun b _=> ?_;simp only [Rp,WJ];rw [hcut]
theorem Qz(n:Nat)(hn:n≤8):IntKind.i64.wrap ((IntKind.i64.wrap (1*2 ^ (min (n:Int).toNat (IntKind.i64.bits))))-1)=Az (fun _=>true) n∧IntKind.i64.wrap ((IntKind.i64.wrap (1*2 ^ (min (n:Int).toNat (IntKind.i64.bits))))-1)=2 ^ n-1:=by
 have e8:min (n:Int).toNat IntKind.i64.bits=n:=by show min (n:Int).toNat 64=n;omega
 have h:=Rf n hn;have hp:=gH (m:=n) (show(0:Int)≤2 by decide)
 rw [fT,e8,Int.one_mul];generalize (2:Int) ^ n=q at h hp ⊢;rw [Db q (by omega),Db _ (by omega)]
 exact⟨rfl,rfl⟩
theorem Rn(n d:Nat)(ns es:AL)(hn:1≤n∧n≤8)(hd:d≤3)(sets:AA)(hs:sets.length=d)(hr: ∀s∈sets,0≤s∧s<2 ^ n):
  D8 (n:Int) ((d+1:Nat):Int) ns es ((List.range (n ^ d)).map (PU ns n d)) sets=some (Jt ns n sets):=by
 have h:=fV n d ns es hn hd sets hs hr d 0 1000000 [] (fun _=>true) (by omega) rfl (fun x hx=>by cases hx) (by omega)
 unfold D8 IG;rw [Ao (by omega),(Qz n hn.2).1]
 have e0:enc (n:Int) []=0:=rfl;have e1:((n ^ 0:Nat):Int)=1:=by simp
 rw [e0,e1,Jb,UT]at h;rw [h];show some _=some _
 congr 1
theorem fZ(n d:Nat)(ns es:AL)(hn:1≤n∧n≤8)(hd:d≤3):
  ∀(S:AA) (fuel:Nat) (c:AA),c.length+S.length=d→(∀s∈S,0≤s∧s<2 ^ n)→(∀x∈c,0≤x∧x<(n:Int))→S.length<fuel→
   C9 fuel (n:Int) ((d+1:Nat):Int) ns es ((List.range (n ^ (d+1))).map (PV ns n (d+1))) S (enc (n:Int) c.reverse)=some (Az (fun b=>WJ (gB ns b) (S.map fun s=>AR s 8) c) n)
 |_,0,_,_,_,_,hf=>by omega
 | [],fuel+1,c,hc,_,hx,_=>by
  have hxr: ∀x∈c.reverse,0≤x∧x<(n:Int):=fun x h=>hx x (List.mem_reverse.1 h);have he:=Re (L:=(n:Int)) (by omega) hxr
  have hcl:c.length=d:=by simpa using hc
  have hp2:=OZ n hn.2 (d+1) (by omega)
  have hp1:=OZ n hn.2 d (by omega)
  rw [List.length_reverse,hcl,Qy]at he;have h2n:=Rf n hn.2
  have hidx: ∀a:Nat,a<n→enc (n:Int) c.reverse*(n:Int)+(a:Int)=enc (n:Int) ((a:Int)::c.reverse)∧0≤enc (n:Int) ((a:Int)::c.reverse)∧(enc (n:Int) ((a:Int)::c.reverse)).toNat<n ^ (d+1):=fun a ha=>by
   have h1:=Re (L:=(n:Int)) (by omega) (c:=(a:Int)::c.reverse) (fun x h=>by
    rcases MW.1 h with h|h
    ·rw [h];omega
    ·exact hxr x h)
   rw [JS,List.length_reverse,hcl,Qy]at h1
   refine⟨?_,h1.1,by omega⟩
   show _=(a:Int)+(n:Int)*enc (n:Int) c.reverse
   rw [Int.mul_comm,Int.add_comm]
  have hgood: ∀a:Nat,a<n→((List.range (n ^ (d+1))).map (PV ns n (d+1))).getD (enc (n:Int) ((a:Int)::c.reverse)).toNat default=gB ns a c:=fun a ha=>by
   obtain⟨_,h1,h2⟩:=hidx a ha;rw [AX _ _ (by simpa using h2)]
   simp only [List.getElem_map,qL,PV,gB];have e1:(((enc (n:Int) ((a:Int)::c.reverse)).toNat:Nat):Int)=enc (n:Int) ((a:Int)::c.reverse):=by omega
   have e2:Tt (n:Int) (d+1) (enc (n:Int) ((a:Int)::c.reverse))=(a:Int)::c.reverse:=by
    have:=lI (L:=(n:Int)) (by omega) (c:=(a:Int)::c.reverse) (fun x h=>by
     rcases MW.1 h with h|h
     ·rw [h];omega
     ·exact hxr x h)
    rwa [JS,List.length_reverse,hcl]at this
   rw [e1,e2,UK (show((a:Int)::c.reverse).Perm (c++[(a:Int)])from((List.reverse_perm c).cons (a:Int)).trans (List.perm_append_singleton (a:Int) c).symm)]
  have hm:enc (n:Int) c.reverse*(n:Int)≤4096*8:=Int.mul_le_mul (by omega) (by omega) (by omega) (by omega)
  have hm0:0≤enc (n:Int) c.reverse*(n:Int):=Int.mul_nonneg he.1 (by omega)
  show EO (C9 fuel) _ _ _ _ _ _ _=_
  unfold EO JX;have key:=BD (fun v=>Dj (n:Int) ((d+1:Nat):Int) ns es ((List.range (n ^ (d+1))).map (PV ns n (d+1))) (enc (n:Int) c.reverse) v.1 v.2)
   (fun a=>(Az (fun b=>gB ns b c) a,(a:Int))) n (Az (fun b=>gB ns b c) n) ?_ ?_
  ·have e0:Az (fun b=>gB ns b c) 0=0:=rfl;rw [e0,Jb]at key;rw [if_pos (by simp),key];rfl
  ·intro a ha;obtain⟨i1,i2,i3⟩:=hidx a ha;have hr:=Eh (fun b=>gB ns b c) a;have h7:(2:Int) ^ a≤2 ^ 7:=I1 (by omega)
   have e7:(2:Int) ^ 7=128:=by decide
   have e8:min a IntKind.i64.bits=a:=by show min a 64=a;omega
   have hp:=gH (m:=a) (show(0:Int)≤2 by decide)
   have em:Az (fun b=>gB ns b c) (a+1)=Az (fun b=>gB ns b c) a+if gB ns a c=true then 2 ^ a else 0:=rfl
   simp only [Dj];rw [if_pos (BZ ha),Db (enc (n:Int) c.reverse*(n:Int)) (by omega),i1,Db _ (by omega),Ao ⟨i2,by simpa using i3⟩,hgood a ha,em,H9 a (by omega)]
   cases gB ns a c with
   |true=>rw [if_pos rfl,if_pos rfl,Ao (by omega),H5,e8,Int.one_mul,Db ((2:Int) ^ a) (by omega),Db _ (by omega)]
   |false=>rw [if_neg (by decide),if_neg (by decide),Int.add_zero]
  ·simp only [Dj];rw [if_neg (Ae _)]
 |s::S,fuel+1,c,hc,hS,hx,hf=>by
  have hsr:=hS s Ja;have hS': ∀t∈S,0≤t∧t<2 ^ n:=fun t ht=>hS t (KT _ ht);have h2n:=Rf n hn.2;have hxr: ∀x∈c.reverse,0≤x∧x<(n:Int):=fun x h=>hx x (List.mem_reverse.1 h);have he:=Re (L:=(n:Int)) (by omega) hxr
  have hcl:c.length+(S.length+1)=d:=by simpa using hc
  have hp1:=OZ n hn.2 c.length (by omega)
  rw [List.length_reverse,Qy]at he;have hm:enc (n:Int) c.reverse*(n:Int)≤4096*8:=Int.mul_le_mul (by omega) (by omega) (by omega) (by omega)
  have hm0:0≤enc (n:Int) c.reverse*(n:Int):=Int.mul_nonneg he.1 (by omega)
  have hcut:AR s 8=AR s n:=pW hsr.1 hsr.2 hn.2
  have hlab: ∀x∈AR s 8,0≤x∧x<(n:Int):=fun x h=>by
   rw [hcut]at h;obtain⟨a,rfl,ha,_⟩:=A0s.1 h;omega
  have key:=BD (fun v=>Dk (C9 fuel) (n:Int) ((d+1:Nat):Int) ns es ((List.range (n ^ (d+1))).map (PV ns n (d+1))) (s::S) (enc (n:Int) c.reverse) (AR s 8) v.1 v.2)
   (fun i=>(Az (fun b=>((AR s 8).take i).all fun x=>WJ (gB ns b) (S.map fun s=>AR s 8) (c++[x])) n,(i:Int))) (AR s 8).length
   (Az (fun b=>WJ (gB ns b) ((s::S).map fun s=>AR s 8) c) n) ?_ ?_
  ·have e:C9 (fuel+1) (n:Int) ((d+1:Nat):Int) ns es ((List.range (n ^ (d+1))).map (PV ns n (d+1))) (s::S) (enc (n:Int) c.reverse)=EO (C9 fuel) (n:Int) ((d+1:Nat):Int) ns es ((List.range (n ^ (d+1))).map (PV ns n (d+1))) (s::S) (enc (n:Int) c.reverse):=rfl;rw [e];unfold EO JY;have hg0:(s::S).getD 0 default=s:=rfl;have e0:Az (fun b=>((AR s 8).take 0).all fun x=>WJ (gB ns b) (S.map fun s=>AR s 8) (c++[x])) n=Az (fun _=>true) n:=Dq fun b _=>by simp
   rw [e0,Jb]at key;rw [if_neg (by simp only [JS];omega),Ao (by omega),Ao (by simp),hg0,QI s (by omega),Bl,(Qz n hn.2).1,key]
   rfl
  ·intro i hi;have hx':=hlab _ (FT hi);have hr:=Eh (fun b=>((AR s 8).take i).all fun x=>WJ (gB ns b) (S.map fun s=>AR s 8) (c++[x])) n
   have et: ∀b,(((AR s 8).take (i+1)).all fun x=>WJ (gB ns b) (S.map fun s=>AR s 8) (c++[x]))=((((AR s 8).take i).all fun x=>WJ (gB ns b) (S.map fun s=>AR s 8) (c++[x]))&&WJ (gB ns b) (S.map fun s=>AR s 8) (c++[(AR s 8)[i]])):=fun b=>by
    rw [S9 hi,List.all_append];simp
   have hl8:=Jk s 8;simp only [Dk,H5];rw [if_pos (BZ hi),Ao (by omega),H9 i (by omega),AX _ _ hi]
   by_cases hz:0<Az (fun b=>((AR s 8).take i).all fun x=>WJ (gB ns b) (S.map fun s=>AR s 8) (c++[x])) n
   ·have e1:enc (n:Int) (c++[(AR s 8)[i]]).reverse=enc (n:Int) c.reverse*(n:Int)+(AR s 8)[i]:=by
     rw [List.reverse_append]
     show(AR s 8)[i]+(n:Int)*enc (n:Int) c.reverse=_
     rw [Int.mul_comm,Int.add_comm]
    have ih:=fZ n d ns es hn hd S fuel (c++[(AR s 8)[i]]) (by simp only [KU,qE];omega) hS' (fun x h=>by
     rcases PW.1 h with h|h
     ·exact hx x h
     ·rw [UQ.1 h];exact hx') (by simp only [JS]at hf;omega)
    have ed:((s::S).take (s::S).length).drop 1=S:=by rw [Lr];rfl
    rw [if_pos hz,Ao (by simp),ed,Db (enc (n:Int) c.reverse*(n:Int)) (by omega),Db _ (by omega),←e1,ih,Bl,pV _ _ n hn.2]
    congr 2
    exact Prod.ext (Dq fun b _=>(et b).symm) rfl
   ·rw [if_neg hz];have hzz:=fU (show Az (fun b=>((AR s 8).take i).all fun x=>WJ (gB ns b) (S.map fun s=>AR s 8) (c++[x])) n=0 by omega)
    congr 2
    refine Prod.ext (Dq fun b hb=> ?_) rfl;rw [et b,hzz b hb];rfl
  ·simp only [Dk];rw [if_neg (Ae _)]
   congr 2
   refine Dq fun b _=> ?_;simp only [Rp,WJ];rw [Lr]
theorem av(n d:Nat)(ns es:AL)(hn:1≤n∧n≤8)(hd:d≤3)(sets:AA)(hs:sets.length=d)(hr: ∀s∈sets,0≤s∧s<2 ^ n):
  MV (n:Int) ((d+1:Nat):Int) ns es ((List.range (n ^ (d+1))).map (PV ns n (d+1))) sets 0=some (Jt ns n sets):=
 fZ n d ns es hn hd sets 1000000 [] (by simpa using hs) hr (fun x hx=>by cases hx) (by omega)
end Go.Proofs.YtjhjkfoabhplfaaGreat
