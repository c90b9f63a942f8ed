/- Sets that complete choices and full lists, program and reference. Conditions: those in each lemma. -/
import Derived.Test.YtjhjkfoabhplfaaGreatL6
import Derived.Test.YtjhjkfoabhplfaaGreatNsb
namespace Go.Proofs.YtjhjkfoabhplfaaGreat
open Go Dv
set_option linter.unusedSimpArgs false
set_option linter.unusedVariables false
set_option maxRecDepth 100000
def gB(ns:AO)(b:Nat)(c:AL):Bool:=ns.contains (CY (c++[(b:Int)]))
theorem A1c(s:Int)(a:Nat)(h:0≤s∧s≤255)(ha:a≤8):(Ml .and .i64 (s.fdiv (2 ^ (min ((a:Nat):Int).toNat (IntKind.i64.bits)))) 1=1)↔FB s a=true:=by
 rw [JD,WK s a (by omega),lq _ ⟨SN s a h.1,Int.le_trans (rJ s a h.1) h.2⟩]
 unfold FB;simp
theorem RB(n:Nat)(hn:n≤8):(2:Int) ^ n≤256:=by
 have h2:(2:Int) ^ n≤2 ^ 8:=Lu hn;have e:(2:Int) ^ 8=256:=by decide
 omega
theorem dD(n d:Nat)(ns es:AO)(hn:1≤n∧n≤8)(hd:d≤3)(sets:AL)(hs:sets.length=d)(hr: ∀s∈sets,0≤s∧s<2 ^ n):
  ∀(m k fuel:Nat) (c:AL) (P:Nat→Bool),m+k=d→c.length=k→(∀x∈c,0≤x∧x<(n:Int))→m<fuel→
   BC fuel (k:Int) (enc (n:Int) c) ((n ^ k:Nat):Int) (Bz P n) sets (n:Int) ((d+1:Nat):Int) ns es ((List.range (n ^ d)).map (PI ns n d))=some (Bz (fun b=>P b&&VY (gB ns b) ((sets.drop k).map fun s=>Ae s 8) c) n)
 |_,_,0,_,_,_,_,_,hf=>by omega
 |0,k,fuel+1,c,P,hk,hc,hx,_=>by
  have he:=RA (L:=(n:Int)) (by omega) hx
  rw [hc,Qg]at he;have hkd:k=d:=by omega
  have hlt:(enc (n:Int) c).toNat<n ^ d:=by rw [←hkd];omega
  have hg:((List.range (n ^ d)).map (PI ns n d)).getD (enc (n:Int) c).toNat default=Bz (fun b=>gB ns b c) n:=by
   rw [Af _ _ (by simpa using hlt)]
   simp only [List.getElem_map,nA,PI];refine ES fun b _=> ?_;have e1:(((enc (n:Int) c).toNat:Nat):Int)=enc (n:Int) c:=by omega
   have e2:TG (n:Int) d (enc (n:Int) c)=c:=by rw [←hkd,←hc];exact jJ (by omega) hx
   rw [e1,e2];rfl
  show CS (BC fuel) _ _ _ _ _ _ _ _ _ _=_
  unfold CS;rw [if_pos (by omega),BF ⟨he.1,by simpa using hlt⟩,hg,mO _ _ n hn.2,List.drop_of_length_le (by omega)]
  rfl
 |m+1,k,fuel+1,c,P,hk,hc,hx,hf=>by
  have hkl:k<sets.length:=by omega
  have hd':sets.drop k=sets[k]::sets.drop (k+1):=dI hkl;have hsr:=hr _ (GG hkl);have h2n:=RB n hn.2;have he:=RA (L:=(n:Int)) (by omega) hx
  rw [hc,Qg]at he;have hp1:=OW n hn.2 k (by omega)
  have hp2:=OW n hn.2 (k+1) (by omega)
  have hcut:Ae sets[k] 8=Ae sets[k] n:=mP hsr.1 hsr.2 hn.2;have hkg:sets.getD k default=sets[k]:=Af _ _ hkl;have key:=Bv (fun v=>CU (BC fuel) (k:Int) (enc (n:Int) c) ((n ^ k:Nat):Int) sets (n:Int) ((d+1:Nat):Int) ns es ((List.range (n ^ d)).map (PI ns n d)) v.1 v.2)
   (fun a=>((a:Int),Bz (fun b=>P b&&(Ae sets[k] a).all fun x=>VY (gB ns b) ((sets.drop (k+1)).map fun s=>Ae s 8) (c++[x])) n)) n
   (Bz (fun b=>P b&&VY (gB ns b) ((sets.drop k).map fun s=>Ae s 8) c) n) ?_ ?_
  ·have e:BC (fuel+1) (k:Int) (enc (n:Int) c) ((n ^ k:Nat):Int) (Bz P n) sets (n:Int) ((d+1:Nat):Int) ns es ((List.range (n ^ d)).map (PI ns n d))=CS (BC fuel) (k:Int) (enc (n:Int) c) ((n ^ k:Nat):Int) (Bz P n) sets (n:Int) ((d+1:Nat):Int) ns es ((List.range (n ^ d)).map (PI ns n d)):=rfl;rw [e];unfold CS EJ;have e0:Bz (fun b=>P b&&(Ae sets[k] 0).all fun x=>VY (gB ns b) ((sets.drop (k+1)).map fun s=>Ae s 8) (c++[x])) n=Bz P n:=ES fun b _=>by simp [Ae]
   rw [e0,Kr]at key;rw [if_neg (by omega),key];rfl
  ·intro a ha;simp only [CU,JD,hkg];rw [if_pos (CV ha),BF (by omega),BF (by omega),JS a (by omega)]
   have hb:=A1c sets[k] a (by omega) (by omega)
   rw [JD]at hb
   cases hl:FB sets[k] a with
   |true=>
    have ea:Ae sets[k] (a+1)=Ae sets[k] a++[(a:Int)]:=by rw [Lv,hl,if_pos rfl]
    rw [if_pos (hb.2 hl),ea];by_cases hz:Bz (fun b=>P b&&(Ae sets[k] a).all fun x=>VY (gB ns b) ((sets.drop (k+1)).map fun s=>Ae s 8) (c++[x])) n=0
    ·rw [if_pos hz];have hzz:=dC hz
     congr 2
     refine Prod.ext rfl (ES fun b hbn=> ?_);have h1:=hzz b hbn;rw [List.all_append,←Bool.and_assoc,h1];rfl
    ·rw [if_neg hz];have h0:(0:Int)≤(a:Int)*((n ^ k:Nat):Int):=Int.mul_nonneg (by omega) (by omega)
     have h1:(a:Int)*((n ^ k:Nat):Int)≤8*4096:=Int.mul_le_mul (by omega) (by omega) (by omega) (by omega)
     have e1:enc (n:Int) (c++[(a:Int)])=enc (n:Int) c+(a:Int)*((n ^ k:Nat):Int):=by rw [rZ,hc,Qg]
     have e2:((n ^ k:Nat):Int)*(n:Int)=((n ^ (k+1):Nat):Int):=by rw [Nat.pow_succ];norm_cast
     have ih:=dD n d ns es hn hd sets hs hr m (k+1) fuel (c++[(a:Int)]) (fun b=>P b&&(Ae sets[k] a).all fun x=>VY (gB ns b) ((sets.drop (k+1)).map fun s=>Ae s 8) (c++[x])) (by omega) (by simp [hc]) (fun x hx'=>by
      rcases PN.1 hx' with h|h
      ·exact hx x h
      ·rw [UO.1 h];omega) (by omega)
     rw [Ec ((a:Int)*((n ^ k:Nat):Int)) (by omega),Ec (enc (n:Int) c+(a:Int)*((n ^ k:Nat):Int)) (by omega),←e1,e2,Ec ((n ^ (k+1):Nat):Int) (by omega),JS k (by omega),ih,Cs]
     congr 2
     refine Prod.ext rfl (ES fun b hbn=> ?_);rw [List.all_append,Bool.and_assoc];simp
   |false=>
    have ea:Ae sets[k] (a+1)=Ae sets[k] a:=by rw [Lv,hl,if_neg (by decide)]
    rw [if_neg (fun h=>by rw [hb.1 h]at hl;cases hl),ea]
  ·simp only [CU];rw [if_neg (Au _),hd']
   congr 2
   refine ES fun b _=> ?_;simp only [RQ,VY];rw [hcut]
theorem Qh(n:Nat)(hn:n≤8):IntKind.i64.wrap ((IntKind.i64.wrap (1*2 ^ (min (n:Int).toNat (IntKind.i64.bits))))-1)=Bz (fun _=>true) n∧IntKind.i64.wrap ((IntKind.i64.wrap (1*2 ^ (min (n:Int).toNat (IntKind.i64.bits))))-1)=2 ^ n-1:=by
 have e8:min (n:Int).toNat IntKind.i64.bits=n:=by show min (n:Int).toNat 64=n;omega
 have h:=RB n hn;have hp:=Int.pow_nonneg (m:=n) (show(0:Int)≤2 by decide)
 rw [dB,e8,Int.one_mul];generalize (2:Int) ^ n=q at h hp ⊢;rw [Ec q (by omega),Ec _ (by omega)]
 exact⟨rfl,rfl⟩
theorem RN(n d:Nat)(ns es:AO)(hn:1≤n∧n≤8)(hd:d≤3)(sets:AL)(hs:sets.length=d)(hr: ∀s∈sets,0≤s∧s<2 ^ n):
  Dm (n:Int) ((d+1:Nat):Int) ns es ((List.range (n ^ d)).map (PI ns n d)) sets=some (KE ns n sets):=by
 have h:=dD n d ns es hn hd sets hs hr d 0 1000000 [] (fun _=>true) (by omega) rfl (fun x hx=>by cases hx) (by omega)
 unfold Dm Ie;rw [BF (by omega),(Qh n hn.2).1]
 have e0:enc (n:Int) []=0:=rfl;have e1:((n ^ 0:Nat):Int)=1:=by simp
 rw [e0,e1,Kr,Tu]at h;rw [h];show some _=some _
 congr 1
theorem dE(n d:Nat)(ns es:AO)(hn:1≤n∧n≤8)(hd:d≤3):
  ∀(S:AL) (fuel:Nat) (c:AL),c.length+S.length=d→(∀s∈S,0≤s∧s<2 ^ n)→(∀x∈c,0≤x∧x<(n:Int))→S.length<fuel→
   Cf fuel (n:Int) ((d+1:Nat):Int) ns es ((List.range (n ^ (d+1))).map (PK ns n (d+1))) S (enc (n:Int) c.reverse)=some (Bz (fun b=>VY (gB ns b) (S.map fun s=>Ae s 8) c) n)
 |_,0,_,_,_,_,hf=>by omega
 | [],fuel+1,c,hc,_,hx,_=>by
  have hxr: ∀x∈c.reverse,0≤x∧x<(n:Int):=fun x h=>hx x (List.mem_reverse.1 h);have he:=RA (L:=(n:Int)) (by omega) hxr
  have hcl:c.length=d:=by simpa using hc
  have hp2:=OW n hn.2 (d+1) (by omega)
  have hp1:=OW n hn.2 d (by omega)
  rw [List.length_reverse,hcl,Qg]at he;have h2n:=RB n hn.2
  have hidx: ∀a:Nat,a<n→enc (n:Int) c.reverse*(n:Int)+(a:Int)=enc (n:Int) ((a:Int)::c.reverse)∧0≤enc (n:Int) ((a:Int)::c.reverse)∧(enc (n:Int) ((a:Int)::c.reverse)).toNat<n ^ (d+1):=fun a ha=>by
   have h1:=RA (L:=(n:Int)) (by omega) (c:=(a:Int)::c.reverse) (fun x h=>by
    rcases Ms.1 h with h|h
    ·rw [h];omega
    ·exact hxr x h)
   rw [Ji,List.length_reverse,hcl,Qg]at h1
   refine⟨?_,h1.1,by omega⟩
   show _=(a:Int)+(n:Int)*enc (n:Int) c.reverse
   rw [Int.mul_comm,Int.add_comm]
  have hgood: ∀a:Nat,a<n→((List.range (n ^ (d+1))).map (PK ns n (d+1))).getD (enc (n:Int) ((a:Int)::c.reverse)).toNat default=gB ns a c:=fun a ha=>by
   obtain⟨_,h1,h2⟩:=hidx a ha;rw [Af _ _ (by simpa using h2)]
   simp only [List.getElem_map,nA,PK,gB];have e1:(((enc (n:Int) ((a:Int)::c.reverse)).toNat:Nat):Int)=enc (n:Int) ((a:Int)::c.reverse):=by omega
   have e2:TG (n:Int) (d+1) (enc (n:Int) ((a:Int)::c.reverse))=(a:Int)::c.reverse:=by
    have:=jJ (L:=(n:Int)) (by omega) (c:=(a:Int)::c.reverse) (fun x h=>by
     rcases Ms.1 h with h|h
     ·rw [h];omega
     ·exact hxr x h)
    rwa [Ji,List.length_reverse,hcl]at this
   rw [e1,e2,Tj (show((a:Int)::c.reverse).Perm (c++[(a:Int)])from((List.reverse_perm c).cons (a:Int)).trans (List.perm_append_singleton (a:Int) c).symm)]
  have hm:enc (n:Int) c.reverse*(n:Int)≤4096*8:=Int.mul_le_mul (by omega) (by omega) (by omega) (by omega)
  have hm0:0≤enc (n:Int) c.reverse*(n:Int):=Int.mul_nonneg he.1 (by omega)
  show Eu (Cf fuel) _ _ _ _ _ _ _=_
  unfold Eu Jm;have key:=Bv (fun v=>EM (n:Int) ((d+1:Nat):Int) ns es ((List.range (n ^ (d+1))).map (PK ns n (d+1))) (enc (n:Int) c.reverse) v.1 v.2)
   (fun a=>(Bz (fun b=>gB ns b c) a,(a:Int))) n (Bz (fun b=>gB ns b c) n) ?_ ?_
  ·have e0:Bz (fun b=>gB ns b c) 0=0:=rfl;rw [e0,Kr]at key;rw [if_pos (by simp),key];rfl
  ·intro a ha;obtain⟨i1,i2,i3⟩:=hidx a ha;have hr:=IR (fun b=>gB ns b c) a;have h7:(2:Int) ^ a≤2 ^ 7:=Lu (by omega)
   have e7:(2:Int) ^ 7=128:=by decide
   have e8:min a IntKind.i64.bits=a:=by show min a 64=a;omega
   have hp:=Int.pow_nonneg (m:=a) (show(0:Int)≤2 by decide)
   have em:Bz (fun b=>gB ns b c) (a+1)=Bz (fun b=>gB ns b c) a+if gB ns a c=true then 2 ^ a else 0:=rfl
   simp only [EM];rw [if_pos (CV ha),Ec (enc (n:Int) c.reverse*(n:Int)) (by omega),i1,Ec _ (by omega),BF ⟨i2,by simpa using i3⟩,hgood a ha,em,JS a (by omega)]
   cases gB ns a c with
   |true=>rw [if_pos rfl,if_pos rfl,BF (by omega),JD,e8,Int.one_mul,Ec ((2:Int) ^ a) (by omega),Ec _ (by omega)]
   |false=>rw [if_neg (by decide),if_neg (by decide),Int.add_zero]
  ·simp only [EM];rw [if_neg (Au _)]
 |s::S,fuel+1,c,hc,hS,hx,hf=>by
  have hsr:=hS s Jq;have hS': ∀t∈S,0≤t∧t<2 ^ n:=fun t ht=>hS t (Kn _ ht);have h2n:=RB n hn.2;have hxr: ∀x∈c.reverse,0≤x∧x<(n:Int):=fun x h=>hx x (List.mem_reverse.1 h);have he:=RA (L:=(n:Int)) (by omega) hxr
  have hcl:c.length+(S.length+1)=d:=by simpa using hc
  have hp1:=OW n hn.2 c.length (by omega)
  rw [List.length_reverse,Qg]at he;have hm:enc (n:Int) c.reverse*(n:Int)≤4096*8:=Int.mul_le_mul (by omega) (by omega) (by omega) (by omega)
  have hm0:0≤enc (n:Int) c.reverse*(n:Int):=Int.mul_nonneg he.1 (by omega)
  have hcut:Ae s 8=Ae s n:=mP hsr.1 hsr.2 hn.2
  have hlab: ∀x∈Ae s 8,0≤x∧x<(n:Int):=fun x h=>by
   rw [hcut]at h;obtain⟨a,rfl,ha,_⟩:=yo.1 h;omega
  have key:=Bv (fun v=>EN (Cf fuel) (n:Int) ((d+1:Nat):Int) ns es ((List.range (n ^ (d+1))).map (PK ns n (d+1))) (s::S) (enc (n:Int) c.reverse) (Ae s 8) v.1 v.2)
   (fun i=>(Bz (fun b=>((Ae s 8).take i).all fun x=>VY (gB ns b) (S.map fun s=>Ae s 8) (c++[x])) n,(i:Int))) (Ae s 8).length
   (Bz (fun b=>VY (gB ns b) ((s::S).map fun s=>Ae s 8) c) n) ?_ ?_
  ·have e:Cf (fuel+1) (n:Int) ((d+1:Nat):Int) ns es ((List.range (n ^ (d+1))).map (PK ns n (d+1))) (s::S) (enc (n:Int) c.reverse)=Eu (Cf fuel) (n:Int) ((d+1:Nat):Int) ns es ((List.range (n ^ (d+1))).map (PK ns n (d+1))) (s::S) (enc (n:Int) c.reverse):=rfl;rw [e];unfold Eu Jn;have hg0:(s::S).getD 0 default=s:=rfl;have e0:Bz (fun b=>((Ae s 8).take 0).all fun x=>VY (gB ns b) (S.map fun s=>Ae s 8) (c++[x])) n=Bz (fun _=>true) n:=ES fun b _=>by simp
   rw [e0,Kr]at key;rw [if_neg (by simp only [Ji];omega),BF (by omega),BF (by simp),hg0,Tm s (by omega),Cs,(Qh n hn.2).1,key]
   rfl
  ·intro i hi;have hx':=hlab _ (GG hi);have hr:=IR (fun b=>((Ae s 8).take i).all fun x=>VY (gB ns b) (S.map fun s=>Ae s 8) (c++[x])) n
   have et: ∀b,(((Ae s 8).take (i+1)).all fun x=>VY (gB ns b) (S.map fun s=>Ae s 8) (c++[x]))=((((Ae s 8).take i).all fun x=>VY (gB ns b) (S.map fun s=>Ae s 8) (c++[x]))&&VY (gB ns b) (S.map fun s=>Ae s 8) (c++[(Ae s 8)[i]])):=fun b=>by
    rw [TH hi,List.all_append];simp
   have hl8:=P5 s 8;simp only [EN,JD];rw [if_pos (CV hi),BF (by omega),JS i (by omega),Af _ _ hi]
   by_cases hz:0<Bz (fun b=>((Ae s 8).take i).all fun x=>VY (gB ns b) (S.map fun s=>Ae s 8) (c++[x])) n
   ·have e1:enc (n:Int) (c++[(Ae s 8)[i]]).reverse=enc (n:Int) c.reverse*(n:Int)+(Ae s 8)[i]:=by
     rw [List.reverse_append]
     show(Ae s 8)[i]+(n:Int)*enc (n:Int) c.reverse=_
     rw [Int.mul_comm,Int.add_comm]
    have ih:=dE n d ns es hn hd S fuel (c++[(Ae s 8)[i]]) (by simp only [Ko,mf];omega) hS' (fun x h=>by
     rcases PN.1 h with h|h
     ·exact hx x h
     ·rw [UO.1 h];exact hx') (by simp only [Ji]at hf;omega)
    have ed:((s::S).take (s::S).length).drop 1=S:=by rw [Md];rfl
    rw [if_pos hz,BF (by simp),ed,Ec (enc (n:Int) c.reverse*(n:Int)) (by omega),Ec _ (by omega),←e1,ih,Cs,mO _ _ n hn.2]
    congr 2
    exact Prod.ext (ES fun b _=>(et b).symm) rfl
   ·rw [if_neg hz];have hzz:=dC (show Bz (fun b=>((Ae s 8).take i).all fun x=>VY (gB ns b) (S.map fun s=>Ae s 8) (c++[x])) n=0 by omega)
    congr 2
    refine Prod.ext (ES fun b hb=> ?_) rfl;rw [et b,hzz b hb];rfl
  ·simp only [EN];rw [if_neg (Au _)]
   congr 2
   refine ES fun b _=> ?_;simp only [RQ,VY];rw [Md]
theorem Zc(n d:Nat)(ns es:AO)(hn:1≤n∧n≤8)(hd:d≤3)(sets:AL)(hs:sets.length=d)(hr: ∀s∈sets,0≤s∧s<2 ^ n):
  Mc (n:Int) ((d+1:Nat):Int) ns es ((List.range (n ^ (d+1))).map (PK ns n (d+1))) sets 0=some (KE ns n sets):=
 dE n d ns es hn hd sets 1000000 [] (by simpa using hs) hr (fun x hx=>by cases hx) (by omega)
end Go.Proofs.YtjhjkfoabhplfaaGreat
