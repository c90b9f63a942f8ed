/- Sets that complete choices and full lists, program and reference. Conditions: those in each lemma. -/
import Derived.Test.YtjhjkfoabhplfaaGreatL6
import Derived.Test.YtjhjkfoabhplfaaGreatNsb
namespace Go.Proofs.YtjhjkfoabhplfaaGreat
open Go Dv
set_option linter.unusedSimpArgs false
set_option linter.unusedVariables false
set_option maxRecDepth 100000
def gB(ns:List (List Int))(b:Nat)(c:List Int):Bool:=ns.contains (Bn (c++[(b:Int)]))
theorem A0q(s:Int)(a:Nat)(h:0≤s∧s≤255)(ha:a≤8):(Kj .and .i64 (s.fdiv (2 ^ (min ((a:Nat):Int).toNat (IntKind.i64.bits)))) 1=1)↔EQ s a=true:=by
 rw [IA,VH s a (by omega),jy _ ⟨RG s a h.1,Int.le_trans (pK s a h.1) h.2⟩]
 unfold EQ;simp
theorem QM(n:Nat)(hn:n≤8):(2:Int) ^ n≤256:=by
 have h2:(2:Int) ^ n≤2 ^ 8:=Kn hn;have e:(2:Int) ^ 8=256:=by decide
 omega
theorem aN(n d:Nat)(ns es:List (List Int))(hn:1≤n∧n≤8)(hd:d≤3)(sets:List Int)(hs:sets.length=d)(hr: ∀s∈sets,0≤s∧s<2 ^ n):
  ∀(m k fuel:Nat) (c:List Int) (P:Nat→Bool),m+k=d→c.length=k→(∀x∈c,0≤x∧x<(n:Int))→m<fuel→
   Al fuel (k:Int) (Bo (n:Int) c) ((n ^ k:Nat):Int) (BQ P n) sets (n:Int) ((d+1:Nat):Int) ns es ((List.range (n ^ d)).map (O9 ns n d))=some (BQ (fun b=>P b&&Ue (gB ns b) ((sets.drop k).map fun s=>AU s 8) c) n)
 | _,_,0,_,_,_,_,_,hf=>by omega
 | 0,k,fuel+1,c,P,hk,hc,hx,_=>by
  have he:=QL (L:=(n:Int)) (by omega) hx
  rw [hc,Ps]at he;have hkd:k=d:=by omega
  have hlt:(Bo (n:Int) c).toNat<n ^ d:=by rw [←hkd];omega
  have hg:((List.range (n ^ d)).map (O9 ns n d)).getD (Bo (n:Int) c).toNat default=BQ (fun b=>gB ns b c) n:=by
   rw [AV _ _ (by simpa using hlt)]
   simp only [List.getElem_map,kr,O9];refine Dk fun b _=> ?_;have e1:(((Bo (n:Int) c).toNat:Nat):Int)=Bo (n:Int) c:=by omega
   have e2:Rv (n:Int) d (Bo (n:Int) c)=c:=by rw [←hkd,←hc];exact gL (by omega) hx
   rw [e1,e2];rfl
  show Bg (Al fuel) _ _ _ _ _ _ _ _ _ _=_
  unfold Bg;rw [if_pos (by omega),Am ⟨he.1,by simpa using hlt⟩,hg,kK _ _ n hn.2,List.drop_of_length_le (by omega)]
  rfl
 | m+1,k,fuel+1,c,P,hk,hc,hx,hf=>by
  have hkl:k<sets.length:=by omega
  have hd':sets.drop k=sets[k]::sets.drop (k+1):=aS hkl;have hsr:=hr _ (FE hkl);have h2n:=QM n hn.2;have he:=QL (L:=(n:Int)) (by omega) hx
  rw [hc,Ps]at he;have hp1:=NM n hn.2 k (by omega)
  have hp2:=NM n hn.2 (k+1) (by omega)
  have hcut:AU sets[k] 8=AU sets[k] n:=kL hsr.1 hsr.2 hn.2;have hkg:sets.getD k default=sets[k]:=AV _ _ hkl;have key:=BO (fun v=>Bh (Al fuel) (k:Int) (Bo (n:Int) c) ((n ^ k:Nat):Int) sets (n:Int) ((d+1:Nat):Int) ns es ((List.range (n ^ d)).map (O9 ns n d)) v.1 v.2)
   (fun a=>((a:Int),BQ (fun b=>P b&&(AU sets[k] a).all fun x=>Ue (gB ns b) ((sets.drop (k+1)).map fun s=>AU s 8) (c++[x])) n)) n
   (BQ (fun b=>P b&&Ue (gB ns b) ((sets.drop k).map fun s=>AU s 8) c) n) ?_ ?_
  ·have e:Al (fuel+1) (k:Int) (Bo (n:Int) c) ((n ^ k:Nat):Int) (BQ P n) sets (n:Int) ((d+1:Nat):Int) ns es ((List.range (n ^ d)).map (O9 ns n d))=Bg (Al fuel) (k:Int) (Bo (n:Int) c) ((n ^ k:Nat):Int) (BQ P n) sets (n:Int) ((d+1:Nat):Int) ns es ((List.range (n ^ d)).map (O9 ns n d)):=rfl;rw [e];unfold Bg Da;have e0:BQ (fun b=>P b&&(AU sets[k] 0).all fun x=>Ue (gB ns b) ((sets.drop (k+1)).map fun s=>AU s 8) (c++[x])) n=BQ P n:=Dk fun b _=>by simp [AU]
   rw [e0,Js]at key;rw [if_neg (by omega),key];rfl
  ·intro a ha;simp only [Bh,IA,hkg];rw [if_pos (Bi ha),Am (by omega),Am (by omega),IR a (by omega)]
   have hb:=A0q sets[k] a (by omega) (by omega)
   rw [IA]at hb
   cases hl:EQ sets[k] a with
   | true=>
    have ea:AU sets[k] (a+1)=AU sets[k] a++[(a:Int)]:=by rw [Ko,hl,if_pos rfl]
    rw [if_pos (hb.2 hl),ea];by_cases hz:BQ (fun b=>P b&&(AU sets[k] a).all fun x=>Ue (gB ns b) ((sets.drop (k+1)).map fun s=>AU s 8) (c++[x])) n=0
    ·rw [if_pos hz];have hzz:=aM hz
     congr 2
     refine Prod.ext rfl (Dk fun b hbn=> ?_);have h1:=hzz b hbn;rw [List.all_append,←Bool.and_assoc,h1];rfl
    ·rw [if_neg hz];have h0:(0:Int)≤(a:Int)*((n ^ k:Nat):Int):=Int.mul_nonneg (by omega) (by omega)
     have h1:(a:Int)*((n ^ k:Nat):Int)≤8*4096:=Int.mul_le_mul (by omega) (by omega) (by omega) (by omega)
     have e1:Bo (n:Int) (c++[(a:Int)])=Bo (n:Int) c+(a:Int)*((n ^ k:Nat):Int):=by rw [pu,hc,Ps]
     have e2:((n ^ k:Nat):Int)*(n:Int)=((n ^ (k+1):Nat):Int):=by rw [Nat.pow_succ];norm_cast
     have ih:=aN n d ns es hn hd sets hs hr m (k+1) fuel (c++[(a:Int)]) (fun b=>P b&&(AU sets[k] a).all fun x=>Ue (gB ns b) ((sets.drop (k+1)).map fun s=>AU s 8) (c++[x])) (by omega) (by simp [hc]) (fun x hx'=>by
      rcases OB.1 hx' with h | h
      ·exact hx x h
      ·rw [TR.1 h];omega) (by omega)
     rw [Dw ((a:Int)*((n ^ k:Nat):Int)) (by omega),Dw (Bo (n:Int) c+(a:Int)*((n ^ k:Nat):Int)) (by omega),←e1,e2,Dw ((n ^ (k+1):Nat):Int) (by omega),IR k (by omega),ih,CO]
     congr 2
     refine Prod.ext rfl (Dk fun b hbn=> ?_);rw [List.all_append,Bool.and_assoc];simp
   | false=>
    have ea:AU sets[k] (a+1)=AU sets[k] a:=by rw [Ko,hl,if_neg (by decide)]
    rw [if_neg (fun h=>by rw [hb.1 h]at hl;cases hl),ea]
  ·simp only [Bh];rw [if_neg (Af _),hd']
   congr 2
   refine Dk fun b _=> ?_;simp only [QW,Ue];rw [hcut]
theorem Pt(n:Nat)(hn:n≤8):IntKind.i64.wrap ((IntKind.i64.wrap (1*2 ^ (min (n:Int).toNat (IntKind.i64.bits))))-1)=BQ (fun _=>true) n∧IntKind.i64.wrap ((IntKind.i64.wrap (1*2 ^ (min (n:Int).toNat (IntKind.i64.bits))))-1)=2 ^ n-1:=by
 have e8:min (n:Int).toNat IntKind.i64.bits=n:=by show min (n:Int).toNat 64=n;omega
 have h:=QM n hn;have hp:=Int.pow_nonneg (m:=n) (show(0:Int)≤2 by decide)
 rw [aL,e8,Int.one_mul];generalize (2:Int) ^ n=q at h hp ⊢;rw [Dw q (by omega),Dw _ (by omega)]
 exact⟨rfl,rfl⟩
theorem QT(n d:Nat)(ns es:List (List Int))(hn:1≤n∧n≤8)(hd:d≤3)(sets:List Int)(hs:sets.length=d)(hr: ∀s∈sets,0≤s∧s<2 ^ n):
  Cy (n:Int) ((d+1:Nat):Int) ns es ((List.range (n ^ d)).map (O9 ns n d)) sets=some (JJ ns n sets):=by
 have h:=aN n d ns es hn hd sets hs hr d 0 1000000 [] (fun _=>true) (by omega) rfl (fun x hx=>by cases hx) (by omega)
 unfold Cy H7;rw [Am (by omega),(Pt n hn.2).1]
 have e0:Bo (n:Int) []=0:=rfl;have e1:((n ^ 0:Nat):Int)=1:=by simp
 rw [e0,e1,Js,Sk]at h;rw [h];show some _=some _
 congr 1
theorem aO(n d:Nat)(ns es:List (List Int))(hn:1≤n∧n≤8)(hd:d≤3):
  ∀(S:List Int) (fuel:Nat) (c:List Int),c.length+S.length=d→(∀s∈S,0≤s∧s<2 ^ n)→(∀x∈c,0≤x∧x<(n:Int))→S.length<fuel→
   Bw fuel (n:Int) ((d+1:Nat):Int) ns es ((List.range (n ^ (d+1))).map (OA ns n (d+1))) S (Bo (n:Int) c.reverse)=some (BQ (fun b=>Ue (gB ns b) (S.map fun s=>AU s 8) c) n)
 | _,0,_,_,_,_,hf=>by omega
 | [],fuel+1,c,hc,_,hx,_=>by
  have hxr: ∀x∈c.reverse,0≤x∧x<(n:Int):=fun x h=>hx x (List.mem_reverse.1 h);have he:=QL (L:=(n:Int)) (by omega) hxr
  have hcl:c.length=d:=by simpa using hc
  have hp2:=NM n hn.2 (d+1) (by omega)
  have hp1:=NM n hn.2 d (by omega)
  rw [List.length_reverse,hcl,Ps]at he;have h2n:=QM n hn.2
  have hidx: ∀a:Nat,a<n→Bo (n:Int) c.reverse*(n:Int)+(a:Int)=Bo (n:Int) ((a:Int)::c.reverse)∧0≤Bo (n:Int) ((a:Int)::c.reverse)∧(Bo (n:Int) ((a:Int)::c.reverse)).toNat<n ^ (d+1):=fun a ha=>by
   have h1:=QL (L:=(n:Int)) (by omega) (c:=(a:Int)::c.reverse) (fun x h=>by
    rcases Li.1 h with h | h
    ·rw [h];omega
    ·exact hxr x h)
   rw [Ik,List.length_reverse,hcl,Ps]at h1
   refine⟨?_,h1.1,by omega⟩
   show _=(a:Int)+(n:Int)*Bo (n:Int) c.reverse
   rw [Int.mul_comm,Int.add_comm]
  have hgood: ∀a:Nat,a<n→((List.range (n ^ (d+1))).map (OA ns n (d+1))).getD (Bo (n:Int) ((a:Int)::c.reverse)).toNat default=gB ns a c:=fun a ha=>by
   obtain⟨_,h1,h2⟩:=hidx a ha;rw [AV _ _ (by simpa using h2)]
   simp only [List.getElem_map,kr,OA,gB];have e1:(((Bo (n:Int) ((a:Int)::c.reverse)).toNat:Nat):Int)=Bo (n:Int) ((a:Int)::c.reverse):=by omega
   have e2:Rv (n:Int) (d+1) (Bo (n:Int) ((a:Int)::c.reverse))=(a:Int)::c.reverse:=by
    have:=gL (L:=(n:Int)) (by omega) (c:=(a:Int)::c.reverse) (fun x h=>by
     rcases Li.1 h with h | h
     ·rw [h];omega
     ·exact hxr x h)
    rwa [Ik,List.length_reverse,hcl]at this
   rw [e1,e2,Sb (show((a:Int)::c.reverse).Perm (c++[(a:Int)])from((List.reverse_perm c).cons (a:Int)).trans (List.perm_append_singleton (a:Int) c).symm)]
  have hm:Bo (n:Int) c.reverse*(n:Int)≤4096*8:=Int.mul_le_mul (by omega) (by omega) (by omega) (by omega)
  have hm0:0≤Bo (n:Int) c.reverse*(n:Int):=Int.mul_nonneg he.1 (by omega)
  show EH (Bw fuel) _ _ _ _ _ _ _=_
  unfold EH Io;have key:=BO (fun v=>De (n:Int) ((d+1:Nat):Int) ns es ((List.range (n ^ (d+1))).map (OA ns n (d+1))) (Bo (n:Int) c.reverse) v.1 v.2)
   (fun a=>(BQ (fun b=>gB ns b c) a,(a:Int))) n (BQ (fun b=>gB ns b c) n) ?_ ?_
  ·have e0:BQ (fun b=>gB ns b c) 0=0:=rfl;rw [e0,Js]at key;rw [if_pos (by simp),key];rfl
  ·intro a ha;obtain⟨i1,i2,i3⟩:=hidx a ha;have hr:=Gr (fun b=>gB ns b c) a;have h7:(2:Int) ^ a≤2 ^ 7:=Kn (by omega)
   have e7:(2:Int) ^ 7=128:=by decide
   have e8:min a IntKind.i64.bits=a:=by show min a 64=a;omega
   have hp:=Int.pow_nonneg (m:=a) (show(0:Int)≤2 by decide)
   have em:BQ (fun b=>gB ns b c) (a+1)=BQ (fun b=>gB ns b c) a+if gB ns a c=true then 2 ^ a else 0:=rfl
   simp only [De];rw [if_pos (Bi ha),Dw (Bo (n:Int) c.reverse*(n:Int)) (by omega),i1,Dw _ (by omega),Am ⟨i2,by simpa using i3⟩,hgood a ha,em,IR a (by omega)]
   cases gB ns a c with
   | true=>rw [if_pos rfl,if_pos rfl,Am (by omega),IA,e8,Int.one_mul,Dw ((2:Int) ^ a) (by omega),Dw _ (by omega)]
   | false=>rw [if_neg (by decide),if_neg (by decide),Int.add_zero]
  ·simp only [De];rw [if_neg (Af _)]
 | s::S,fuel+1,c,hc,hS,hx,hf=>by
  have hsr:=hS s Iu;have hS': ∀t∈S,0≤t∧t<2 ^ n:=fun t ht=>hS t (Jp _ ht);have h2n:=QM n hn.2;have hxr: ∀x∈c.reverse,0≤x∧x<(n:Int):=fun x h=>hx x (List.mem_reverse.1 h);have he:=QL (L:=(n:Int)) (by omega) hxr
  have hcl:c.length+(S.length+1)=d:=by simpa using hc
  have hp1:=NM n hn.2 c.length (by omega)
  rw [List.length_reverse,Ps]at he;have hm:Bo (n:Int) c.reverse*(n:Int)≤4096*8:=Int.mul_le_mul (by omega) (by omega) (by omega) (by omega)
  have hm0:0≤Bo (n:Int) c.reverse*(n:Int):=Int.mul_nonneg he.1 (by omega)
  have hcut:AU s 8=AU s n:=kL hsr.1 hsr.2 hn.2
  have hlab: ∀x∈AU s 8,0≤x∧x<(n:Int):=fun x h=>by
   rw [hcut]at h;obtain⟨a,rfl,ha,_⟩:=xe.1 h;omega
  have key:=BO (fun v=>Df (Bw fuel) (n:Int) ((d+1:Nat):Int) ns es ((List.range (n ^ (d+1))).map (OA ns n (d+1))) (s::S) (Bo (n:Int) c.reverse) (AU s 8) v.1 v.2)
   (fun i=>(BQ (fun b=>((AU s 8).take i).all fun x=>Ue (gB ns b) (S.map fun s=>AU s 8) (c++[x])) n,(i:Int))) (AU s 8).length
   (BQ (fun b=>Ue (gB ns b) ((s::S).map fun s=>AU s 8) c) n) ?_ ?_
  ·have e:Bw (fuel+1) (n:Int) ((d+1:Nat):Int) ns es ((List.range (n ^ (d+1))).map (OA ns n (d+1))) (s::S) (Bo (n:Int) c.reverse)=EH (Bw fuel) (n:Int) ((d+1:Nat):Int) ns es ((List.range (n ^ (d+1))).map (OA ns n (d+1))) (s::S) (Bo (n:Int) c.reverse):=rfl;rw [e];unfold EH Ip;have hg0:(s::S).getD 0 default=s:=rfl;have e0:BQ (fun b=>((AU s 8).take 0).all fun x=>Ue (gB ns b) (S.map fun s=>AU s 8) (c++[x])) n=BQ (fun _=>true) n:=Dk fun b _=>by simp
   rw [e0,Js]at key;rw [if_neg (by simp only [Ik];omega),Am (by omega),Am (by simp),hg0,Sc s (by omega),CO,(Pt n hn.2).1,key]
   rfl
  ·intro i hi;have hx':=hlab _ (FE hi);have hr:=Gr (fun b=>((AU s 8).take i).all fun x=>Ue (gB ns b) (S.map fun s=>AU s 8) (c++[x])) n
   have et: ∀b,(((AU s 8).take (i+1)).all fun x=>Ue (gB ns b) (S.map fun s=>AU s 8) (c++[x]))=((((AU s 8).take i).all fun x=>Ue (gB ns b) (S.map fun s=>AU s 8) (c++[x]))&&Ue (gB ns b) (S.map fun s=>AU s 8) (c++[(AU s 8)[i]])):=fun b=>by
    rw [Rw hi,List.all_append];simp
   have hl8:=Nz s 8;simp only [Df,IA];rw [if_pos (Bi hi),Am (by omega),IR i (by omega),AV _ _ hi]
   by_cases hz:0<BQ (fun b=>((AU s 8).take i).all fun x=>Ue (gB ns b) (S.map fun s=>AU s 8) (c++[x])) n
   ·have e1:Bo (n:Int) (c++[(AU s 8)[i]]).reverse=Bo (n:Int) c.reverse*(n:Int)+(AU s 8)[i]:=by
     rw [List.reverse_append]
     show(AU s 8)[i]+(n:Int)*Bo (n:Int) c.reverse=_
     rw [Int.mul_comm,Int.add_comm]
    have ih:=aO n d ns es hn hd S fuel (c++[(AU s 8)[i]]) (by simp only [Jq,kW];omega) hS' (fun x h=>by
     rcases OB.1 h with h | h
     ·exact hx x h
     ·rw [TR.1 h];exact hx') (by simp only [Ik]at hf;omega)
    have ed:((s::S).take (s::S).length).drop 1=S:=by rw [LZ];rfl
    rw [if_pos hz,Am (by simp),ed,Dw (Bo (n:Int) c.reverse*(n:Int)) (by omega),Dw _ (by omega),←e1,ih,CO,kK _ _ n hn.2]
    congr 2
    exact Prod.ext (Dk fun b _=>(et b).symm) rfl
   ·rw [if_neg hz];have hzz:=aM (show BQ (fun b=>((AU s 8).take i).all fun x=>Ue (gB ns b) (S.map fun s=>AU s 8) (c++[x])) n=0 by omega)
    congr 2
    refine Prod.ext (Dk fun b hb=> ?_) rfl;rw [et b,hzz b hb];rfl
  ·simp only [Df];rw [if_neg (Af _)]
   congr 2
   refine Dk fun b _=> ?_;simp only [QW,Ue];rw [LZ]
theorem Yc(n d:Nat)(ns es:List (List Int))(hn:1≤n∧n≤8)(hd:d≤3)(sets:List Int)(hs:sets.length=d)(hr: ∀s∈sets,0≤s∧s<2 ^ n):
  LY (n:Int) ((d+1:Nat):Int) ns es ((List.range (n ^ (d+1))).map (OA ns n (d+1))) sets 0=some (JJ ns n sets):=
 aO n d ns es hn hd sets 1000000 [] (by simpa using hs) hr (fun x hx=>by cases hx) (by omega)
end Go.Proofs.YtjhjkfoabhplfaaGreat
