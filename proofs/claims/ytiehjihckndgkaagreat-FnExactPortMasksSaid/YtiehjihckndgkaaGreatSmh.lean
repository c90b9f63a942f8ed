/- Greatest sets of labels of ports: program and reference agree on all arguments. Conditions: the lists are short. -/
import Derived.Test.YtiehjihckndgkaaGreatL6
import Derived.Test.YtiehjihckndgkaaGreatSmg
namespace Go.Proofs.YtiehjihckndgkaaGreat
open Go Dv
set_option linter.unusedSimpArgs false
set_option linter.unusedVariables false
set_option maxRecDepth 100000
theorem fQ(l:List (List Int))(f:List Int→Option Bool)(p:List Int→Bool)(h:l.length<1099511627776)(hf: ∀x∈l,f x=some (p x)):CS l f=some (l.any p):=by
 have key:=wR (fun v=>Bd l f v) (fun i=>(i:Int)) l.length (fun i=>p (l.getD i default)) (fun i=> .inl (i:Int)) (.inr ()) ?_ ?_
 ·rw [GY]at key;unfold CS D9 Cs;rw [key]
  cases hq:Jq l.length (fun i=>p (l.getD i default))with
  |none=>
   have:l.any p=false:=by
    rw [Fx];intro hc;obtain⟨x,hx,hpx⟩:=WJ.1 hc;obtain⟨i,hi,rfl⟩:=VB hx;have:(Jq l.length (fun i=>p (l.getD i default))).isSome=true:=YI.2 ⟨i,hi,by rw [Am _ _ hi];exact hpx⟩
    rw [hq]at this;cases this
   rw [this];rfl
  |some m=>
   obtain⟨m1,m2⟩:=YH hq;have:l.any p=true:=WJ.2 ⟨_,OA m1,by rw [←Am _ _ m1];exact m2⟩
   rw [this];simp only [DJ];rw [decide_eq_true (by omega)]
 ·intro i hi;simp only [Bd];rw [if_pos (CJ hi),BJ (Df hi),IV,hf _ (by rw [Am _ _ hi];exact OA hi),DJ,Kh i (by omega)]
 ·simp only [Bd];rw [if_neg (Ar _)]
def nL(a:Int)(E:List (List (Int×Int)))(l:List (List Int)):Bool:=
 decide (l.length=E.length)&&(List.range l.length).all (fun v=>decide ((l.getD v default).length=(E.getD v default).length)&&DC (l.getD v default) (-1) (a-1))
theorem nM(a d:Int)(ns es:List (List Int))(E:List (List (Int×Int)))(ids ins:List Int)(l:List (List Int))(ha:1≤a∧a≤8)(hl:BB l):Hd a d ns es E ids ins l=some (nL a E l):=by
 have h1:=hl.1;unfold Hd Qs nL;by_cases hq:l.length=E.length
 ·rw [if_pos (by omega),decide_eq_true hq,OH]
  have k:Ku E ids ins l 0=some (if(List.range l.length).all (fun v=>decide ((l.getD v default).length=(E.getD v default).length))=true then .inr ()else .inl ()):=by
   unfold Ku;refine Db (fun x=>HZ E ids ins l x) (fun i=>(i:Int)) l.length _ (.inl ()) (.inr ()) ?_ ?_
   ·intro v hv;simp only [HZ,IV];rw [if_pos (CJ hv),BJ (by omega),BJ (by omega),Kh v (by omega)]
    by_cases hx:(l.getD v default).length=(E.getD v default).length
    ·rw [if_pos (by omega),decide_eq_true hx];rfl
    ·rw [if_neg (by omega),decide_eq_false hx];rfl
   ·simp only [HZ];rw [if_neg (Ar _)]
  have hc:=fQ l (fun a0=>EB a0 a d ns es) (fun x=> !DC x (-1) (a-1)) h1 (fun x hx=>by
   unfold EB
   rw [BJ (hl.2 x hx),J9 _ (by omega)])
  rw [k,hc]
  have e:(List.range l.length).all (fun v=>decide ((l.getD v default).length=(E.getD v default).length)&&DC (l.getD v default) (-1) (a-1))=((List.range l.length).all (fun v=>decide ((l.getD v default).length=(E.getD v default).length))&& !l.any (fun x=> !DC x (-1) (a-1))):=by
   rw [←List.all_eq_not_any_not,←NK (fun x=>DC x (-1) (a-1)) l,Rt,Fa,CW,CW,CW]
   constructor
   ·intro h
    exact⟨fun i hi=>(Fa _ _▸h i hi).1,fun i hi=>(Fa _ _▸h i hi).2⟩
   ·rintro⟨h1,h2⟩ i hi
    rw [h1 i hi,h2 i hi];rfl
  rw [e]
  cases (List.range l.length).all (fun v=>decide ((l.getD v default).length=(E.getD v default).length))<;>rfl
 ·rw [if_neg (by omega),decide_eq_false hq];rfl
theorem nN(a d:Int)(ns es:List (List Int))(E:List (List (Int×Int)))(ids ins:List Int)(l:List (List Int))(ha:1≤a∧a≤8)(hl:BB l)(hq:l.length=E.length):
  JW a d ns es E ids ins l 0=some (if(List.range l.length).all (fun v=>decide ((l.getD v default).length=(E.getD v default).length)&&DC (l.getD v default) (-1) (a-1))=true then .inr ()else .inl ()):=by
 have h1:=hl.1;unfold JW;refine Db (fun x=>FB a d ns es E ids ins l x) (fun i=>(i:Int)) l.length _ (.inl ()) (.inr ()) ?_ ?_
 ·intro v hv;simp only [FB,IV];rw [if_pos (CJ hv),BJ (by omega),BJ (by omega),BJ (hl.getD v),J9 _ (by omega),Kh v (by omega)]
  by_cases hx:(l.getD v default).length=(E.getD v default).length
  ·rw [if_pos (by omega),decide_eq_true hx,OH]
  ·rw [if_neg (by omega),decide_eq_false hx];rfl
 ·simp only [FB];rw [if_neg (Ar _)]
theorem xV{l:List Int}{lo hi:Int}(h:DC l lo hi=true){i:Nat}(hi':i<l.length):lo≤l.getD i default∧l.getD i default≤hi:=by
 unfold DC at h;have:=Gb.1 (JG.1 h _ (OA hi'))
 rw [Am _ _ hi'];omega
theorem A66{n D:Nat}{ns es:List (List Int)}{E:List (List (Int×Int))}{ids ins:List Int}(h:Kq n D ns es=true)(hw:O3 E ids ins=true)(hn:BB ns)(he:BB es):Ctx E ns es n D:=by
 obtain⟨ha,hd,c1,c2⟩:=YD h
 refine⟨xP hw,by omega,by omega,hn,he,aL c1,aL c2,fun c hc=>dn (YE c1 hc).2.1,fun c hc=>⟨?_,fun a hac=> ?_⟩⟩
 ·have:=(YE c1 hc).1;omega
 ·have h3:=(YE c1 hc).2.2;unfold DC at h3;have:=Gb.1 (JG.1 h3 a hac)
  omega
theorem A67{E:List (List (Int×Int))}{n:Nat}{l:List (List Int)}(hq:l.length=E.length)(hall:(List.range l.length).all (fun v=>decide ((l.getD v default).length=(E.getD v default).length)&&DC (l.getD v default) (-1) ((n:Int)-1))=true):ShpL E n l:=by
 refine⟨hq,fun v hv=> ?_,fun v i hv hi=> ?_⟩
 ·have:=CW.1 hall v (by omega)
  rw [Fa,decide_eq_true_eq]at this;exact this.1
 ·have:=CW.1 hall v (by omega)
  rw [Fa,decide_eq_true_eq]at this;have:=xV this.2 (i:=i) (by omega)
  omega
theorem rJ(a d:Int)(ns es:List (List Int))(E:List (List (Int×Int)))(ids ins:List Int)(l:List (List Int))(hn:BB ns)(he:BB es)(hE:Cw E)(hids:ids.length<1099511627776)(hins:ins.length<1099511627776)(hl:BB l):
  ∃x y,MN a d ns es E ids ins l=some (x,y)∧MI a d ns es E ids ins l=some (x,y)∧x.length≤40∧ ∀r∈x,r.length≤6:=by
 unfold MN MI O5;rw [BJ hn,BJ he,BJ hn,BJ he,BJ hE,BJ hids,BJ hins,BJ hE,BJ hids,BJ hins];by_cases h:Kq a d ns es=true
 ·rw [if_pos h,if_pos h];obtain⟨ha,hd,c1,c2⟩:=YD h;by_cases hw:O3 E ids ins=true
  ·rw [if_pos hw,if_pos hw,nM a d ns es E ids ins l ha hl,DJ];unfold nL;by_cases hq:l.length=E.length
   ·rw [if_pos (by omega),decide_eq_true hq,OH,nN a d ns es E ids ins l ha hl hq]
    cases hall:(List.range l.length).all (fun v=>decide ((l.getD v default).length=(E.getD v default).length)&&DC (l.getD v default) (-1) (a-1))with
    |false=>exact⟨_,_,rfl,rfl,by simp,by simp⟩
    |true=>
     obtain⟨n,rfl⟩: ∃n:Nat,a=(n:Int):=⟨a.toNat,by omega⟩
     obtain⟨D,rfl⟩: ∃D:Nat,d=(D:Int):=⟨d.toNat,by omega⟩
     have C:=A66 h hw hn he;have hS:=A67 hq hall;have hM:=jl hS;have hG:=A65 C hM;have sG:=hG.short C.hN;have sG1:=sG.1;have key:=Db (fun w=>FC (R9 E ns es n D (Ie n l)) w) (fun j=>(j:Int)) (R9 E ns es n D (Ie n l)).length (fun j=> !((R9 E ns es n D (Ie n l)).getD j default).contains (0:Int)) (.inl ()) (.inr ()) ?_ ?_
     ·rw [GY]at key;have key2:LB (R9 E ns es n D (Ie n l)) 0=_:=key;simp only [if_true,DJ];rw [rH C l hS hl,DJ,nK C ids ins hM,DJ,key2,DJ,NK (fun row:List Int=> !row.contains (0:Int)),Yg C ids ins l hS hl,DJ]
      cases (R9 E ns es n D (Ie n l)).all (fun row=> !row.contains (0:Int))with
      |false=>exact⟨_,_,rfl,rfl,by simp,by simp⟩
      |true=>
       refine⟨_,_,rfl,rfl, ?_,fun r hr=> ?_⟩
       ·have:=hG.len;have:=C.hN.big;omega
       ·obtain⟨v,hv,rfl⟩:=VB hr;have h1:=hG.len;have h2:=hG.row v (by omega)
        have h3:=C.hN.deg v (by omega)
        rw [Am _ _ hv]at h2;omega
     ·intro j hj;simp only [FC,IV];rw [if_pos (CJ hj),BJ (by omega),BJ (sG.getD j),Kh j (by omega)]
      by_cases hc:((R9 E ns es n D (Ie n l)).getD j default).contains (0:Int)=true
      ·rw [if_pos hc,hc];rfl
      ·rw [if_neg hc,Fx.2 hc];rfl
     ·simp only [FC];rw [if_neg (Ar _)]
   ·rw [if_neg (by omega),decide_eq_false hq]
    exact⟨_,_,rfl,rfl,by simp,by simp⟩
  ·rw [if_neg hw,if_neg hw]
   exact⟨_,_,rfl,rfl,by simp,by simp⟩
 ·rw [if_neg h,if_neg h]
  exact⟨_,_,rfl,rfl,by simp,by simp⟩
end Go.Proofs.YtiehjihckndgkaaGreat
