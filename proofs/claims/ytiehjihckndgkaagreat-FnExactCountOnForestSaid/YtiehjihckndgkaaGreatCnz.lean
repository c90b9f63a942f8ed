/- Labelings of a forest counted: program and reference agree. Conditions: the lists are short. -/
import Derived.Test.YtiehjihckndgkaaGreatL6
import Derived.Test.YtiehjihckndgkaaGreatCny
import Derived.Test.YtiehjihckndgkaaGreatCnd
namespace Go.Proofs.YtiehjihckndgkaaGreat
open Go Dv
set_option linter.unusedSimpArgs false
set_option linter.unusedVariables false
set_option maxRecDepth 100000
theorem A3B: ∀n:Fin 9,∀a:Fin 8,a.val<n.val→nV (2 ^ n.val-1) a.val=true:=by decide+kernel
def Pv(E:List (List (Int×Int))):AY:=E.map fun row=>(List.range row.length).map fun _=>(-1:Int)
theorem wV{E:List (List (Int×Int))}(ids inp:AB)(hN:NetOk E):R9 E ids inp=some (Pv E):=by
 have hb:=hN.big;unfold R9 Ox;have key:=PZ (fun w=>Ib E w.1 w.2) E (fun row=>(List.range row.length).map fun _=>(-1:Int)) ?_ ?_
 ·rw [key];rfl
 ·intro v hv out ho;have hd:=hN.deg v hv
  have inner:Mv E out (v:Int) (List.replicate (E.getD v default).length 0,0)=some ((List.range (E.getD v default).length).map fun _=>(-1:Int)):=by
   unfold Mv;refine Z8 (fun w=>Ia E out (v:Int) w.1 w.2) (E.getD v default).length (fun _=> -1) ?_ ?_
   ·intro a w ha hw _;simp only [Ia,EC,M8];rw [if_pos (by omega),BL (by omega),K4 a (by omega)]
   ·intro w hw;simp only [Ia,EC,M8];rw [if_neg (by omega)]
  simp only [Ib,EC];rw [if_pos (by omega),BL (by omega),BL (by omega),inner,Cz,BL (by omega),K4 v (by omega),Ao _ _ hv]
 ·intro out ho;simp only [Ib];rw [if_neg (by omega)]
theorem V7{E:List (List (Int×Int))}{v:Nat}(hv:v<E.length):(Pv E).getD v default=(List.range (E.getD v default).length).map fun _=>(-1:Int):=by
 unfold Pv;rw [Ao _ _ (by simpa using hv),Ni,Ao _ _ hv]
theorem wW(E:List (List (Int×Int)))(n:Nat):ShpL E n (Pv E):=by
 refine⟨by simp [Pv],fun v hv=>by rw [V7 hv];simp,fun v i hv hi=> ?_⟩
 rw [V7 hv,Ao _ _ (by simpa using hi),Ni]
 omega
theorem o7{E:List (List (Int×Int))}(hN:NetOk E):Bv (Pv E):=by
 have hb:=hN.big
 refine⟨by simp [Pv];omega,fun x hx=> ?_⟩
 unfold Pv at hx;obtain⟨row,hr,rfl⟩:=NA.1 hx;obtain⟨v,hv,rfl⟩:=jm hr;have:=hN.deg v hv
 rw [Ao _ _ hv]at this
 simp;omega
theorem A3C{E:List (List (Int×Int))}{n:Nat}(hn:n≤8){v k a:Nat}(hv:v<E.length)(hk:k<(E.getD v default).length)(ha:a<n):Sb (Y6 n (Pv E)) v k a=true:=by
 unfold Sb mk2;rw [XU n _ v (by simpa [Pv] using hv),V7 hv,Ao _ _ (by simpa using hk),Ni,Ni]
 unfold Y5;rw [if_pos (by decide)]
 exact A3B ⟨n,by omega⟩ ⟨a,by omega⟩ ha
def Tv(g:Nat→Nat)(R:Nat→Bool):Nat→Nat
 |0=>1
 |k+1=>if R k=true then Tv g R k*g k else Tv g R k
def OP(E:List (List (Int×Int)))(v:Nat):Bool:=decide ((v:Int)=(Rz E).getD v default)
theorem sN(E:List (List (Int×Int))):(Rz E).length=E.length:=by simp [Rz]
section
variable {E:List (List (Int×Int))} {ns es:AY} {n D:Nat} (C:Ctn E ns es n D) {ids inp:AB}
include C
theorem wX(h:FX E ids inp=true)(hf:nz E=true){M:AY}(hM:OkM E n M):
  RD (n:Int) (D:Int) ns es E ids inp M=some (D7 (Tv (fun v=>P9 E ns es n D (Sb M) (E.length+1) v (-1) 0) (OP E) E.length)):=by
 have H:=Tt h;have hb:=H.big;have hpl:=sN E;unfold RD P7;rw [wP h,Cz];have key:=Cf (fun w=>Ii (n:Int) (D:Int) ns es E ids inp M (Rz E) w.1 w.2) (fun k=>(D7 (Tv (fun v=>P9 E ns es n D (Sb M) (E.length+1) v (-1) 0) (OP E) k),(k:Int))) E.length (D7 (Tv (fun v=>P9 E ns es n D (Sb M) (E.length+1) v (-1) 0) (OP E) E.length)) ?_ ?_
 ·have e0:D7 (Tv (fun v=>P9 E ns es n D (Sb M) (E.length+1) v (-1) 0) (OP E) 0)=1:=rfl;rw [e0,Gn]at key;rw [key];rfl
 ·intro v hv;have hbr:=Y7 C ids inp hM (E.length+1) 1000000 v (-1) (by omega) (eU H hf hv) (.inl rfl)
  rw [if_pos (by decide)]at hbr
  simp only [Ii,EC,Tv];rw [if_pos (by omega),BL (by omega),K4 v (by omega)]
  unfold Uy;by_cases c:(v:Int)=(Rz E).getD v default
  ·have hr:OP E v=true:=decide_eq_true c;rw [if_pos c,if_pos hr,hbr,Cz,BL (by simp)]
   simp only [List.getD_cons_zero];rw [V4,Cz]
  ·have hr: ¬OP E v=true:=by unfold OP;rw [decide_eq_true_eq];exact c
   rw [if_neg c,if_neg hr]
 ·simp only [Ii];rw [if_neg (by omega)]
theorem wY(hn1:1≤n)(h:FX E ids inp=true)(hf:nz E=true):
  GN (n:Int) (D:Int) ns es E ids inp (Rz E) (1,0)=some (D7 (Tv (fun v=>P9 E ns es n D RG (E.length+1) v (-1) 0) (OP E) E.length)):=by
 have H:=Tt h;have hb:=H.big;have hpl:=sN E;unfold GN;have key:=Cf (fun w=>EQ (n:Int) (D:Int) ns es E ids inp (Rz E) w.1 w.2) (fun k=>(D7 (Tv (fun v=>P9 E ns es n D RG (E.length+1) v (-1) 0) (OP E) k),(k:Int))) E.length (D7 (Tv (fun v=>P9 E ns es n D RG (E.length+1) v (-1) 0) (OP E) E.length)) ?_ ?_
 ·have e0:D7 (Tv (fun v=>P9 E ns es n D RG (E.length+1) v (-1) 0) (OP E) 0)=1:=rfl;rw [e0,Gn]at key;exact key
 ·intro v hv;obtain⟨r,hbr,hr1,hr2⟩:=dw C ids inp hn1 (E.length+1) 1000000 v (-1) (by omega) (eU H hf hv) (.inl rfl)
  rw [if_pos (by decide)]at hr2
  simp only [EQ,EC,Tv];rw [if_pos (by omega),BL (by omega),K4 v (by omega)]
  unfold K7;by_cases c:(v:Int)=(Rz E).getD v default
  ·have hr:OP E v=true:=decide_eq_true c;rw [if_pos c,if_pos hr,hbr,Cz,BL (by omega),hr2,V3,Cz]
  ·have hr: ¬OP E v=true:=by unfold OP;rw [decide_eq_true_eq];exact c
   rw [if_neg c,if_neg hr]
 ·simp only [EQ];rw [if_neg (by omega)]
omit C in
theorem eX{g g':Nat→Nat}{R:Nat→Bool}: ∀n,(∀v,v<n→g v=g' v)→Tv g R n=Tv g' R n
 |0,_=>rfl
 |k+1,h=>by
  unfold Tv;rw [eX k fun v hv=>h v (by omega),h k (by omega)]
end
theorem wZ(a d:Int)(ns es:AY)(E:List (List (Int×Int)))(ids ins:AB)(hn:Bv ns)(he:Bv es)(hE:EX E)(hids:ids.length<1099511627776)(hins:ins.length<1099511627776):
  ∃x y,JO a d ns es E ids ins=some (x,y)∧JM a d ns es E ids ins=some (x,y):=by
 unfold JO JM Ru;rw [BL hn,BL he,BL hn,BL he,BL hE,BL hids,BL hins,BL hE,BL hids,BL hins];by_cases h:MC a d ns es=true
 ·rw [if_pos h,if_pos h];by_cases hw:FX E ids ins=true
  ·rw [if_pos hw,if_pos hw,sM (Tt hw) hids hins,o6 hw];simp only [Cz];by_cases hf:nz E=true
   ·obtain⟨ha,hd,c1,c2⟩:=Uu h;obtain⟨n,rfl⟩: ∃n:Nat,a=(n:Int):=⟨a.toNat,by omega⟩
    obtain⟨D,rfl⟩: ∃D:Nat,d=(D:Int):=⟨d.toNat,by omega⟩
    have C:=ABY h hw hn he;have hS:=wW E n;have hM:=A2t hS;have H:=Tt hw
    have e:Tv (fun v=>P9 E ns es n D (Sb (Y6 n (Pv E))) (E.length+1) v (-1) 0) (OP E) E.length=Tv (fun v=>P9 E ns es n D RG (E.length+1) v (-1) 0) (OP E) E.length:=
     eX _ fun v hv=>dz C.hN (fun v k a hv hk ha=>A3C C.hn hv hk ha) _ v (-1) 0 (eU H hf hv)
    rw [if_pos hf,if_pos hf,wV ids ins C.hN,Cz,A02 C.toCtx _ hS (o7 C.hN),Cz,wX C hw hf hM,Cz,eP hw,Cz,wY C (by omega) hw hf,Cz,e]
    split
    ·exact⟨_,_,rfl,rfl⟩
    ·exact⟨_,_,rfl,rfl⟩
   ·rw [if_neg hf,if_neg hf]
    exact⟨_,_,rfl,rfl⟩
  ·rw [if_neg hw,if_neg hw]
   exact⟨_,_,rfl,rfl⟩
 ·rw [if_neg h,if_neg h]
  exact⟨_,_,rfl,rfl⟩
end Go.Proofs.YtiehjihckndgkaaGreat
