/- Labelings of a branch counted: the reference's walk. Conditions: those in each lemma. -/
import Derived.Test.YtiehjihckndgkaaGreatL6
import Derived.Test.YtiehjihckndgkaaGreatCnt
import Derived.Test.YtiehjihckndgkaaGreatSmh
namespace Go.Proofs.YtiehjihckndgkaaGreat
open Go Dv
set_option linter.unusedSimpArgs false
set_option linter.unusedVariables false
set_option maxRecDepth 100000
theorem wJ{l:AY}(h:Us l=true):l.Nodup:=by
 refine yH.2 fun i j hi hj hij e=> ?_;have:=Vz h hij hj
 rw [Ao _ _ hi,Ao _ _ hj,e,U7]at this;omega
structure Ctn(E:List (List (Int×Int)))(ns es:AY)(n D:Nat):Prop extends Ctx E ns es n D where
 hcn: ∀c∈ns,∀a∈c,0≤a∧a<n
theorem ABY{n D:Nat}{ns es:AY}{E:List (List (Int×Int))}{ids ins:AB}(h:MC n D ns es=true)(hw:FX E ids ins=true)(hn:Bv ns)(he:Bv es):Ctn E ns es n D:=by
 refine⟨ABX h hw hn he,fun c hc a hac=> ?_⟩
 obtain⟨_,_,c1,_⟩:=Uu h;have h3:=(WK c1 hc).2.2;unfold GG at h3;have:=Fg.1 (KN.1 h3 a hac)
 omega
theorem jZ(l:List Nat)(x:Nat):(l++[x]).prod=l.prod*x:=by simp
theorem wK{n:Nat}{i:Int}{a:Nat}{Ws:List (Int→Nat)}{ways ns:AY}(es:AY)(L D:Int)(h:RelW n i (a:Int) Ws ways)(hl:Ws.length≤6)(hn:n≤8)(hd:(Ws.length:Int)≠D)(hz: ∀k:Nat,k<Ws.length→(k:Int)=i→ways.getD k default=[])(hi:a<n∨i<0):
  Oy L D ns es ways i (a:Int)=some (D7 (Hw n (fun _=>1) Ws [])):=by
 have hwl:=h.len;unfold Oy Rw;rw [if_neg (by omega),dh]
 have key:=Cf (fun v=>LV ways i v.1 v.2) (fun k=>(D7 (((Ws.map fun w=>Dm n fun b=>w (b:Int)).take k).prod),(k:Int))) Ws.length (D7 ((Ws.map fun w=>Dm n fun b=>w (b:Int)).prod)) ?_ ?_
 ·have e0:D7 (((Ws.map fun w=>Dm n fun b=>w (b:Int)).take 0).prod)=1:=rfl;rw [e0,Gn]at key;rw [key];rfl
 ·intro k hk
  have et:((Ws.map fun w=>Dm n fun b=>w (b:Int)).take (k+1)).prod=((Ws.map fun w=>Dm n fun b=>w (b:Int)).take k).prod*Dm n fun b=>Ws[k] (b:Int):=by
   rw [jh (by simpa using hk),jZ,Ni]
  have inner: ∃z,Ps ways i (D7 (((Ws.map fun w=>Dm n fun b=>w (b:Int)).take k).prod)) (k:Int) (0,0)=some z∧((k:Int)≠i→z=D7 (Dm n fun b=>Ws[k] (b:Int))):=by
   unfold Ps;by_cases ci:(k:Int)=i
   ·refine⟨0, ?_,fun hc=>absurd ci hc⟩
    have hw:=hz k hk ci;have key:=Cf (fun v=>HV ways i (D7 (((Ws.map fun w=>Dm n fun b=>w (b:Int)).take k).prod)) (k:Int) v.1 v.2) (fun j=>((0:Int),(j:Int))) 0 0 (fun i hi=>by omega) ?_
    ·exact key
    ·simp only [HV,EC,hw];rfl
   ·obtain⟨w1,w2⟩:=h.at_ k hk ci
    refine⟨_, ?_,fun _=>rfl⟩
    have key:=Cf (fun v=>HV ways i (D7 (((Ws.map fun w=>Dm n fun b=>w (b:Int)).take k).prod)) (k:Int) v.1 v.2) (fun j=>(D7 (Dm j fun b=>Ws[k] (b:Int)),(j:Int))) n (D7 (Dm n fun b=>Ws[k] (b:Int))) ?_ ?_
    ·exact key
    ·intro j hj;simp only [HV,EC];rw [if_pos (by omega),BL (by omega),w2 j hj,UE,Cz,K4 j (by omega),Ef]
    ·simp only [HV,EC];rw [if_neg (by omega)]
  obtain⟨z,hz1,hz2⟩:=inner;simp only [LV];rw [if_pos (by omega),BL (by omega),hz1,Cz,et,K4 k (by omega)]
  by_cases ci:(k:Int)=i
  ·rw [if_pos ci]
   have:(Dm n fun b=>Ws[k] (b:Int))=1:=by
    have ha:a<n:=by omega
    rw [WV ha fun b _ hne=>by rw [h.one k hk ci,if_neg (by omega)],h.one k hk ci,if_pos rfl]
   rw [this,Pw]
  ·rw [if_neg ci,hz2 ci,V4,Cz]
 ·simp only [LV];rw [if_neg (by omega),ji (by simp)]
section
variable {E:List (List (Int×Int))} {ns es:AY} {n D:Nat} (C:Ctn E ns es n D) (ids inp:AB)
include C
def Sb(M:AY)(v k a:Nat):Bool:=nV (mk2 M v k) a
theorem A2u{M:AY}(hM:OkM E n M){v k:Nat}{i:Int}(hv:v<E.length)(hk:k<(E.getD v default).length)(hki:(k:Int)≠i)(T:Nat→Nat→Nat→Nat)(t11:AY)(x:Nat):
  Lr (n:Int) (D:Int) ns es E ids inp M (v:Int) i t11 (k:Int) (Pt n (T (UO E v k) (Ub E v k))) (List.replicate n 0,0)=some (Pt n fun a=>V9 E es n (Sb M) T v i x k (a:Int)):=by
 have hn:=C.hn;have hl:=hM.len;have hr:=hM.row v hv;unfold Lr;refine Z8 (fun w=>Gh (n:Int) (D:Int) ns es E ids inp M (v:Int) i t11 (k:Int) (Pt n (T (UO E v k) (Ub E v k))) w.1 w.2) n (fun a=>D7 (V9 E es n (Sb M) T v i x k (a:Int))) ?_ ?_
 ·intro a w ha hw hwa
  have inner:Lp (n:Int) (D:Int) ns es E ids inp M (v:Int) i t11 (k:Int) (Pt n (T (UO E v k) (Ub E v k))) (a:Int) (w,0)=some (w.set a (D7 (V9 E es n (Sb M) T v i x k (a:Int)))):=by
   have hsi:TY ((M.getD v default).getD k default) (a:Int)=some (Sb M v k a):=jY _ a (hM.le hn hv hk) (by omega)
   have hW:V9 E es n (Sb M) T v i x k (a:Int)=if Sb M v k a=true then Dm n fun c=>if Qc es (a:Int) (c:Int)=true then T (UO E v k) (Ub E v k) c else 0 else 0:=by
    unfold V9;rw [if_neg hki,EC]
   unfold Lp;have key:=Cf (fun z=>Gg (n:Int) (D:Int) ns es E ids inp M (v:Int) i t11 (k:Int) (Pt n (T (UO E v k) (Ub E v k))) (a:Int) z.1 z.2) (fun j=>(w.set a (D7 (if Sb M v k a=true then Dm j fun c=>if Qc es (a:Int) (c:Int)=true then T (UO E v k) (Ub E v k) c else 0 else 0)),(j:Int))) n (w.set a (D7 (V9 E es n (Sb M) T v i x k (a:Int)))) ?_ ?_
   ·have e0:w.set a (D7 (if Sb M v k a=true then Dm 0 fun c=>if Qc es (a:Int) (c:Int)=true then T (UO E v k) (Ub E v k) c else 0 else 0))=w:=by
     rw [UD,ite_self,(FE 0).2 rfl,←hwa];exact WX w a (by omega)
    rw [e0,Gn]at key;exact key
   ·intro j hj;simp only [Gg,EC,Nc];rw [if_pos (by omega),BL (by omega),BL (by omega),BL (by omega),hsi,Cz,K4 j (by omega)]
    cases hm:Sb M v k a with
    |false=>rfl
    |true=>
     rw [if_pos rfl,if_pos rfl,if_pos rfl,BL C.he,Ef]
     cases hh:Qc es (a:Int) (j:Int)with
     |false=>rfl
     |true=>
      rw [if_pos rfl,if_pos rfl,BL (by rw [Ki];omega),dm _ _ _ (by omega),V5 _ hj,UE,Cz,List.set_set]
   ·simp only [Gg,EC,Nc];rw [if_neg (by omega),hW]
  simp only [Gh,EC,M8];rw [if_pos (by omega),inner,Cz,K4 a (by omega)]
 ·intro w hw;simp only [Gh,EC,M8];rw [if_neg (by omega)]
theorem Y7{M:AY}(hM:OkM E n M): ∀(f F v:Nat) (i:Int),f≤F→A00 E f v i→(i= -1∨(0≤i∧i.toNat<(E.getD v default).length))→
  Ez F (n:Int) (D:Int) ns es E ids inp M (v:Int) i=some (if i<0 then [D7 (P9 E ns es n D (Sb M) f v i 0)]else Pt n fun a=>if Sb M v i.toNat a=true then P9 E ns es n D (Sb M) f v i a else 0)
 |0,F,v,i,_,hd,_=>hd.elim
 |f+1,0,v,i,hF,_,_=>by omega
 |f+1,F+1,v,i,hF,hd,hi=>by
  obtain⟨hv,hd⟩:=hd;have hn:=C.hn;have hl:=hM.len;have hr:=hM.row v hv;have hdeg:=C.hN.deg v hv;have hbig:=C.hN.big;show N7 (Ez F) (n:Int) (D:Int) ns es E ids inp M (v:Int) i=_
  unfold N7
  let T:Nat→Nat→Nat→Nat:=fun u j c=>if Sb M u j c=true then P9 E ns es n D (Sb M) f u (j:Int) c else 0
  have hways:Lt (Ez F) (n:Int) (D:Int) ns es E ids inp M (v:Int) i ([],0)=some ((List.range (E.getD v default).length).map fun(k:Nat)=>if(k:Int)=i then []else Pt n fun a=>V9 E es n (Sb M) T v i 0 k (a:Int)):=by
   unfold Lt;have key:=PZ (fun w=>Gj (Ez F) (n:Int) (D:Int) ns es E ids inp M (v:Int) i w.1 w.2) (List.range (E.getD v default).length) (fun(k:Nat)=>if(k:Int)=i then []else Pt n fun a=>V9 E es n (Sb M) T v i 0 k (a:Int)) ?_ ?_
   ·exact key
   ·intro k hk out ho;rw [Uc]at hk;simp only [Gj,EC,Ng];rw [if_pos (by omega),BL (by omega),BL (by omega),K4 k (by omega)]
    by_cases ci:(k:Int)=i
    ·rw [if_pos ci,if_pos ci,BL (by omega)]
    ·obtain⟨f1,f2,f3,f4,_,_⟩:=C.hN.at hv hk;have ih:=Y7 hM f F (UO E v k) (Ub E v k:Nat) (by omega) (hd k hk ci) (.inr (by omega))
     rw [if_neg (by omega),EC]at ih
     rw [if_neg ci,if_neg ci,f1,f2,ih,Cz,A2u C ids inp hM hv hk ci T out 0,Cz,BL (by omega)]
   ·intro out ho;simp only [Gj,EC,Uc];rw [if_neg (by omega)]
  have hsum: ∀a:Nat,(a<n∨i<0)→Oy (n:Int) (D:Int) ns es ((List.range (E.getD v default).length).map fun(k:Nat)=>if(k:Int)=i then []else Pt n fun a=>V9 E es n (Sb M) T v i 0 k (a:Int)) i (a:Int)=some (D7 (P9 E ns es n D (Sb M) (f+1) v i a)):=by
   intro a ha
   have hrel:RelW n i (a:Int) (wgs E es n (Sb M) T v i a) ((List.range (E.getD v default).length).map fun(k:Nat)=>if(k:Int)=i then []else Pt n fun a=>V9 E es n (Sb M) T v i 0 k (a:Int)):=by
    refine⟨by simp [wgs],fun k hk hki=> ?_,fun k hk hki b=> ?_⟩
    ·rw [WW]at hk;rw [Ao _ _ (by simpa using hk)]
     simp only [Ni,Ng];rw [if_neg hki]
     refine⟨Nc _ _,fun b hb=> ?_⟩
     rw [V5 _ hb,nW];unfold V9;rw [if_neg hki,if_neg hki]
    ·rw [nW];unfold V9;rw [if_pos hki]
   have hwl:=WW E es n (Sb M) T v i a;show _=some (D7 (Hw n (if(E.getD v default).length=D then sO ns else fun _=>1) (wgs E es n (Sb M) T v i a) []))
   by_cases hD:(E.getD v default).length=D
   ·rw [if_pos hD];have:=zy (n:=n) (ns:=ns) es (n:Int) hrel (by omega) (wJ C.hin) C.hs.1 C.hp (fun x hx=>⟨by have:=(C.hc x hx).1;omega,C.hcn x hx⟩)
    rw [show((wgs E es n (Sb M) T v i a).length:Int)=(D:Int) by omega]at this
    exact this
   ·rw [if_neg hD];refine wK (ns:=ns) es (n:Int) (D:Int) hrel (by omega) hn (by omega) (fun k hk hki=> ?_) ha
    rw [hwl]at hk;rw [Ao _ _ (by simpa using hk)]
    simp only [Ni,Ng];rw [if_pos hki]
  simp only [EC];rw [BL (by omega),hways,Cz]
  by_cases c0:i<0
  ·have ei:i= -1:=by omega
   have:=hsum 0 (.inr c0)
   rw [ei,Gn]at this;rw [if_pos c0,if_pos c0,ei,this];rfl
  ·rw [if_neg c0,if_neg c0,BL (by omega)]
   obtain⟨j,rfl⟩: ∃j:Nat,i=(j:Int):=⟨i.toNat,by omega⟩
   have hj:j<(E.getD v default).length:=by omega
   have hrow:=hM.row v hv;unfold Nb;have key:=Z8 (fun w=>Gl (n:Int) (D:Int) ns es M (v:Int) (j:Int) ((List.range (E.getD v default).length).map fun(k:Nat)=>if(k:Int)=(j:Int)then []else Pt n fun a=>V9 E es n (Sb M) T v (j:Int) 0 k (a:Int)) w.1 w.2) n (fun a=>D7 (if Sb M v j a=true then P9 E ns es n D (Sb M) (f+1) v (j:Int) a else 0)) ?_ ?_
   ·rw [key];rfl
   ·intro a w ha hw hwa;have hsi:TY ((M.getD v default).getD j default) (a:Int)=some (Sb M v j a):=jY _ a (hM.le hn hv hj) (by omega)
    simp only [Gl,EC,M8];rw [if_pos (by omega),BL (by omega),BL (by omega),hsi,Cz,K4 a (by omega)]
    cases hm:Sb M v j a with
    |true=>rw [if_pos rfl,if_pos rfl,hsum a (.inl ha),Cz,BL (by omega)]
    |false=>
     have e0:D7 (if false=true then P9 E ns es n D (Sb M) (f+1) v (j:Int) a else 0)=0:=rfl
     rw [if_neg (by decide),e0]
     have:w.set a 0=w:=by rw [←hwa];exact WX w a (by omega)
     rw [this]
   ·intro w hw;simp only [Gl,EC,M8];rw [if_neg (by omega)]
end
end Go.Proofs.YtiehjihckndgkaaGreat
