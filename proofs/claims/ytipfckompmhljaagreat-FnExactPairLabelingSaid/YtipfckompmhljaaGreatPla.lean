/- Labelings with a pair: program and reference agree. Conditions: those in each lemma. -/
import Derived.Test.YtipfckompmhljaaGreatL6
import Derived.Test.YtipfckompmhljaaGreatPlaA
import Derived.Test.YtipfckompmhljaaGreatTcl
import Derived.Test.YtipfckompmhljaaGreatRep
import Derived.Test.YtipfckompmhljaaGreatDst
import Derived.Test.YtipfckompmhljaaGreatPrt
namespace Go.Proofs.YtipfckompmhljaaGreat
open Go Dv
set_option linter.unusedSimpArgs false
set_option linter.unusedVariables false
set_option maxRecDepth 100000
theorem Yr{E:List (List (Int×Int))}{ids ins:List Int}(h:CG E ids ins=true):H5 E ids ins=some (R6 E):=by
 obtain⟨hn,_,_,_⟩:=DG h
 have hq:=LF h
 have inner: ∀v:Nat,v<E.length→ ∀out:List Int,out.length=E.length→ ∀r1:List Int,Ed E ids ins r1 (v:Int) (Id E v) (out,0)=some ((List.range E.length).map fun x=>if GE E v x=true then(v:Int)else out.getD x default):=by
  intro v hv out hout r1
  have hF:=Jf h v hv
  unfold Ed
  have key:=CD (fun w=>CH E ids ins r1 (v:Int) (Id E v) w.1 w.2) (fun i=>((List.range E.length).map fun x=>if x<i∧GE E v x=true then(v:Int)else out.getD x default,(i:Int))) E.length ((List.range E.length).map fun x=>if GE E v x=true then(v:Int)else out.getD x default) ?_ ?_
  ·have e:((List.range E.length).map fun x=>if x<0∧GE E v x=true then(v:Int)else out.getD x default)=out:=by
    refine List.ext_getElem (by simp [hout]) fun i h1 h2=> ?_
    simp only [List.getElem_map,List.getElem_range,Nat.not_lt_zero,false_and,if_false]
    exact Ar _ _ h2
   simp only [e,Int.natCast_zero]at key
   exact key
  ·intro i hi
   simp only [CH,Int.toNat_natCast,hF.len]
   rw [if_pos (Ak hi),Ac ⟨by omega,hi⟩,Gm i (by omega)]
   have hc:(0≤(Id E v).getD i default)↔GE E v i=true:=by unfold GE E7;rw [decide_eq_true_eq]
   by_cases c:GE E v i=true
   ·rw [if_pos (hc.2 c),Ac ⟨by omega,by simpa using hi⟩]
    congr 3
    refine List.ext_getElem (by simp) fun j h1 h2=> ?_
    simp only [List.length_set,List.length_map,List.length_range]at h1
    simp only [List.getElem_set,List.getElem_map,List.getElem_range]
    by_cases e:i=j
    ·subst e;rw [if_pos rfl,if_pos ⟨by omega,c⟩]
    ·rw [if_neg e]
     by_cases e2:j<i
     ·by_cases c2:GE E v j=true
      ·rw [if_pos ⟨e2,c2⟩,if_pos ⟨by omega,c2⟩]
      ·rw [if_neg (fun q=>c2 q.2),if_neg (fun q=>c2 q.2)]
     ·rw [if_neg (fun q=>e2 q.1),if_neg (fun q=>by omega)]
   ·rw [if_neg (fun q=>c (hc.1 q))]
    congr 3
    refine List.map_congr_left fun j _=> ?_
    by_cases c2:j<i∧GE E v j=true
    ·rw [if_pos c2,if_pos ⟨by omega,c2.2⟩]
    ·rw [if_neg c2,if_neg (fun q=>c2 ⟨by
      rcases Nat.lt_succ_iff_lt_or_eq.1 q.1 with h1 | h1
      ·exact h1
      ·exact absurd (h1▸q.2) c,q.2⟩)]
  ·simp only [CH,hF.len]
   rw [if_neg (AH _)]
   congr 2
   refine List.map_congr_left fun j hj=> ?_
   have hj:=List.mem_range.1 hj
   by_cases c2:GE E v j=true
   ·rw [if_pos ⟨hj,c2⟩,if_pos c2]
   ·rw [if_neg (fun q=>c2 q.2),if_neg c2]
 have key:=CD (fun w=>CI E ids ins (List.replicate E.length (-1)) w.1 w.2) (fun v=>(Ht (GE E) E.length v,(v:Int))) E.length (R6 E) ?_ ?_
 ·unfold H5 Ga
  rw [Qu (-1) (E.length:Int) (by omega),Option.bind_some,Int.toNat_natCast]
  simp only [am,Int.natCast_zero]at key
  rw [key];rfl
 ·intro v hv
  have hl:=X3 (GE E) E.length v
  simp only [CI,Int.toNat_natCast,List.length_replicate]
  rw [if_pos (Ak hv),Ac ⟨by omega,by omega⟩,Gm v (by omega)]
  by_cases c:0≤(Ht (GE E) E.length v).getD v default
  ·rw [if_pos c,an hq hv c]
  ·rw [if_neg c,Sl h v hv,Option.bind_some,inner v hv _ hl,Option.bind_some,eZ hq hv c]
 ·simp only [CI,List.length_replicate]
  rw [if_neg (AH _),eb hq];rfl
theorem gT{E:List (List (Int×Int))}{ids ins:List Int}(h:CG E ids ins=true)(v:Nat)(hv:v<E.length):LB E ids ins (v:Int) 40=some (((List.range E.length).filter (GE E v)).map fun(x:Nat)=>(x:Int)):=by
 obtain⟨hn,_,_,_⟩:=DG h
 have hF:=Jf h v hv
 unfold LB J7
 rw [Sn h v hv,Option.bind_some]
 have key:=CD (fun w=>FD 40 (Id E v) w.1 w.2) (fun i=>(((List.range i).filter (GE E v)).map fun(x:Nat)=>(x:Int),(i:Int))) E.length (((List.range E.length).filter (GE E v)).map fun(x:Nat)=>(x:Int)) ?_ ?_
 ·have e:(((List.range 0).filter (GE E v)).map fun(x:Nat)=>(x:Int))=[]:=rfl
  simp only [e,Int.natCast_zero]at key
  rw [key];rfl
 ·intro i hi
  have hl:(((List.range i).filter (GE E v)).map fun(x:Nat)=>(x:Int)).length≤i:=by
   rw [List.length_map];exact Nat.le_trans (List.length_filter_le _ _) (by simp)
  simp only [FD,Int.toNat_natCast,hF.len]
  rw [if_pos (Ak hi),Ac ⟨by omega,hi⟩,Gm i (by omega),List.range_succ,List.filter_append,List.map_append]
  have h1:=hF.hi i hi
  have hc:EB ((Id E v).getD i default) 0 40=GE E v i:=by
   unfold EB GE
   have:E7 (Id E v) i=(Id E v).getD i default:=rfl
   rw [Bool.eq_iff_iff,decide_eq_true_eq,decide_eq_true_eq,this]
   rw [this]at h1
   omega
  rw [hc]
  cases c:GE E v i with
  | true=>rw [if_pos rfl,Ac (by omega)];simp [c]
  | false=>rw [if_neg (by decide)];simp [c]
 ·simp only [FD,hF.len]
  rw [if_neg (AH _)]
theorem Ys(n:Nat)(P:Nat→Bool)(u:Nat)(h:AR n P=some u): ∃l:List Nat,(List.range n).filter P=u::l:=by
 unfold AR at h
 have:((List.range n).filter P).head? =some u:=by rw [List.head?_filter];exact h
 cases e:(List.range n).filter P with
 | nil=>rw [e]at this;cases this
 | cons a l=>rw [e]at this;simp at this;subst this;exact⟨l,rfl⟩
theorem Yt{E:List (List (Int×Int))}{ids ins:List Int}(h:CG E ids ins=true):Je E ids ins=some (R6 E):=by
 obtain⟨hn,_,_,_⟩:=DG h
 have hq:=LF h
 unfold Je I4
 have key:=Ml (fun v=>E3 E ids ins v.1 v.2) (List.range E.length) (fun x=>(P3 (GE E) E.length x:Int)) ?_ ?_
 ·rw [key];rfl
 ·intro i hi out ho
  rw [List.length_range]at hi
  obtain⟨l,hl⟩:=Ys _ _ _ (R5 hq hi)
  simp only [E3,List.getElem_range]
  rw [if_pos (Ak hi),gT h i hi,Option.bind_some,Gm i (by omega)]
  have e:(List.range E.length).filter (GE E i)=P3 (GE E) E.length i::l:=hl
  rw [e,Ac (by simp),Ac (by omega)]
  rfl
 ·intro out ho
  simp only [E3,List.length_range]
  rw [if_neg (AH _)]
def Gh(E:List (List (Int×Int)))(v:Nat):Int:=(E7 (Id E (P3 (GE E) E.length v)) v).tmod 2
theorem NN(E:List (List (Int×Int))):(R6 E).length=E.length:=by simp [R6]
theorem X4(E:List (List (Int×Int)))(v:Nat)(hv:v<E.length):(R6 E).getD v default=(P3 (GE E) E.length v:Int):=by
 rw [Ar _ _ (by rw [NN];exact hv)];simp [R6]
theorem X5{E:List (List (Int×Int))}{ids ins:List Int}(h:CG E ids ins=true)(v:Nat)(hv:v<E.length):Gh E v=0∨Gh E v=1:=by
 have hq:=LF h
 have hc:=Gg (R5 hq hv)
 have:GE E (P3 (GE E) E.length v) v=true:=hq.sym _ _ hv hc.1 hc.2
 have hm:0≤E7 (Id E (P3 (GE E) E.length v)) v:=of_decide_eq_true this
 unfold Gh
 rw [Int.tmod_eq_emod_of_nonneg hm]
 omega
def X6(E:List (List (Int×Int)))(v i:Nat):Bool:= !decide (Gh E v=Gh E (An (E.getD v default) i).toNat)
def ap(E:List (List (Int×Int))):Bool:=(List.range E.length).all fun v=>(List.range (E.getD v default).length).all (X6 E v)
theorem Jh(E:List (List (Int×Int)))(v:Nat)(hv:v<E.length):((List.range E.length).map (Gh E)).getD v default=Gh E v:=by
 rw [Ar _ _ (by simpa using hv)];simp
theorem Yu{E:List (List (Int×Int))}{ids ins:List Int}(h:CG E ids ins=true):DC E ids ins (R6 E) ([],0)=some ((List.range E.length).map (Gh E)):=by
 obtain⟨hn,_,_,_⟩:=DG h
 have hq:=LF h
 unfold DC
 refine Ml (fun v=>Bq E ids ins (R6 E) v.1 v.2) (List.range E.length) (Gh E) ?_ ?_
 ·intro i hi out ho
  rw [List.length_range]at hi
  have hc:=ZK hq hi
  simp only [Bq,Int.toNat_natCast,List.getElem_range,NN,X4 E i hi]
  rw [if_pos (Ak hi),Ac ⟨by omega,hi⟩,Sl h _ hc,Option.bind_some,Ac (by rw [(Jf h _ hc).len];omega),Ac (by omega),Gm i (by omega)]
  rfl
 ·intro out ho
  simp only [Bq,NN,List.length_range]
  rw [if_neg (AH _)]
theorem Yv{E:List (List (Int×Int))}{ids ins:List Int}(h:CG E ids ins=true):Ia E ids ins (R6 E) (List.replicate E.length 0,0)=some ((List.range E.length).map (Gh E)):=by
 obtain⟨hn,_,_,_⟩:=DG h
 have hq:=LF h
 unfold Ia
 have key:=QD (fun v=>G0 E ids ins (R6 E) v.1 v.2) (List.range E.length) (Gh E) (0:Int) ?_ ?_
 ·rwa [List.length_range]at key
 ·intro i hi out ho
  rw [List.length_range]at hi ho
  have hc:=ZK hq hi
  simp only [G0,Int.toNat_natCast,List.getElem_range,NN,X4 E i hi,List.length_replicate]
  rw [if_pos (Ak hi),Ac ⟨by omega,hi⟩,Sn h _ hc,Option.bind_some,Ac (by rw [(Jf h _ hc).len];omega),Ac (by omega),Gm i (by omega)]
  rfl
 ·intro out ho
  simp only [G0,List.length_replicate,List.length_range]
  rw [if_neg (AH _)]
def R7(E:List (List (Int×Int)))(v i:Nat):Bool:=decide ((v:Int)<An (E.getD v default) i)||(decide ((v:Int)=An (E.getD v default) i)&&decide ((i:Int)≤BJ (E.getD v default) i))
def XC(E:List (List (Int×Int)))(v:Nat):Nat→List (Int×Int×Int×Int)
 | 0=>[]
 | i+1=>if R7 E v i=true then XC E v i++[((v:Int),(i:Int),An (E.getD v default) i,BJ (E.getD v default) i)]else XC E v i
def So(E:List (List (Int×Int))):Nat→List (Int×Int×Int×Int)
 | 0=>[]
 | v+1=>So E v++XC E v (E.getD v default).length
theorem V3(E:List (List (Int×Int)))(v:Nat): ∀i,(XC E v i).length≤i
 | 0=>Nat.le_refl _
 | i+1=>by
  have:=V3 E v i
  unfold XC
  split
  ·rw [List.length_append,List.length_singleton];omega
  ·omega
theorem V4(E:List (List (Int×Int)))(h: ∀v,v<E.length→(E.getD v default).length≤6): ∀v,v≤E.length→(So E v).length≤6*v
 | 0,_=>Nat.le_refl _
 | v+1,hv=>by
  have h1:=V4 E h v (by omega)
  have h2:=V3 E v (E.getD v default).length
  have h3:=h v (by omega)
  unfold So
  rw [List.length_append];omega
theorem ZL(E:List (List (Int×Int)))(v:Nat)(x:Int×Int×Int×Int): ∀n,x∈XC E v n↔ ∃i,i<n∧R7 E v i=true∧x=((v:Int),(i:Int),An (E.getD v default) i,BJ (E.getD v default) i)
 | 0=>by simp [XC]
 | n+1=>by
  have ih:=ZL E v x n
  unfold XC
  split
  ·rename_i hc
   rw [List.mem_append,List.mem_singleton,ih]
   constructor
   ·rintro(⟨i,h1,h2,h3⟩ | h)
    ·exact⟨i,by omega,h2,h3⟩
    ·exact⟨n,by omega,hc,h⟩
   ·rintro⟨i,h1,h2,h3⟩
    by_cases e:i=n
    ·subst e;exact .inr h3
    ·exact .inl ⟨i,by omega,h2,h3⟩
  ·rename_i hc
   rw [ih]
   constructor
   ·rintro⟨i,h1,h2,h3⟩;exact⟨i,by omega,h2,h3⟩
   ·rintro⟨i,h1,h2,h3⟩
    by_cases e:i=n
    ·subst e;exact absurd h2 hc
    ·exact⟨i,by omega,h2,h3⟩
theorem NO(E:List (List (Int×Int)))(x:Int×Int×Int×Int): ∀n,x∈So E n↔ ∃v i,v<n∧i<(E.getD v default).length∧R7 E v i=true∧x=((v:Int),(i:Int),An (E.getD v default) i,BJ (E.getD v default) i)
 | 0=>by simp [So]
 | n+1=>by
  unfold So
  rw [List.mem_append,NO E x n,ZL]
  constructor
  ·rintro(⟨v,i,h1,h2⟩ | ⟨i,h1,h2⟩)
   ·exact⟨v,i,by omega,h2⟩
   ·exact⟨n,i,by omega,h1,h2⟩
  ·rintro⟨v,i,h1,h2,h3⟩
   by_cases e:v=n
   ·subst e;exact .inr ⟨i,h2,h3⟩
   ·exact .inl ⟨v,i,by omega,h2,h3⟩
theorem ec(E:List (List (Int×Int)))(v:Nat)(out:List (Int×Int×Int×Int))(hd:(E.getD v default).length≤6)(ho:out.length≤1000):
  Cm E (v:Int) (out,0)=some (out++XC E v (E.getD v default).length):=by
 unfold Cm
 have key:=CD (fun w=>Bf E (v:Int) w.1 w.2) (fun i=>(out++XC E v i,(i:Int))) (E.getD v default).length (out++XC E v (E.getD v default).length) ?_ ?_
 ·have e:((0:Nat):Int)=0:=rfl
  simp only [e,XC,List.append_nil]at key
  exact key
 ·intro i hi
  have hl:=V3 E v i
  have hlen:(out++XC E v i).length*4+4<1099511627776:=by rw [List.length_append];omega
  simp only [Bf,Int.toNat_natCast]
  rw [if_pos (Ak hi),Ac (by omega),Gm i (by omega)]
  have hc:R7 E v i=(decide ((v:Int)<An (E.getD v default) i)||(decide ((v:Int)=An (E.getD v default) i)&&decide ((i:Int)≤BJ (E.getD v default) i))):=rfl
  have hs:XC E v (i+1)=if R7 E v i=true then XC E v i++[((v:Int),(i:Int),An (E.getD v default) i,BJ (E.getD v default) i)]else XC E v i:=rfl
  rw [hs]
  by_cases c1:(v:Int)<An (E.getD v default) i
  ·rw [if_pos c1,Ac hlen,if_pos (by rw [hc,decide_eq_true c1];rfl),List.append_assoc]
  ·rw [if_neg c1]
   by_cases c2:(v:Int)=An (E.getD v default) i
   ·rw [if_pos c2]
    by_cases c3:(i:Int)≤BJ (E.getD v default) i
    ·rw [if_pos c3,Ac hlen,if_pos (by rw [hc,decide_eq_true c2,decide_eq_true c3,Bool.and_true,Bool.or_true]),List.append_assoc]
    ·rw [if_neg c3,if_neg (by rw [hc,decide_eq_false c1,decide_eq_false c3,Bool.and_false];simp)]
   ·rw [if_neg c2,if_neg (by rw [hc,decide_eq_false c1,decide_eq_false c2];simp)]
 ·simp only [Bf,Int.toNat_natCast]
  rw [if_neg (AH _)]
theorem ed(E:List (List (Int×Int)))(ids ins:List Int)(hE:E.length≤40)(hd: ∀v,v<E.length→(E.getD v default).length≤6):Ee E ids ins=some (So E E.length):=by
 unfold Ee ES
 have key:=CD (fun w=>Bg E w.1 w.2) (fun v=>(So E v,(v:Int))) E.length (So E E.length) ?_ ?_
 ·have e:((0:Nat):Int)=0:=rfl
  simp only [e]at key
  rw [show(([],0):List (Int×Int×Int×Int)×Int)=(So E 0,0)from rfl,key];rfl
 ·intro v hv
  have hl:=V4 E hd v (by omega)
  simp only [Bg]
  rw [if_pos (Ak hv),Ac (by omega),ec E v _ (hd v hv) (by omega),Option.bind_some,Gm v (by omega)]
  rfl
 ·simp only [Bg]
  rw [if_neg (AH _)]
theorem gU{E:List (List (Int×Int))}{ids ins:List Int}(h:CG E ids ins=true){v i w p:Nat}(hv:v<E.length)(hi:i<(E.getD v default).length)(e1:An (E.getD v default) i=(w:Int))(e2:BJ (E.getD v default) i=(p:Int))(b1:An (E.getD w default) p=(v:Int))(b2:BJ (E.getD w default) p=(i:Int))(hw:w<E.length)(hp:p<(E.getD w default).length):
  ((v:Int),(i:Int),(w:Int),(p:Int))∈So E E.length∨((w:Int),(p:Int),(v:Int),(i:Int))∈So E E.length:=by
 by_cases c:R7 E v i=true
 ·left
  exact(NO E _ E.length).2 ⟨v,i,hv,hi,c,by rw [e1,e2]⟩
 ·right
  refine(NO E _ E.length).2 ⟨w,p,hw,hp, ?_,by rw [b1,b2]⟩
  unfold R7 at c ⊢
  rw [e1,e2]at c
  rw [b1,b2]
  simp only [Bool.or_eq_true,Bool.and_eq_true,decide_eq_true_eq,not_or,not_and]at c ⊢
  omega
def Yw(E:List (List (Int×Int)))(x:Int×Int×Int×Int):Bool:= !decide (Gh E x.1.toNat=Gh E x.2.2.1.toNat)
theorem aq{E:List (List (Int×Int))}{ids ins:List Int}(h:CG E ids ins=true):(So E E.length).all (Yw E)=ap E:=by
 obtain⟨_,_,_,hp⟩:=DG h
 rw [Bool.eq_iff_iff,List.all_eq_true]
 unfold ap
 rw [BW]
 constructor
 ·intro ha v hv
  refine BW.2 fun i hi=> ?_
  obtain⟨w,p,e1,e2,hw,hpl,b1,b2⟩:=hp v i hv hi
  unfold X6
  rw [e1,Int.toNat_natCast]
  rcases gU h hv hi e1 e2 b1 b2 hw hpl with hm | hm
  ·have:=ha _ hm
   unfold Yw at this
   simpa using this
  ·have:=ha _ hm
   unfold Yw at this
   simp only [Int.toNat_natCast,Bool.not_eq_true',decide_eq_false_iff_not]at this ⊢
   exact fun e=>this e.symm
 ·intro ha x hx
  obtain⟨v,i,hv,hi,_,rfl⟩:=(NO E x E.length).1 hx
  have:=BW.1 (ha v hv) i hi
  unfold X6 at this
  unfold Yw
  simpa using this
theorem ee{E:List (List (Int×Int))}{ids ins:List Int}(h:CG E ids ins=true):DD ((List.range E.length).map (Gh E)) (So E E.length) 0=some (if ap E=true then .inr ()else .inl ()):=by
 obtain⟨hn,_,hd,hp⟩:=DG h
 have hl:=V4 E hd E.length (Nat.le_refl _)
 rw [←aq h,←Mk (Yw E)]
 unfold DD
 refine CE (fun v=>Br ((List.range E.length).map (Gh E)) (So E E.length) v) (fun i=>(i:Int)) (So E E.length).length (fun i=>Yw E ((So E E.length).getD i default)) (.inl ()) (.inr ()) ?_ ?_
 ·intro t ht
  obtain⟨v,i,hv,hi,_,hx⟩:=(NO E _ E.length).1 (List.getElem_mem ht)
  obtain⟨w,p,e1,e2,hw,hpl,_,_⟩:=hp v i hv hi
  have ha:av (So E E.length) t=(v:Int):=by unfold av;rw [Ar _ _ ht,hx]
  have hc:aw (So E E.length) t=(w:Int):=by unfold aw;rw [Ar _ _ ht,hx];exact e1
  have hg:(So E E.length).getD t default=((v:Int),(i:Int),(w:Int),(p:Int)):=by rw [Ar _ _ ht,hx,e1,e2]
  simp only [Br,Int.toNat_natCast,ha,hc,Jh E v hv,Jh E w hw,hg]
  rw [if_pos (Ak ht),Ac ⟨by omega,ht⟩,Ac (by simp;omega),Ac (by simp;omega),Gm t (by omega)]
  have eg:Yw E ((v:Int),(i:Int),(w:Int),(p:Int))= !decide (Gh E v=Gh E w):=rfl
  rw [eg]
  by_cases c:Gh E v=Gh E w
  ·rw [if_pos c,if_neg (by simp [c])]
  ·rw [if_neg c,if_pos (by simp [c])]
 ·simp only [Br]
  rw [if_neg (AH _)]
theorem ef{E:List (List (Int×Int))}{ids ins:List Int}(h:CG E ids ins=true):Ic E ids ins ((List.range E.length).map (Gh E)) 0=some (if ap E=true then .inr ()else .inl ()):=by
 obtain⟨hn,_,hd,hp⟩:=DG h
 have inner: ∀v:Nat,v<E.length→Ib E ids ins ((List.range E.length).map (Gh E)) (v:Int) (Cn E v) 0=some (if(List.range (E.getD v default).length).all (X6 E v)=true then .inr ()else .inl ()):=by
  intro v hv
  have h6:=hd v hv
  rw [←Hn]
  unfold Ib
  refine CE (fun x=>G1 E ids ins ((List.range E.length).map (Gh E)) (v:Int) (Cn E v) x) (fun i=>(i:Int)) (Cn E v).length (X6 E v) (.inl ()) (.inr ()) ?_ ?_
  ·intro i hi
   have hi':i<(E.getD v default).length:=by rwa [Hn]at hi
   obtain⟨w,p,e1,_,hw,_⟩:=hp v i hv hi'
   have e:(Cn E v).getD i default=(w:Int):=by rw [Ar _ _ hi,NL,e1]
   simp only [G1,Int.toNat_natCast,e,Jh E v hv,Jh E w hw]
   rw [if_pos (Ak hi),Ac ⟨by omega,hi⟩,Ac (by simp;omega),Ac (by simp;omega),Gm i (by omega)]
   unfold X6
   rw [e1,Int.toNat_natCast]
   by_cases c:Gh E v=Gh E w
   ·rw [if_pos c,decide_eq_true c];rfl
   ·rw [if_neg c,decide_eq_false c];rfl
  ·simp only [G1]
   rw [if_neg (AH _)]
 unfold Ic ap
 refine CE (fun x=>G2 E ids ins ((List.range E.length).map (Gh E)) x) (fun i=>(i:Int)) E.length (fun v=>(List.range (E.getD v default).length).all (X6 E v)) (.inl ()) (.inr ()) ?_ ?_
 ·intro v hv
  simp only [G2,List.length_map,List.length_range]
  rw [if_pos (Ak hv),Sm E ids ins v hv (hd v hv),Option.bind_some,inner v hv,Option.bind_some,Gm v (by omega)]
  cases (List.range (E.getD v default).length).all (X6 E v)<;>rfl
 ·simp only [G2,List.length_map,List.length_range]
  rw [if_neg (AH _)]
theorem eh(E:List (List (Int×Int)))(ids ins:List Int)(hE:BH E)(h2:ids.length<1099511627776)(h3:ins.length<1099511627776):
  ∃l ok,Fb E ids ins=some (l,ok)∧FY E ids ins=some (l,ok)∧(ok=true→CG E ids ins=true∧l=(List.range E.length).map (Gh E)):=by
 unfold Fb FY
 rw [Ac hE,Ac h2,Ac h3,Ac hE,Ac h2,Ac h3]
 by_cases h:CG E ids ins=true
 ·obtain⟨hn,_,hd,_⟩:=DG h
  rw [if_pos h,if_pos h]
  unfold PJ
  rw [Ac (by omega),Yt h,Option.bind_some,Yv h,Option.bind_some,ef h,Option.bind_some,Yr h,Option.bind_some,Yu h,Option.bind_some,ed E ids ins hn hd,Option.bind_some,ee h,Option.bind_some]
  cases ap E with
  | true=>exact⟨_,_,rfl,rfl,fun _=>⟨h,rfl⟩⟩
  | false=>exact⟨_,_,rfl,rfl,fun hc=>by cases hc⟩
 ·rw [if_neg h,if_neg h];exact⟨_,_,rfl,rfl,fun hc=>by cases hc⟩
def X7(c:List Int)(p:Nat):List Int:=if p=c.length then c else List.replicate p (c.getD 0 default)
theorem ei(c:List Int)(p:Nat):(X7 c p).length=p:=by
 unfold X7
 split
 ·rename_i h;exact h.symm
 ·simp
theorem LG(c:List Int)(p:Nat)(h1:1≤c.length)(h2:c.length≤4)(hp:p<1099511627776):FZ c (p:Int)=some (X7 c p):=by
 unfold FZ X7
 by_cases h:p=c.length
 ·rw [if_pos (by omega),if_pos h,Ac (by omega)]
 ·rw [if_neg (by omega),if_neg h,Ac h1]
  rcases c with _ | ⟨x,c⟩
  ·simp at h1
  ·rw [show((x::c).take 1).drop 0=[x]from rfl,Qu x (p:Int) (by omega)]
   simp
theorem R8(a d:Int)(ns es:List (List Int))(c:List Int)(p:Nat)(h1:1≤c.length)(h2:c.length≤4)(hd:(c.length:Int)=d)(hp:p<1099511627776):LY a d ns es c (p:Int)=some (X7 c p):=by
 unfold LY X7
 by_cases h:p=c.length
 ·rw [if_pos (by omega),if_pos h]
  unfold K2
  rw [Ac (by omega)];rfl
 ·rw [if_neg (by omega),if_neg h,Ac (by omega)]
  have key:=QD (fun v=>G6 c (p:Int) v.1 v.2) (List.replicate p (0:Int)) (fun _=>c.getD 0 default) (0:Int) ?_ ?_
  ·rw [List.length_replicate,List.map_replicate]at key
   unfold KC
   rw [Int.toNat_natCast,key];rfl
  ·intro i hi out ho
   rw [List.length_replicate]at hi ho
   simp only [G6,Int.toNat_natCast,List.length_replicate]
   rw [if_pos (Ak hi),Ac (by omega),Ac (by omega),Gm i (by omega)]
  ·intro out ho
   simp only [G6,Int.toNat_natCast,List.length_replicate]
   rw [if_neg (AH _)]
theorem gV: ∀ {l:List (List Int)},(∀x∈l,x.length≤6)→Aw l≤6*l.length:=by
 intro l
 induction l with
 | nil=>intro _;rw [Jw];simp
 | cons x l ih=>
  intro h
  have h1:=ih (fun y hy=>h y (List.mem_cons_of_mem _ hy))
  have h2:=h x List.mem_cons_self
  rw [GK,List.length_cons]
  omega
theorem ej{a d:Int}{ns es:List (List Int)}(hn:Ab ns)(he:Ab es): ∃x y ok,IZ a d ns es=some (x,y,ok)∧IY a d ns es=some (x,y,ok)∧(ok=true→((x.length:Int)=d∧1≤x.length∧x.length≤4)∧((y.length:Int)=d∧1≤y.length∧y.length≤4)):=by
 unfold IZ IY
 rw [Ac hn,Ac he,Ac hn,Ac he]
 by_cases h:Gf a d ns es=true
 ·rw [if_pos h,if_pos h]
  obtain⟨_,hd,c1,c2⟩:=Ya h
  have hi:=ae c2
  rw [Ws a d ns es hn he,Ny a d ns es hn he hi,Option.bind_some,Option.bind_some]
  have len: ∀i,i<ns.length→((ns.getD i default).length:Int)=d:=fun i hi=>(dR c1 (Mx.2 ⟨i,hi,rfl⟩)).1
  cases hq:M5 ns.length ns.length (DK ns es)with
  | none=>exact⟨_,_,_,rfl,rfl,fun hc=>by cases hc⟩
  | some q=>
   obtain⟨q1,q2⟩:=aj hq
   have l1:=len q.1 q1
   have l2:=len q.2 q2
   refine⟨ns.getD q.1 default,ns.getD q.2 default,true, ?_,rfl,fun _=>⟨⟨l1,by omega,by omega⟩,⟨l2,by omega,by omega⟩⟩⟩
   simp only [K2,if_true,Int.toNat_natCast]
   rw [Ac (by omega),Ac (by omega),Option.bind_some,Ac (by omega),Ac (by omega),Option.bind_some]
 ·rw [if_neg h,if_neg h]
  exact⟨_,_,_,rfl,rfl,fun hc=>by cases hc⟩
theorem gW(a d:Int)(ns es:List (List Int))(E:List (List (Int×Int)))(ids ins:List Int)(hn:Ab ns)(he:Ab es)(hE:BH E)(h2:ids.length<1099511627776)(h3:ins.length<1099511627776):
  ∃r ok,Fc a d ns es E ids ins=some (r,ok)∧Fa a d ns es E ids ins=some (r,ok)∧Ab r∧Aw r≤240:=by
 obtain⟨x,y,ok,hS,hI,hok⟩:=ej (a:=a) (d:=d) hn he
 obtain⟨l,ok2,hS2,hI2,hok2⟩:=eh E ids ins hE h2 h3
 unfold Fc Fa
 rw [hS,hI,hS2,hI2]
 simp only [Option.bind_some]
 cases ok with
 | false=>exact⟨_,_,rfl,rfl,Ab.nil,by rw [Jw];omega⟩
 | true=>
  cases ok2 with
  | false=>exact⟨_,_,rfl,rfl,Ab.nil,by rw [Jw];omega⟩
  | true=>
   obtain⟨⟨x1,x2,x3⟩,y1,y2,y3⟩:=hok rfl
   obtain⟨h,rfl⟩:=hok2 rfl
   obtain⟨h1,_,hd,_⟩:=DG h
   simp only [if_true]
   let g:Nat→List Int:=fun v=>X7 ([x,y].getD (Gh E v).toNat default) (E.getD v default).length
   have k1:DE E (x,y,true) ((List.range E.length).map (Gh E),true) ([],0)=some ((List.range E.length).map g):=by
    unfold DE
    refine Ml (fun v=>Bu E (x,y,true) ((List.range E.length).map (Gh E),true) v.1 v.2) (List.range E.length) g ?_ ?_
    ·intro i hi out ho
     rw [List.length_range]at hi
     have hx:=hd i hi
     simp only [Bu,Int.toNat_natCast,Jh E i hi,List.getElem_range]
     have h01:=X5 h i hi
     rw [if_pos (Ak hi),Ac ⟨by omega,hi⟩,Ac (by simp;omega),Ac (by omega),Ac (by omega),Gm i (by omega)]
     rcases h01 with c | c
     ·rw [c]
      show(FZ x _).bind _=_
      rw [LG x _ x2 x3 (by omega),Option.bind_some,Ac (by omega)]
      simp only [g,c];rfl
     ·rw [c]
      show(FZ y _).bind _=_
      rw [LG y _ y2 y3 (by omega),Option.bind_some,Ac (by omega)]
      simp only [g,c];rfl
    ·intro out ho
     simp only [Bu,List.length_range]
     rw [if_neg (AH _)]
   have k2:DF a d ns es E (x,y,true) ((List.range E.length).map (Gh E),true) ([],0)=some ((List.range E.length).map g):=by
    unfold DF
    refine Ml (fun v=>Bw a d ns es E (x,y,true) ((List.range E.length).map (Gh E),true) v.1 v.2) (List.range E.length) g ?_ ?_
    ·intro i hi out ho
     rw [List.length_range]at hi
     have hx:=hd i hi
     simp only [Bw,Int.toNat_natCast,Jh E i hi,List.getElem_range]
     have h01:=X5 h i hi
     rw [if_pos (Ak hi),Ac ⟨by omega,hi⟩,Ac (by simp;omega)]
     rcases h01 with c | c
     ·rw [if_pos c,R8 a d ns es x _ x2 x3 x1 (by omega),Option.bind_some,Ac (by omega),Gm i (by omega)]
      simp only [g,c];rfl
     ·rw [if_neg (by omega),R8 a d ns es y _ y2 y3 y1 (by omega),Option.bind_some,Ac (by omega),Gm i (by omega)]
      simp only [g,c];rfl
    ·intro out ho
     simp only [Bw,List.length_range]
     rw [if_neg (AH _)]
   rw [k1,k2]
   have six: ∀z∈((List.range E.length).map g),z.length≤6:=by
    intro z hz
    obtain⟨v,hv,rfl⟩:=List.mem_map.1 hz
    have hv:=List.mem_range.1 hv
    show(X7 _ _).length≤6
    rw [ei]
    exact hd v hv
   have ht:=gV six
   rw [List.length_map,List.length_range]at ht
   exact⟨_,_,rfl,rfl,⟨by rw [List.length_map,List.length_range];omega,fun z hz=>by have:=six z hz;omega⟩,by omega⟩
end Go.Proofs.YtipfckompmhljaaGreat
