/- A connected network is a forest exactly where all its edges are in the tree: the count. Conditions: those in each lemma. -/
import Derived.Test.YtipfckompmhljaaL6
import Derived.Test.YtipfckompmhljaaTwt
namespace Go.Proofs.Ytipfckompmhljaa
open Go Dv
set_option linter.unusedSimpArgs false
set_option linter.unusedVariables false
set_option maxRecDepth 100000
def lU(E:List (List (Int×Int)))(v:Nat):Ed:=
 if JE E v (NN E (BJ E 0) v).toNat=true then((v:Int),NN E (BJ E 0) v,BA (E.getD v default) (NN E (BJ E 0) v).toNat,Bc (E.getD v default) (NN E (BJ E 0) v).toNat)
 else(BA (E.getD v default) (NN E (BJ E 0) v).toNat,Bc (E.getD v default) (NN E (BJ E 0) v).toNat,(v:Int),NN E (BJ E 0) v)
theorem Oo{E:List (List (Int×Int))}{ids ins:List Int}(h:Bj E ids ins=true)(hc:Qh E=true)(v:Nat)(hv:v<E.length)(h0:v≠0):
  ∃i w j:Nat,i<(E.getD v default).length∧w<E.length∧j<(E.getD w default).length∧NN E (BJ E 0) v=(i:Int)∧BA (E.getD v default) i=(w:Int)∧Bc (E.getD v default) i=(j:Int)∧BA (E.getD w default) j=(v:Int)∧Bc (E.getD w default) j=(i:Int)∧
   (BJ E 0).getD w default=(BJ E 0).getD v default-1∧((JE E v i=true∧lU E v=((v:Int),(i:Int),(w:Int),(j:Int)))∨(JE E w j=true∧JE E v i=false∧lU E v=((w:Int),(j:Int),(v:Int),(i:Int)))):=by
 obtain⟨i,w,j,h1,h2,h3,h4,h5,h6,h7,h8,h9,_⟩:=lG h hc v hv h0
 refine⟨i,w,j,h1,h5,h6,h2,h3,h4,h7,h8,h9, ?_⟩
 unfold lU;rw [h2,Int.toNat_natCast,h3,h4]
 cases hcond:JE E v i with
 | true=>exact .inl ⟨rfl,by rw [if_pos rfl]⟩
 | false=>
  refine .inr ⟨?_,rfl,by rw [if_neg (by decide)]⟩
  unfold JE at hcond ⊢;rw [h3,h4]at hcond;rw [h7,h8];simp only [Bool.or_eq_false_iff,decide_eq_false_iff_not,Bool.and_eq_false_iff]at hcond;have hne:v≠w:=fun e=>by subst e;omega
  rw [decide_eq_true (by omega:(w:Int)<(v:Int))];rfl
theorem TP(E:List (List (Int×Int)))(v:Nat)(hv:v<E.length):(E5 E (BJ E 0) E.length).getD v default=NN E (BJ E 0) v:=by
 rw [Av _ _ (by rw [Om];exact hv)]
 simp [E5]
theorem jH{E:List (List (Int×Int))}{ids ins:List Int}(h:Bj E ids ins=true)(hc:Qh E=true)(v:Nat)(hv:v<E.length)(h0:v≠0):
  lU E v∈F9 E E.length∧G7 (E5 E (BJ E 0) E.length) (lU E v)=true∧Qj (lU E v)=false:=by
 obtain⟨i,w,j,h1,h5,h6,h2,h3,h4,h7,h8,h9,hh⟩:=Oo h hc v hv h0;have hne:v≠w:=fun e=>by subst e;omega
 rcases hh with⟨hcd,e⟩ | ⟨hcd,_,e⟩
 ·rw [e]
  refine⟨(Jb E _ _).2 ⟨v,i,hv,h1,hcd,by rw [h3,h4]⟩, ?_, ?_⟩
  ·unfold G7;simp only [Int.toNat_natCast,Bool.or_eq_true,decide_eq_true_eq];exact .inl (by rw [TP E v hv,h2])
  ·unfold Qj;simp only;rw [decide_eq_false (by omega)];rfl
 ·rw [e]
  refine⟨(Jb E _ _).2 ⟨w,j,h5,h6,hcd,by rw [h7,h8]⟩, ?_, ?_⟩
  ·unfold G7;simp only [Int.toNat_natCast,Bool.or_eq_true,decide_eq_true_eq];exact .inr (by rw [TP E v hv,h2])
  ·unfold Qj;simp only;rw [decide_eq_false (by omega)];rfl
theorem vV{E:List (List (Int×Int))}{ids ins:List Int}(h:Bj E ids ins=true)(hc:Qh E=true)(v v':Nat)(hv:v<E.length)(hv':v'<E.length)(h0:v≠0)(h0':v'≠0)(he:lU E v=lU E v'):v=v':=by
 obtain⟨i,w,j,_,_,_,_,_,_,_,_,h9,hh⟩:=Oo h hc v hv h0;obtain⟨i',w',j',_,_,_,_,_,_,_,_,h9',hh'⟩:=Oo h hc v' hv' h0';rcases hh with⟨_,e⟩ | ⟨_,_,e⟩<;>rcases hh' with⟨_,e'⟩ | ⟨_,_,e'⟩<;>rw [e,e']at he<;>simp only [Prod.mk.injEq]at he
 ·omega
 ·have e1:v=w':=by omega
  have e2:w=v':=by omega
  subst e1 e2;omega
 ·have e1:w=v':=by omega
  have e2:v=w':=by omega
  subst e1 e2;omega
 ·omega
theorem jI{E:List (List (Int×Int))}{ids ins:List Int}(h:Bj E ids ins=true)(hc:Qh E=true)(x:Ed)(hx:x∈F9 E E.length)(ht:G7 (E5 E (BJ E 0) E.length) x=true): ∃v,v<E.length∧v≠0∧x=lU E v:=by
 obtain⟨p1,p2,p3,p4⟩:=Dj h;have hF:=Mk h 0 (by omega)
 have z0:(BJ E 0).getD 0 default=0:=by
  have:=hF.all 0 0 Rch.z
  unfold GM at this;omega
 have hz:NN E (BJ E 0) 0= -1:=by
  unfold NN;rw [z0];have:EC (E.getD 0 default).length (fun i=>decide ((0:Int)<0)&&decide ((BJ E 0).getD (BA (E.getD 0 default) i).toNat default=0-1))=none:=Qf fun i _=>rfl
  rw [this]
 obtain⟨v,i,hv,hi,hcd,rfl⟩:=(Jb E x _).1 hx;obtain⟨w,j,f1,f2,hw,hj,f3,f4⟩:=p4 v i hv hi;unfold G7 at ht;simp only [Int.toNat_natCast,f1,f2,Bool.or_eq_true,decide_eq_true_eq]at ht;rw [TP E v hv,TP E w hw]at ht;rcases ht with ht | ht
 ·have h0:v≠0:=fun e=>by subst e;rw [hz]at ht;omega
  refine⟨v,hv,h0, ?_⟩
  unfold lU;rw [ht,Int.toNat_natCast,if_pos hcd]
 ·have h0:w≠0:=fun e=>by subst e;rw [hz]at ht;omega
  refine⟨w,hw,h0, ?_⟩
  obtain⟨i',w',j',_,_,_,g2,g3,g4,_,_,g9,hh⟩:=Oo h hc w hw h0;have ei:i'=j:=by omega
  subst ei;rw [f3]at g3;rw [f4]at g4;have ew:w'=v:=by omega
  subst ew;have hne:w≠w':=fun e=>by subst e;omega
  rcases hh with⟨hcd',e⟩ | ⟨_,_,e⟩
  ·unfold JE at hcd hcd';rw [f1,f2]at hcd;rw [f3,f4]at hcd';simp only [Bool.or_eq_true,Bool.and_eq_true,decide_eq_true_eq]at hcd hcd';omega
  ·rw [e,f1,f2,g4]
theorem bu{E:List (List (Int×Int))}{ids ins:List Int}(h:Bj E ids ins=true)(hc:Qh E=true):
  (!(F9 E E.length).any Qj&&decide (((F9 E E.length).length:Int)=(E.length:Int)-1))= !(F9 E E.length).any fun x=> !G7 (E5 E (BJ E 0) E.length) x:=by
 obtain⟨p1,p2,_,_⟩:=Dj h
 have hV: ∀x,x∈(List.range (E.length-1)).map (· +1)↔x<E.length∧x≠0:=by
  intro x;rw [List.mem_map]
  constructor
  ·rintro⟨y,hy,rfl⟩
   have:=List.mem_range.1 hy
   omega
  ·rintro⟨h1,h2⟩
   exact⟨x-1,List.mem_range.2 (by omega),by omega⟩
 have hM:(((List.range (E.length-1)).map (· +1)).map (lU E)).Nodup:=by
  unfold List.Nodup;rw [List.pairwise_map]
  have hn:((List.range (E.length-1)).map (· +1)).Nodup:=by
   unfold List.Nodup;rw [List.pairwise_map];exact List.nodup_range.imp fun hab=>by omega
  refine List.Pairwise.imp_of_mem (fun {a b} ha hb hab he=>hab ?_) hn;exact vV h hc a b ((hV a).1 ha).1 ((hV b).1 hb).1 ((hV a).1 ha).2 ((hV b).1 hb).2 he
 have hFn:((F9 E E.length).filter (G7 (E5 E (BJ E 0) E.length))).Nodup:=(RZ E E.length).filter _
 have l1:=ZE _ (((List.range (E.length-1)).map (· +1)).map (lU E)) hFn fun x hx=>by
  obtain⟨m1,m2⟩:=List.mem_filter.1 hx;obtain⟨v,a1,a2,rfl⟩:=jI h hc x m1 m2;exact List.mem_map.2 ⟨v,(hV v).2 ⟨a1,a2⟩,rfl⟩
 have l2:=ZE _ ((F9 E E.length).filter (G7 (E5 E (BJ E 0) E.length))) hM fun x hx=>by
  obtain⟨v,hv,rfl⟩:=List.mem_map.1 hx;obtain⟨a1,a2⟩:=(hV v).1 hv;obtain⟨m1,m2,_⟩:=jH h hc v a1 a2;exact List.mem_filter.2 ⟨m1,m2⟩
 rw [List.length_map,List.length_map,List.length_range]at l1 l2
 cases hA:(F9 E E.length).any fun x=> !G7 (E5 E (BJ E 0) E.length) x with
 | true=>
  obtain⟨x,hx,hn⟩:=List.any_eq_true.1 hA
  have:((F9 E E.length).filter (G7 (E5 E (BJ E 0) E.length))).length<(F9 E E.length).length:=by
   rw [List.length_filter_lt_length_iff_exists]
   exact⟨x,hx,by simpa using hn⟩
  rw [decide_eq_false (by omega),Bool.and_false];rfl
 | false=>
  have hall: ∀x∈F9 E E.length,G7 (E5 E (BJ E 0) E.length) x=true:=fun x hx=>by
   have:=List.any_eq_false.1 hA x hx
   simpa using this
  have hs:(F9 E E.length).any Qj=false:=by
   rw [List.any_eq_false];intro x hx;obtain⟨v,a1,a2,rfl⟩:=jI h hc x hx (hall x hx);rw [(jH h hc v a1 a2).2.2];decide
  rw [List.filter_eq_self.2 hall]at l1 l2;rw [hs,decide_eq_true (by omega)];rfl
end Go.Proofs.Ytipfckompmhljaa
