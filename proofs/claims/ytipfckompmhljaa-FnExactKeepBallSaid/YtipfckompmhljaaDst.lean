/- Distances: program and reference agree. Conditions: the network is one. -/
import Derived.Test.YtipfckompmhljaaL6
import Derived.Test.YtipfckompmhljaaDstA
import Derived.Test.YtipfckompmhljaaBfs
import Derived.Test.YtipfckompmhljaaPrt
import Derived.Test.YtipfckompmhljaaRep
namespace Go.Proofs.Ytipfckompmhljaa
open Go Dv
set_option linter.unusedSimpArgs false
set_option linter.unusedVariables false
set_option maxRecDepth 100000
def Qe(E:List (List (Int×Int)))(v:Nat):List Int:=bfs (GZ E) E.length (J6 E.length v) [(v:Int)]
theorem Qf(w:Nat): ∀(xs:List Int) (s:List Int×List Int),xs.foldl (fun b x=>CY w [x] b) s=CY w xs s
 | [],_=>rfl
 | x::xs,s=>by
  rw [List.foldl_cons,Qf w xs]
  exact(LU w [x] xs s).symm
theorem Xl(E:List (List (Int×Int)))(ids ins:List Int)(n v w:Nat)(d:Int)(hn:n≤40)(hd:(E.getD w default).length≤6)(hA: ∀y∈GZ E w,0≤y∧y.toNat<n)(queue o q:List Int)(hw:queue.getD 0 default=(w:Int))(hM:MidB (GZ E) n v w d [] o q):
  FO E ids ins queue (o,q,0)=some (CY w (GZ E w) (o,q)):=by
 have key:=lY (fun x=>Cf E ids ins queue x.1 x.2.1 x.2.2) (fun i (b:List Int×List Int)=>(b.1,b.2,(i:Int))) (fun _ b=> ∃don,MidB (GZ E) n v w d don b.1 b.2) (GZ E w) (fun b x=>CY w [x] b) (fun b=>b) ?_ ?_ (o,q) ⟨[],hM⟩
 ·rw [Qf]at key
  exact key.1
 ·rintro i ⟨o',q'⟩ hi ⟨don,h⟩
  have hx:(GZ E w)[i]∈GZ E w:=List.getElem_mem hi
  have h0:=hA _ hx
  refine⟨?_,_,h.step hx h0⟩
  have e:=Tu E w i hi
  rw [Lp]at hi
  have hb:=h.bd
  have hl:=h.len
  have hwn:=h.wn
  have how:=h.ow
  have hd0:=h.d0
  dsimp only at hb hl how
  simp only [Cf,hw,Int.toNat_natCast,←e]
  rw [if_pos (BV hi),BL ⟨by omega,hi⟩,BL (by omega),KH i (by omega)]
  simp only [CY]
  by_cases hneg:Ef o' (GZ E w)[i].toNat<0
  ·rw [if_pos hneg,if_pos (by exact hneg),BL (by omega),BL (by omega)]
   have:IntKind.i64.wrap (o'.getD w default+1)=Ef o' w+1:=by
    show IntKind.i64.wrap (Ef o' w+1)=_
    rw [LP _ (by omega)]
   rw [this]
  ·rw [if_neg hneg,if_neg (by exact hneg)]
 ·rintro⟨o',q'⟩ _
  simp only [Cf,hw,Int.toNat_natCast]
  rw [Lp,if_neg (Ag _)]
theorem Ve{E:List (List (Int×Int))}{ids ins:List Int}(h:Eg E ids ins=true)(v:Nat)(hv:v<E.length):FinB (GZ E) E.length v (Qe E v):=by
 obtain⟨i1,i2,i3⟩:=Tm (GZ E) E.length v hv
 have:=ZX (GZ E) E.length v hv (MS h) (fun s:List Int×List Int=>match s.2 with | []=>some (.inr s.1) | w::q=>some (.inl (CY w.toNat (GZ E w.toNat) (s.1,q)))) (fun _ o q=>(o,q)) (fun o=>o) (fun _ _ _ _ _ _=>rfl) (fun _ _ _ _=>rfl)
  E.length [] (J6 E.length v) [(v:Int)] i1 (by simp only [List.length_singleton];omega) i3 (by simp only [List.length_singleton,List.length_nil];omega)
 exact this.2
theorem iR{E:List (List (Int×Int))}{ids ins:List Int}(h:Eg E ids ins=true)(v:Nat)(hv:v<E.length):FY E ids ins (v:Int)=some (Qe E v):=by
 obtain⟨hn,_,hd,_⟩:=D9 h
 obtain⟨i1,i2,i3⟩:=Tm (GZ E) E.length v hv
 have key:=ZX (GZ E) E.length v hv (MS h) (fun s=>Cg E ids ins s.1 s.2) (fun _ o q=>(o,q)) (fun o=>o) ?_ ?_
  E.length [] (J6 E.length v) [(v:Int)] i1 (by simp only [List.length_singleton];omega) i3 (by simp only [List.length_singleton,List.length_nil];omega)
 ·unfold FY
  rw [nL (-1) (E.length:Int) (by omega),Option.bind_some,Int.toNat_natCast,BL (by rw [List.length_replicate];omega),Int.toNat_natCast]
  have:FP E ids ins ((List.replicate E.length (-1)).set v 0,[(v:Int)])=some (Qe E v):=key.1
  rw [this];rfl
 ·intro don o w q hI _
  have hw:=hI.qn w List.mem_cons_self
  have hwn:((w.toNat:Nat):Int)=w:=by omega
  have:=Xl E ids ins E.length v w.toNat _ hn (hd _ hw.2.1) (MS h _ hw.2.1) (w::q) o q (by simpa using hwn.symm) hI.pop
  simp only [Cg]
  rw [if_pos (by simp only [List.length_cons];omega),BL (by simp),BL (by simp),BL (by simpa using ⟨hw.1,hw.2.1⟩),List.drop_one,List.tail_cons,this]
  rfl
 ·intro don o _ _
  simp only [Cg]
  rw [if_neg (by simp)]
theorem iT(E:List (List (Int×Int)))(ids ins:List Int)(v:Nat)(hv:v<E.length)(hd:(E.getD v default).length≤6):NJ E ids ins (v:Int)=some (GZ E v):=by
 unfold NJ LC
 rw [BL (by omega)]
 have key:=Bd (fun x=>Fy E (v:Int) x.1 x.2) (fun i=>(((E.getD v default).take i).map (·.1),(i:Int))) (E.getD v default).length ((E.getD v default).map (·.1)) ?_ ?_
 ·have e:((0:Nat):Int)=0:=rfl
  simp only [e,List.take_zero,List.map_nil]at key
  rw [key];rfl
 ·intro i hi
  simp only [Fy,Int.toNat_natCast]
  rw [if_pos (BV hi),BL (by omega),BL (by rw [List.length_map,List.length_take];omega),KH i (by omega),List.take_add_one,List.getElem?_eq_getElem hi,List.map_append]
  unfold BB
  rw [Av (E.getD v default) _ hi];rfl
 ·simp only [Fy,Int.toNat_natCast]
  rw [if_neg (Ag _),List.take_length]
end Go.Proofs.Ytipfckompmhljaa
