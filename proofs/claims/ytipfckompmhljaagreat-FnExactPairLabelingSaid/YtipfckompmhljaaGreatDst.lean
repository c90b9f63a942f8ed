/- Distances: program and reference agree. Conditions: the network is one. -/
import Derived.Test.YtipfckompmhljaaGreatL6
import Derived.Test.YtipfckompmhljaaGreatDstA
import Derived.Test.YtipfckompmhljaaGreatBfs
import Derived.Test.YtipfckompmhljaaGreatPrt
import Derived.Test.YtipfckompmhljaaGreatRep
namespace Go.Proofs.YtipfckompmhljaaGreat
open Go Dv
set_option linter.unusedSimpArgs false
set_option linter.unusedVariables false
set_option maxRecDepth 100000
def Id(E:List (List (Int×Int)))(v:Nat):List Int:=xv (Cn E) E.length (H8 E.length v) [(v:Int)]
theorem LE(w:Nat): ∀(xs:List Int) (s:List Int×List Int),xs.foldl (fun b x=>BO w [x] b) s=BO w xs s
 | [],_=>rfl
 | x::xs,s=>by
  rw [List.foldl_cons,LE w xs]
  exact(JE w [x] xs s).symm
theorem Uz(E:List (List (Int×Int)))(ids ins:List Int)(n v w:Nat)(d:Int)(hn:n≤40)(hd:(E.getD w default).length≤6)(hA: ∀y∈Cn E w,0≤y∧y.toNat<n)(queue o q:List Int)(hw:queue.getD 0 default=(w:Int))(hM:MidB (Cn E) n v w d [] o q):
  EQ E ids ins queue (o,q,0)=some (BO w (Cn E w) (o,q)):=by
 have key:=WX (fun x=>Bc E ids ins queue x.1 x.2.1 x.2.2) (fun i (b:List Int×List Int)=>(b.1,b.2,(i:Int))) (fun _ b=> ∃don,MidB (Cn E) n v w d don b.1 b.2) (Cn E w) (fun b x=>BO w [x] b) (fun b=>b) ?_ ?_ (o,q) ⟨[],hM⟩
 ·rw [LE]at key
  exact key.1
 ·rintro i ⟨o',q'⟩ hi ⟨don,h⟩
  have hx:(Cn E w)[i]∈Cn E w:=List.getElem_mem hi
  have h0:=hA _ hx
  refine⟨?_,_,h.step hx h0⟩
  have e:=NL E w i hi
  rw [Hn]at hi
  have hb:=h.bd
  have hl:=h.len
  have hwn:=h.wn
  have how:=h.ow
  have hd0:=h.d0
  dsimp only at hb hl how
  simp only [Bc,hw,Int.toNat_natCast,←e]
  rw [if_pos (Ak hi),Ac ⟨by omega,hi⟩,Ac (by omega),Gm i (by omega)]
  simp only [BO]
  by_cases hneg:E7 o' (Cn E w)[i].toNat<0
  ·rw [if_pos hneg,if_pos (by exact hneg),Ac (by omega),Ac (by omega)]
   have:IntKind.i64.wrap (o'.getD w default+1)=E7 o' w+1:=by
    show IntKind.i64.wrap (E7 o' w+1)=_
    rw [Gl _ (by omega)]
   rw [this]
  ·rw [if_neg hneg,if_neg (by exact hneg)]
 ·rintro⟨o',q'⟩ _
  simp only [Bc,hw,Int.toNat_natCast]
  rw [Hn,if_neg (AH _)]
theorem Jf{E:List (List (Int×Int))}{ids ins:List Int}(h:CG E ids ins=true)(v:Nat)(hv:v<E.length):FinB (Cn E) E.length v (Id E v):=by
 obtain⟨i1,i2,i3⟩:=MB (Cn E) E.length v hv
 have:=R3 (Cn E) E.length v hv (NM h) (fun s:List Int×List Int=>match s.2 with | []=>some (.inr s.1) | w::q=>some (.inl (BO w.toNat (Cn E w.toNat) (s.1,q)))) (fun _ o q=>(o,q)) (fun o=>o) (fun _ _ _ _ _ _=>rfl) (fun _ _ _ _=>rfl)
  E.length [] (H8 E.length v) [(v:Int)] i1 (by simp only [List.length_singleton];omega) i3 (by simp only [List.length_singleton,List.length_nil];omega)
 exact this.2
theorem Sl{E:List (List (Int×Int))}{ids ins:List Int}(h:CG E ids ins=true)(v:Nat)(hv:v<E.length):Cx E ids ins (v:Int)=some (Id E v):=by
 obtain⟨hn,_,hd,_⟩:=DG h
 obtain⟨i1,i2,i3⟩:=MB (Cn E) E.length v hv
 have key:=R3 (Cn E) E.length v hv (NM h) (fun s=>Bd E ids ins s.1 s.2) (fun _ o q=>(o,q)) (fun o=>o) ?_ ?_
  E.length [] (H8 E.length v) [(v:Int)] i1 (by simp only [List.length_singleton];omega) i3 (by simp only [List.length_singleton,List.length_nil];omega)
 ·unfold Cx
  rw [Qu (-1) (E.length:Int) (by omega),Option.bind_some,Int.toNat_natCast,Ac (by rw [List.length_replicate];omega),Int.toNat_natCast]
  have:ER E ids ins ((List.replicate E.length (-1)).set v 0,[(v:Int)])=some (Id E v):=key.1
  rw [this];rfl
 ·intro don o w q hI _
  have hw:=hI.qn w List.mem_cons_self
  have hwn:((w.toNat:Nat):Int)=w:=by omega
  have:=Uz E ids ins E.length v w.toNat _ hn (hd _ hw.2.1) (NM h _ hw.2.1) (w::q) o q (by simpa using hwn.symm) hI.pop
  simp only [Bd]
  rw [if_pos (by simp only [List.length_cons];omega),Ac (by simp),Ac (by simp),Ac (by simpa using ⟨hw.1,hw.2.1⟩),List.drop_one,List.tail_cons,this]
  rfl
 ·intro don o _ _
  simp only [Bd]
  rw [if_neg (by simp)]
theorem Sm(E:List (List (Int×Int)))(ids ins:List Int)(v:Nat)(hv:v<E.length)(hd:(E.getD v default).length≤6):Jc E ids ins (v:Int)=some (Cn E v):=by
 unfold Jc J3
 rw [Ac (by omega)]
 have key:=CD (fun x=>F6 E (v:Int) x.1 x.2) (fun i=>(((E.getD v default).take i).map (·.1),(i:Int))) (E.getD v default).length ((E.getD v default).map (·.1)) ?_ ?_
 ·have e:((0:Nat):Int)=0:=rfl
  simp only [e,List.take_zero,List.map_nil]at key
  rw [key];rfl
 ·intro i hi
  simp only [F6,Int.toNat_natCast]
  rw [if_pos (Ak hi),Ac (by omega),Ac (by rw [List.length_map,List.length_take];omega),Gm i (by omega),List.take_add_one,List.getElem?_eq_getElem hi,List.map_append]
  unfold An
  rw [Ar (E.getD v default) _ hi];rfl
 ·simp only [F6,Int.toNat_natCast]
  rw [if_neg (AH _),List.take_length]
theorem V1(E:List (List (Int×Int)))(ids ins:List Int)(n v w:Nat)(d:Int)(hn:n≤40)(hd:(E.getD w default).length≤6)(hA: ∀y∈Cn E w,0≤y∧y.toNat<n)(don:List Int)(hdon:don.length≤40)(o q:List Int)(hM:MidB (Cn E) n v w d [] o q):
  J5 E ids ins (don.length:Int) (Cn E w) (o,don++(w:Int)::q,0)=some ((BO w (Cn E w) (o,q)).1,(don++[(w:Int)])++(BO w (Cn E w) (o,q)).2):=by
 have key:=WX (fun x=>F9 E ids ins (don.length:Int) (Cn E w) x.1 x.2.1 x.2.2) (fun i (b:List Int×List Int)=>(b.1,(don++[(w:Int)])++b.2,(i:Int))) (fun _ b=> ∃don,MidB (Cn E) n v w d don b.1 b.2) (Cn E w) (fun b x=>BO w [x] b) (fun b=>(b.1,(don++[(w:Int)])++b.2)) ?_ ?_ (o,q) ⟨[],hM⟩
 ·rw [LE]at key
  have e:don++(w:Int)::q=(don++[(w:Int)])++q:=by simp
  rw [e]
  exact key.1
 ·rintro i ⟨o',q'⟩ hi ⟨don',h⟩
  have hx:(Cn E w)[i]∈Cn E w:=List.getElem_mem hi
  have h0:=hA _ hx
  refine⟨?_,_,h.step hx h0⟩
  have hb:=h.bd
  have hl:=h.len
  have hwn:=h.wn
  have how:=h.ow
  have hd0:=h.d0
  dsimp only at hb hl how
  have hi6:i<6:=by rw [Hn]at hi;omega
  have ew:((don++[(w:Int)])++q').getD don.length default=(w:Int):=by
   rw [List.getD_eq_getElem?_getD,List.append_assoc,List.getElem?_append_right (Nat.le_refl _),Nat.sub_self];rfl
  have el:((don++[(w:Int)])++q').length=don.length+1+q'.length:=by simp;omega
  simp only [F9,Int.toNat_natCast,Ar _ _ hi,ew,el]
  rw [if_pos (Ak hi),Ac ⟨by omega,hi⟩,Ac (by omega),Gm i (by omega)]
  simp only [BO]
  by_cases hneg:E7 o' (Cn E w)[i].toNat<0
  ·rw [if_pos hneg,if_pos (by exact hneg),Ac (by omega),Ac (by omega),Ac (by omega)]
   have:IntKind.i64.wrap (o'.getD w default+1)=E7 o' w+1:=by
    show IntKind.i64.wrap (E7 o' w+1)=_
    rw [Gl _ (by omega)]
   rw [this,List.append_assoc]
  ·rw [if_neg hneg,if_neg (by exact hneg)]
 ·rintro⟨o',q'⟩ _
  simp only [F9]
  rw [if_neg (AH _)]
theorem Sn{E:List (List (Int×Int))}{ids ins:List Int}(h:CG E ids ins=true)(v:Nat)(hv:v<E.length):Jd E ids ins (v:Int)=some (Id E v):=by
 obtain⟨hn,_,hd,_⟩:=DG h
 obtain⟨i1,i2,i3⟩:=MB (Cn E) E.length v hv
 have fill:=QD (fun x=>F8 E ids ins (v:Int) x.1 x.2) (List.replicate E.length (0:Int)) (fun _=>(-1:Int)) (0:Int) ?_ ?_
 ·have key:=R3 (Cn E) E.length v hv (NM h) (fun s=>FA E ids ins s.1 s.2.1 s.2.2) (fun don o q=>(o,don++q,(don.length:Int))) (fun o=>o) ?_ ?_
   E.length [] (H8 E.length v) [(v:Int)] i1 (by simp only [List.length_singleton];omega) i3 (by simp only [List.length_singleton,List.length_nil];omega)
  ·unfold Jd
   rw [List.length_replicate,List.map_replicate]at fill
   rw [Ac (by omega)]
   have f2:J4 E ids ins (v:Int) (List.replicate E.length 0,0)=some (List.replicate E.length (-1)):=fill
   rw [f2,Option.bind_some,Int.toNat_natCast,Ac (by rw [List.length_replicate];omega)]
   have:J6 E ids ins ((List.replicate E.length (-1)).set v 0,[(v:Int)],0)=some (Id E v):=key.1
   rw [this];rfl
  ·intro don o w q hI hb
   simp only [List.length_cons]at hb
   have hw:=hI.qn w List.mem_cons_self
   have hwn:((w.toNat:Nat):Int)=w:=by omega
   have:=V1 E ids ins E.length v w.toNat _ hn (hd _ hw.2.1) (NM h _ hw.2.1) don (by omega) o q hI.pop
   rw [hwn]at this
   have e1:(don++w::q).getD don.length default=w:=by
    rw [List.getD_eq_getElem?_getD,List.getElem?_append_right (Nat.le_refl _),Nat.sub_self];rfl
   have e2:=Sm E ids ins w.toNat hw.2.1 (hd _ hw.2.1)
   rw [hwn]at e2
   simp only [FA,Int.toNat_natCast,e1]
   rw [if_pos (by simp only [List.length_append,List.length_cons];omega),Ac (by simp only [List.length_append,List.length_cons];omega),e2,Option.bind_some,this,Option.bind_some,Gm _ (by omega)]
   simp
  ·intro don o _ _
   simp only [FA]
   rw [if_neg (by simp)]
 ·intro i hi out ho
  simp only [List.length_replicate]at hi ho
  simp only [F8,Int.toNat_natCast,List.length_replicate]
  rw [if_pos (Ak hi),Ac (by omega),Gm i (by omega)]
 ·intro out ho
  simp only [F8,List.length_replicate]
  rw [if_neg (AH _)]
end Go.Proofs.YtipfckompmhljaaGreat
