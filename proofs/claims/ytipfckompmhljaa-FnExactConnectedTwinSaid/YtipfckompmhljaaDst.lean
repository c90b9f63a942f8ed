/- Distances: program and reference agree. Conditions: the network is one. -/
import Derived.Test.YtipfckompmhljaaL6
import Derived.Test.YtipfckompmhljaaDstA
import Derived.Test.YtipfckompmhljaaBfs
import Derived.Test.YtipfckompmhljaaPrt
import Derived.Test.YtipfckompmhljaaRep
namespace Go.Proofs.Ytipfckompmhljaa
open Go Dv
set_option linter.unusedSimpArgs false
set_option linter.unusedVariables false
set_option maxRecDepth 100000
def BJ(E:List (List (Int×Int)))(v:Nat):List Int:=bfs (Ec E) E.length (Jc E.length v) [(v:Int)]
theorem OX(w:Nat): ∀(xs:List Int) (s:List Int×List Int),xs.foldl (fun b x=>CZ w [x] b) s=CZ w xs s
 | [],_=>rfl
 | x::xs,s=>by
  rw [List.foldl_cons,OX w xs]
  exact(MG w [x] xs s).symm
theorem ZA(E:List (List (Int×Int)))(ids ins:List Int)(n v w:Nat)(d:Int)(hn:n≤40)(hd:(E.getD w default).length≤6)(hA: ∀y∈Ec E w,0≤y∧y.toNat<n)(queue o q:List Int)(hw:queue.getD 0 default=(w:Int))(hM:MidB (Ec E) n v w d [] o q):
  GI E ids ins queue (o,q,0)=some (CZ w (Ec E w) (o,q)):=by
 have key:=bC (fun x=>Ck E ids ins queue x.1 x.2.1 x.2.2) (fun i (b:List Int×List Int)=>(b.1,b.2,(i:Int))) (fun _ b=> ∃don,MidB (Ec E) n v w d don b.1 b.2) (Ec E w) (fun b x=>CZ w [x] b) (fun b=>b) ?_ ?_ (o,q) ⟨[],hM⟩
 ·rw [OX]at key;exact key.1
 ·rintro i ⟨o',q'⟩ hi ⟨don,h⟩
  have hx:(Ec E w)[i]∈Ec E w:=List.getElem_mem hi;have h0:=hA _ hx
  refine⟨?_,_,h.step hx h0⟩
  have e:=Lc E w i hi;rw [IQ]at hi;have hb:=h.bd;have hl:=h.len;have hwn:=h.wn;have how:=h.ow;have hd0:=h.d0;dsimp only at hb hl how;simp only [Ck,hw,Int.toNat_natCast,←e];rw [if_pos (BZ hi),BM ⟨by omega,hi⟩,BM (by omega),Je i (by omega)]
  simp only [CZ];by_cases hneg:GM o' (Ec E w)[i].toNat<0
  ·rw [if_pos hneg,if_pos (by exact hneg),BM (by omega),BM (by omega)]
   have:IntKind.i64.wrap (o'.getD w default+1)=GM o' w+1:=by
    show IntKind.i64.wrap (GM o' w+1)=_
    rw [Ir _ (by omega)]
   rw [this]
  ·rw [if_neg hneg,if_neg (by exact hneg)]
 ·rintro⟨o',q'⟩ _
  simp only [Ck,hw,Int.toNat_natCast];rw [IQ,if_neg (Aq _)]
theorem Mk{E:List (List (Int×Int))}{ids ins:List Int}(h:Bj E ids ins=true)(v:Nat)(hv:v<E.length):FinB (Ec E) E.length v (BJ E v):=by
 obtain⟨i1,i2,i3⟩:=Pb (Ec E) E.length v hv;have:=VW (Ec E) E.length v hv (Qg h) (fun s:List Int×List Int=>match s.2 with | []=>some (.inr s.1) | w::q=>some (.inl (CZ w.toNat (Ec E w.toNat) (s.1,q)))) (fun _ o q=>(o,q)) (fun o=>o) (fun _ _ _ _ _ _=>rfl) (fun _ _ _ _=>rfl)
  E.length [] (Jc E.length v) [(v:Int)] i1 (by simp only [List.length_singleton];omega) i3 (by simp only [List.length_singleton,List.length_nil];omega)
 exact this.2
theorem RY{E:List (List (Int×Int))}{ids ins:List Int}(h:Bj E ids ins=true)(v:Nat)(hv:v<E.length):Cf E ids ins (v:Int)=some (BJ E v):=by
 obtain⟨hn,_,hd,_⟩:=OW h;obtain⟨i1,i2,i3⟩:=Pb (Ec E) E.length v hv;have key:=VW (Ec E) E.length v hv (Qg h) (fun s=>Cm E ids ins s.1 s.2) (fun _ o q=>(o,q)) (fun o=>o) ?_ ?_
  E.length [] (Jc E.length v) [(v:Int)] i1 (by simp only [List.length_singleton];omega) i3 (by simp only [List.length_singleton,List.length_nil];omega)
 ·unfold Cf;rw [bX (-1) (E.length:Int) (by omega),Option.bind_some,Int.toNat_natCast,BM (by rw [List.length_replicate];omega),Int.toNat_natCast]
  have:GJ E ids ins ((List.replicate E.length (-1)).set v 0,[(v:Int)])=some (BJ E v):=key.1
  rw [this];rfl
 ·intro don o w q hI _;have hw:=hI.qn w List.mem_cons_self;have hwn:((w.toNat:Nat):Int)=w:=by omega
  have:=ZA E ids ins E.length v w.toNat _ hn (hd _ hw.2.1) (Qg h _ hw.2.1) (w::q) o q (by simpa using hwn.symm) hI.pop
  simp only [Cm];rw [if_pos (by simp only [List.length_cons];omega),BM (by simp),BM (by simp),BM (by simpa using ⟨hw.1,hw.2.1⟩),List.drop_one,List.tail_cons,this]
  rfl
 ·intro don o _ _;simp only [Cm];rw [if_neg (by simp)]
theorem XF(E:List (List (Int×Int)))(ids ins:List Int)(v:Nat)(hv:v<E.length)(hd:(E.getD v default).length≤6):Mf E ids ins (v:Int)=some (Ec E v):=by
 unfold Mf M6;rw [BM (by omega)]
 have key:=Bb (fun x=>Gt E (v:Int) x.1 x.2) (fun i=>(((E.getD v default).take i).map (·.1),(i:Int))) (E.getD v default).length ((E.getD v default).map (·.1)) ?_ ?_
 ·have e:((0:Nat):Int)=0:=rfl;simp only [e,List.take_zero,List.map_nil]at key;rw [key];rfl
 ·intro i hi;simp only [Gt,Int.toNat_natCast];rw [if_pos (BZ hi),BM (by omega),BM (by rw [List.length_map,List.length_take];omega),Je i (by omega),List.take_add_one,List.getElem?_eq_getElem hi,List.map_append]
  unfold BA;rw [Av (E.getD v default) _ hi];rfl
 ·simp only [Gt,Int.toNat_natCast];rw [if_neg (Aq _),List.take_length]
theorem ZB(E:List (List (Int×Int)))(ids ins:List Int)(n v w:Nat)(d:Int)(hn:n≤40)(hd:(E.getD w default).length≤6)(hA: ∀y∈Ec E w,0≤y∧y.toNat<n)(don:List Int)(hdon:don.length≤40)(o q:List Int)(hM:MidB (Ec E) n v w d [] o q):
  M8 E ids ins (don.length:Int) (Ec E w) (o,don++(w:Int)::q,0)=some ((CZ w (Ec E w) (o,q)).1,(don++[(w:Int)])++(CZ w (Ec E w) (o,q)).2):=by
 have key:=bC (fun x=>Gw E ids ins (don.length:Int) (Ec E w) x.1 x.2.1 x.2.2) (fun i (b:List Int×List Int)=>(b.1,(don++[(w:Int)])++b.2,(i:Int))) (fun _ b=> ∃don,MidB (Ec E) n v w d don b.1 b.2) (Ec E w) (fun b x=>CZ w [x] b) (fun b=>(b.1,(don++[(w:Int)])++b.2)) ?_ ?_ (o,q) ⟨[],hM⟩
 ·rw [OX]at key;have e:don++(w:Int)::q=(don++[(w:Int)])++q:=by simp
  rw [e];exact key.1
 ·rintro i ⟨o',q'⟩ hi ⟨don',h⟩
  have hx:(Ec E w)[i]∈Ec E w:=List.getElem_mem hi;have h0:=hA _ hx
  refine⟨?_,_,h.step hx h0⟩
  have hb:=h.bd;have hl:=h.len;have hwn:=h.wn;have how:=h.ow;have hd0:=h.d0;dsimp only at hb hl how;have hi6:i<6:=by rw [IQ]at hi;omega
  have ew:((don++[(w:Int)])++q').getD don.length default=(w:Int):=by
   rw [List.getD_eq_getElem?_getD,List.append_assoc,List.getElem?_append_right (Nat.le_refl _),Nat.sub_self];rfl
  have el:((don++[(w:Int)])++q').length=don.length+1+q'.length:=by simp;omega
  simp only [Gw,Int.toNat_natCast,Av _ _ hi,ew,el];rw [if_pos (BZ hi),BM ⟨by omega,hi⟩,BM (by omega),Je i (by omega)]
  simp only [CZ];by_cases hneg:GM o' (Ec E w)[i].toNat<0
  ·rw [if_pos hneg,if_pos (by exact hneg),BM (by omega),BM (by omega),BM (by omega)]
   have:IntKind.i64.wrap (o'.getD w default+1)=GM o' w+1:=by
    show IntKind.i64.wrap (GM o' w+1)=_
    rw [Ir _ (by omega)]
   rw [this,List.append_assoc]
  ·rw [if_neg hneg,if_neg (by exact hneg)]
 ·rintro⟨o',q'⟩ _
  simp only [Gw];rw [if_neg (Aq _)]
theorem XG{E:List (List (Int×Int))}{ids ins:List Int}(h:Bj E ids ins=true)(v:Nat)(hv:v<E.length):LU E ids ins (v:Int)=some (BJ E v):=by
 obtain⟨hn,_,hd,_⟩:=OW h;obtain⟨i1,i2,i3⟩:=Pb (Ec E) E.length v hv;have fill:=ou (fun x=>Gv E ids ins (v:Int) x.1 x.2) (List.replicate E.length (0:Int)) (fun _=>(-1:Int)) (0:Int) ?_ ?_
 ·have key:=VW (Ec E) E.length v hv (Qg h) (fun s=>Gx E ids ins s.1 s.2.1 s.2.2) (fun don o q=>(o,don++q,(don.length:Int))) (fun o=>o) ?_ ?_
   E.length [] (Jc E.length v) [(v:Int)] i1 (by simp only [List.length_singleton];omega) i3 (by simp only [List.length_singleton,List.length_nil];omega)
  ·unfold LU;rw [List.length_replicate,List.map_replicate]at fill;rw [BM (by omega)]
   have f2:M7 E ids ins (v:Int) (List.replicate E.length 0,0)=some (List.replicate E.length (-1)):=fill;rw [f2,Option.bind_some,Int.toNat_natCast,BM (by rw [List.length_replicate];omega)]
   have:M9 E ids ins ((List.replicate E.length (-1)).set v 0,[(v:Int)],0)=some (BJ E v):=key.1
   rw [this];rfl
  ·intro don o w q hI hb;simp only [List.length_cons]at hb;have hw:=hI.qn w List.mem_cons_self;have hwn:((w.toNat:Nat):Int)=w:=by omega
   have:=ZB E ids ins E.length v w.toNat _ hn (hd _ hw.2.1) (Qg h _ hw.2.1) don (by omega) o q hI.pop
   rw [hwn]at this
   have e1:(don++w::q).getD don.length default=w:=by
    rw [List.getD_eq_getElem?_getD,List.getElem?_append_right (Nat.le_refl _),Nat.sub_self];rfl
   have e2:=XF E ids ins w.toNat hw.2.1 (hd _ hw.2.1);rw [hwn]at e2;simp only [Gx,Int.toNat_natCast,e1];rw [if_pos (by simp only [List.length_append,List.length_cons];omega),BM (by simp only [List.length_append,List.length_cons];omega),e2,Option.bind_some,this,Option.bind_some,Je _ (by omega)]
   simp
  ·intro don o _ _;simp only [Gx];rw [if_neg (by simp)]
 ·intro i hi out ho;simp only [List.length_replicate]at hi ho;simp only [Gv,Int.toNat_natCast,List.length_replicate];rw [if_pos (BZ hi),BM (by omega),Je i (by omega)]
 ·intro out ho;simp only [Gv,List.length_replicate];rw [if_neg (Aq _)]
def Qh(E:List (List (Int×Int))):Bool:= !(BJ E 0).contains (-1)
theorem rT{E:List (List (Int×Int))}{ids ins:List Int}(h:Bj E ids ins=true):J2 E ids ins=some (Qh E):=by
 obtain⟨hn,hn1,_,_⟩:=OW h;have h0:Cf E ids ins 0=some (BJ E 0):=RY h 0 (by omega)
 have hF:=Mk h 0 (by omega)
 unfold J2;rw [h0,Option.bind_some,BM (by rw [hF.len];omega)];rfl
theorem rU{E:List (List (Int×Int))}{ids ins:List Int}(h:Bj E ids ins=true):J3 E ids ins=some (Qh E):=by
 obtain⟨hn,hn1,_,_⟩:=OW h;have h0:LU E ids ins 0=some (BJ E 0):=XG h 0 (by omega)
 have hF:=Mk h 0 (by omega)
 unfold J3;rw [h0,Option.bind_some,BM (by rw [hF.len];omega)]
 refine congrArg some ?_;unfold Qh II;rw [Bool.eq_iff_iff,List.all_eq_true,Bool.not_eq_true',←Bool.not_eq_true,List.contains_iff_mem]
 constructor
 ·intro hc hm;have:=FK.1 (hc _ hm)
  omega
 ·intro hc x hx;obtain⟨i,hi,rfl⟩:=List.getElem_of_mem hx;have hi':i<E.length:=by rw [←hF.len];exact hi
  have a:=hF.lo i hi';have b:=hF.hi i hi';unfold GM at a b;rw [Av _ _ hi]at a b;have:(BJ E 0)[i]≠ -1:=fun e=>hc (e▸List.getElem_mem hi)
  exact FK.2 (by omega)
end Go.Proofs.Ytipfckompmhljaa
