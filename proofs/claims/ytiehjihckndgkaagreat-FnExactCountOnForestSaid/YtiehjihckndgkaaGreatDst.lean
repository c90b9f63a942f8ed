/- Distances: program and reference agree. Conditions: the network is one. -/
import Derived.Test.YtiehjihckndgkaaGreatL6
import Derived.Test.YtiehjihckndgkaaGreatDstA
import Derived.Test.YtiehjihckndgkaaGreatBfs
import Derived.Test.YtiehjihckndgkaaGreatPrt
import Derived.Test.YtiehjihckndgkaaGreatRep
namespace Go.Proofs.YtiehjihckndgkaaGreat
open Go Dv
set_option linter.unusedSimpArgs false
set_option linter.unusedVariables false
set_option maxRecDepth 100000
def O9(E:List (List (Int×Int)))(v:Nat):AB:=bfs (FH E) E.length (MF E.length v) [(v:Int)]
theorem Tp(w:Nat): ∀(xs:AB) (s:AB×AB),xs.foldl (fun b x=>De w [x] b) s=De w xs s
 | [],_=>rfl
 |x::xs,s=>by
  rw [YB,Tp w xs]
  exact(Qf w [x] xs s).symm
theorem nY(E:List (List (Int×Int)))(ids ins:AB)(n v w:Nat)(d:Int)(hn:n≤40)(hd:(E.getD w default).length≤6)(hA: ∀y∈FH E w,0≤y∧y.toNat<n)(queue o q:AB)(hw:queue.getD 0 default=(w:Int))(hM:MidB (FH E) n v w d [] o q):
  J5 E ids ins queue (o,q,0)=some (De w (FH E w) (o,q)):=by
 have key:=qi (fun x=>EI E ids ins queue x.1 x.2.1 x.2.2) (fun i (b:AB×AB)=>(b.1,b.2,(i:Int))) (fun _ b=> ∃don,MidB (FH E) n v w d don b.1 b.2) (FH E w) (fun b x=>De w [x] b) (fun b=>b) ?_ ?_ (o,q) ⟨[],hM⟩
 ·rw [Tp]at key;exact key.1
 ·rintro i ⟨o',q'⟩ hi ⟨don,h⟩
  have hx:(FH E w)[i]∈FH E w:=Nh hi;have h0:=hA _ hx
  refine⟨?_,_,h.step hx h0⟩
  have e:=eD E w i hi;rw [RH]at hi;have hb:=h.bd;have hl:=h.len;have hwn:=h.wn;have how:=h.ow;have hd0:=h.d0;dsimp only at hb hl how;simp only [EI,hw,EC,←e];rw [if_pos (CL hi),BL ⟨by omega,hi⟩,BL (by omega),K4 i (by omega)]
  simp only [De];by_cases hneg:at_ o' (FH E w)[i].toNat<0
  ·rw [if_pos hneg,if_pos (by exact hneg),BL (by omega),BL (by omega)]
   have:IntKind.i64.wrap (o'.getD w default+1)=at_ o' w+1:=by
    show IntKind.i64.wrap (at_ o' w+1)=_
    rw [I7 _ (by omega)]
   rw [this]
  ·rw [if_neg hneg,if_neg (by exact hneg)]
 ·rintro⟨o',q'⟩ _
  simp only [EI,hw,EC];rw [RH,if_neg (Az _)]
theorem XX{E:List (List (Int×Int))}{ids ins:AB}(h:FX E ids ins=true)(v:Nat)(hv:v<E.length):FinB (FH E) E.length v (O9 E v):=by
 obtain⟨i1,i2,i3⟩:=Ry (FH E) E.length v hv;have:=WY (FH E) E.length v hv (Wd h) (fun s:AB×AB=>match s.2 with| []=>some (.inr s.1)|w::q=>some (.inl (De w.toNat (FH E w.toNat) (s.1,q)))) (fun _ o q=>(o,q)) (fun o=>o) (fun _ _ _ _ _ _=>rfl) (fun _ _ _ _=>rfl)
  E.length [] (MF E.length v) [(v:Int)] i1 (by simp only [VA];omega) i3 (by simp only [VA,Sd];omega)
 exact this.2
theorem A04{E:List (List (Int×Int))}{ids ins:AB}(h:FX E ids ins=true)(v:Nat)(hv:v<E.length):JI E ids ins (v:Int)=some (O9 E v):=by
 obtain⟨hn,_,hd,_⟩:=O8 h;obtain⟨i1,i2,i3⟩:=Ry (FH E) E.length v hv;have key:=WY (FH E) E.length v hv (Wd h) (fun s=>EJ E ids ins s.1 s.2) (fun _ o q=>(o,q)) (fun o=>o) ?_ ?_
  E.length [] (MF E.length v) [(v:Int)] i1 (by simp only [VA];omega) i3 (by simp only [VA,Sd];omega)
 ·unfold JI;rw [bV (-1) (E.length:Int) (by omega),Cz,EC,BL (by rw [M8];omega),EC]
  have:J6 E ids ins ((List.replicate E.length (-1)).set v 0,[(v:Int)])=some (O9 E v):=key.1
  rw [this];rfl
 ·intro don o w q hI _;have hw:=hI.qn w KM;have hwn:((w.toNat:Nat):Int)=w:=by omega
  have:=nY E ids ins E.length v w.toNat _ hn (hd _ hw.2.1) (Wd h _ hw.2.1) (w::q) o q (by simpa using hwn.symm) hI.pop
  simp only [EJ];rw [if_pos (by simp only [Lb];omega),BL (by simp),BL (by simp),BL (by simpa using ⟨hw.1,hw.2.1⟩),List.drop_one,List.tail_cons,this]
  rfl
 ·intro don o _ _;simp only [EJ];rw [if_neg (by simp)]
theorem jb(E:List (List (Int×Int)))(ids ins:AB)(v:Nat)(hv:v<E.length)(hd:(E.getD v default).length≤6):Ta E ids ins (v:Int)=some (FH E v):=by
 unfold Ta QR;rw [BL (by omega)]
 have key:=Cf (fun x=>Jl E (v:Int) x.1 x.2) (fun i=>(((E.getD v default).take i).map (·.1),(i:Int))) (E.getD v default).length ((E.getD v default).map (·.1)) ?_ ?_
 ·have e:((0:Nat):Int)=0:=rfl;simp only [e,ZB,List.map_nil]at key;rw [key];rfl
 ·intro i hi;simp only [Jl,EC];rw [if_pos (CL hi),BL (by omega),BL (by rw [SI,Ud];omega),K4 i (by omega),List.take_add_one,Kh hi,List.map_append]
  unfold BP;rw [Ao (E.getD v default) _ hi];rfl
 ·simp only [Jl,EC];rw [if_neg (Az _),oQ]
theorem We(E:List (List (Int×Int)))(ids ins:AB)(n v w:Nat)(d:Int)(hn:n≤40)(hd:(E.getD w default).length≤6)(hA: ∀y∈FH E w,0≤y∧y.toNat<n)(don:AB)(hdon:don.length≤40)(o q:AB)(hM:MidB (FH E) n v w d [] o q):
  QS E ids ins (don.length:Int) (FH E w) (o,don++(w:Int)::q,0)=some ((De w (FH E w) (o,q)).1,(don++[(w:Int)])++(De w (FH E w) (o,q)).2):=by
 have key:=qi (fun x=>Jn E ids ins (don.length:Int) (FH E w) x.1 x.2.1 x.2.2) (fun i (b:AB×AB)=>(b.1,(don++[(w:Int)])++b.2,(i:Int))) (fun _ b=> ∃don,MidB (FH E) n v w d don b.1 b.2) (FH E w) (fun b x=>De w [x] b) (fun b=>(b.1,(don++[(w:Int)])++b.2)) ?_ ?_ (o,q) ⟨[],hM⟩
 ·rw [Tp]at key;have e:don++(w:Int)::q=(don++[(w:Int)])++q:=by simp
  rw [e];exact key.1
 ·rintro i ⟨o',q'⟩ hi ⟨don',h⟩
  have hx:(FH E w)[i]∈FH E w:=Nh hi;have h0:=hA _ hx
  refine⟨?_,_,h.step hx h0⟩
  have hb:=h.bd;have hl:=h.len;have hwn:=h.wn;have how:=h.ow;have hd0:=h.d0;dsimp only at hb hl how;have hi6:i<6:=by rw [RH]at hi;omega
  have ew:((don++[(w:Int)])++q').getD don.length default=(w:Int):=by
   rw [Le,OC,RN (Dh _),Nat.sub_self];rfl
  have el:((don++[(w:Int)])++q').length=don.length+1+q'.length:=by simp;omega
  simp only [Jn,EC,Ao _ _ hi,ew,el];rw [if_pos (CL hi),BL ⟨by omega,hi⟩,BL (by omega),K4 i (by omega)]
  simp only [De];by_cases hneg:at_ o' (FH E w)[i].toNat<0
  ·rw [if_pos hneg,if_pos (by exact hneg),BL (by omega),BL (by omega),BL (by omega)]
   have:IntKind.i64.wrap (o'.getD w default+1)=at_ o' w+1:=by
    show IntKind.i64.wrap (at_ o' w+1)=_
    rw [I7 _ (by omega)]
   rw [this,OC]
  ·rw [if_neg hneg,if_neg (by exact hneg)]
 ·rintro⟨o',q'⟩ _
  simp only [Jn];rw [if_neg (Az _)]
theorem A05{E:List (List (Int×Int))}{ids ins:AB}(h:FX E ids ins=true)(v:Nat)(hv:v<E.length):O4 E ids ins (v:Int)=some (O9 E v):=by
 obtain⟨hn,_,hd,_⟩:=O8 h;obtain⟨i1,i2,i3⟩:=Ry (FH E) E.length v hv;have fill:=aP (fun x=>Ew E ids ins (v:Int) x.1 x.2) (List.replicate E.length (0:Int)) (fun _=>(-1:Int)) (0:Int) ?_ ?_
 ·have key:=WY (FH E) E.length v hv (Wd h) (fun s=>Ey E ids ins s.1 s.2.1 s.2.2) (fun don o q=>(o,don++q,(don.length:Int))) (fun o=>o) ?_ ?_
   E.length [] (MF E.length v) [(v:Int)] i1 (by simp only [VA];omega) i3 (by simp only [VA,Sd];omega)
  ·unfold O4;rw [M8,List.map_replicate]at fill;rw [BL (by omega)]
   have f2:O1 E ids ins (v:Int) (List.replicate E.length 0,0)=some (List.replicate E.length (-1)):=fill;rw [f2,Cz,EC,BL (by rw [M8];omega)]
   have:O3 E ids ins ((List.replicate E.length (-1)).set v 0,[(v:Int)],0)=some (O9 E v):=key.1
   rw [this];rfl
  ·intro don o w q hI hb;simp only [Lb]at hb;have hw:=hI.qn w KM;have hwn:((w.toNat:Nat):Int)=w:=by omega
   have:=We E ids ins E.length v w.toNat _ hn (hd _ hw.2.1) (Wd h _ hw.2.1) don (by omega) o q hI.pop
   rw [hwn]at this
   have e1:(don++w::q).getD don.length default=w:=by
    rw [Le,RN (Dh _),Nat.sub_self];rfl
   have e2:=jb E ids ins w.toNat hw.2.1 (hd _ hw.2.1);rw [hwn]at e2;simp only [Ey,EC,e1];rw [if_pos (by simp only [Nf,Lb];omega),BL (by simp only [Nf,Lb];omega),e2,Cz,this,Cz,K4 _ (by omega)]
   simp
  ·intro don o _ _;simp only [Ey];rw [if_neg (by simp)]
 ·intro i hi out ho;simp only [M8]at hi ho;simp only [Ew,EC,M8];rw [if_pos (CL hi),BL (by omega),K4 i (by omega)]
 ·intro out ho;simp only [Ew,M8];rw [if_neg (Az _)]
end Go.Proofs.YtiehjihckndgkaaGreat
