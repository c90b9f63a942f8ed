/- Spanning trees and edges: program and reference agree. Conditions: those in each lemma. -/
import Derived.Test.YtipfckompmhljaaL6
import Derived.Test.YtipfckompmhljaaTwA
import Derived.Test.YtipfckompmhljaaEde
import Derived.Test.YtipfckompmhljaaDst
namespace Go.Proofs.Ytipfckompmhljaa
open Go Dv
set_option linter.unusedSimpArgs false
set_option linter.unusedVariables false
set_option maxRecDepth 100000
def NN(E:List (List (Int×Int)))(Eb:List Int)(v:Nat):Int:=
 match EC (E.getD v default).length (fun i=>decide (0<Eb.getD v default)&&decide (Eb.getD (BA (E.getD v default) i).toNat default=Eb.getD v default-1))with
 | some i=>(i:Int)
 | none=> -1
theorem bf(E:List (List (Int×Int)))(ids ins Eb:List Int)(v:Nat)(hv:v<E.length)(hd:(E.getD v default).length≤6)(hf:Eb.length=E.length)(hr: ∀x,x<E.length→ -1≤Eb.getD x default∧Eb.getD x default≤40)
  (hA: ∀i,i<(E.getD v default).length→0≤BA (E.getD v default) i∧(BA (E.getD v default) i).toNat<E.length):LY E ids ins Eb (v:Int)=some (NN E Eb v):=by
 unfold LY Jz;rw [XF E ids ins v hv hd,Option.bind_some];have key:=VT (fun x=>En Eb (v:Int) (Ec E v) x) (fun i=>(i:Int)) (E.getD v default).length (fun i=>decide (0<Eb.getD v default)&&decide (Eb.getD (BA (E.getD v default) i).toNat default=Eb.getD v default-1)) (fun i=> .inl (i:Int)) (.inr ()) ?_ ?_
 ·rw [Int.natCast_zero]at key;rw [key,Option.bind_some];unfold NN
  cases EC (E.getD v default).length (fun i=>decide (0<Eb.getD v default)&&decide (Eb.getD (BA (E.getD v default) i).toNat default=Eb.getD v default-1))<;>rfl
 ·intro i hi;obtain⟨a1,a2⟩:=hA i hi;obtain⟨v1,v2⟩:=hr v hv;have hi':i<(Ec E v).length:=by rw [IQ];exact hi
  have e:(Ec E v).getD i default=BA (E.getD v default) i:=by rw [Av _ _ hi',Lc E v i hi']
  simp only [En,Int.toNat_natCast,e];rw [if_pos (BZ hi'),BM (by omega),BM (by omega),Je i (by omega)]
  by_cases c:0<Eb.getD v default
  ·rw [if_pos c,BM (by omega),Ir _ (by omega),decide_eq_true c,Bool.true_and]
   by_cases c2:Eb.getD (BA (E.getD v default) i).toNat default=Eb.getD v default-1
   ·rw [if_pos c2,decide_eq_true c2,if_pos rfl]
   ·rw [if_neg c2,decide_eq_false c2,if_neg (by decide)]
  ·rw [if_neg c,decide_eq_false c,Bool.false_and,if_neg (by decide)]
 ·simp only [En];rw [if_neg (by rw [IQ];exact Aq _)]
theorem bg(E:List (List (Int×Int)))(Eb:List Int)(v:Nat)(hv:v<E.length)(hd:(E.getD v default).length≤6)(hf:Eb.length=E.length)(hr: ∀x,x<E.length→ -1≤Eb.getD x default∧Eb.getD x default≤40)
  (hA: ∀i,i<(E.getD v default).length→0≤BA (E.getD v default) i∧(BA (E.getD v default) i).toNat<E.length):
  Ag (E.getD v default) (fun a0_0 a0_1=>Db a0_0 a0_1 Eb (v:Int))=some (NN E Eb v):=by
 unfold Ag Ao;have key:=VT (fun x=>AZ (E.getD v default) (fun a0_0 a0_1=>Db a0_0 a0_1 Eb (v:Int)) x) (fun i=>(i:Int)) (E.getD v default).length
  (fun i=>decide (0<Eb.getD v default)&&decide (Eb.getD (BA (E.getD v default) i).toNat default=Eb.getD v default-1)) (fun i=> .inl (i:Int)) (.inr ()) ?_ ?_
 ·rw [Int.natCast_zero]at key;rw [key,Option.bind_some];unfold NN
  cases EC (E.getD v default).length (fun i=>decide (0<Eb.getD v default)&&decide (Eb.getD (BA (E.getD v default) i).toNat default=Eb.getD v default-1))<;>rfl
 ·intro i hi;obtain⟨a1,a2⟩:=hA i hi;obtain⟨v1,v2⟩:=hr v hv;simp only [AZ,Db,Int.toNat_natCast];rw [if_pos (BZ hi),BM (by omega),BM (by omega),Je i (by omega)]
  by_cases c:0<Eb.getD v default
  ·have ew:IntKind.i64.wrap (Eb.getD v default-1)=Eb.getD v default-1:=Ir _ (by omega)
   rw [if_pos c,BM (by omega),Option.bind_some,decide_eq_true c,Bool.true_and]
   simp only [ew]
  ·rw [if_neg c,decide_eq_false c,Bool.false_and,Option.bind_some]
 ·simp only [AZ];rw [if_neg (Aq _)]
def E5(E:List (List (Int×Int)))(Eb:List Int)(n:Nat):List Int:=(List.range n).map (NN E Eb)
theorem VX(E:List (List (Int×Int)))(Eb:List Int)(n:Nat):E5 E Eb (n+1)=E5 E Eb n++[NN E Eb n]:=by simp [E5,List.range_succ]
theorem Om(E:List (List (Int×Int)))(Eb:List Int)(n:Nat):(E5 E Eb n).length=n:=by simp [E5]
theorem Qi{E:List (List (Int×Int))}{ids ins:List Int}(h:Bj E ids ins=true)(r:Nat)(hr:r<E.length):(BJ E r).length=E.length∧ ∀x,x<E.length→ -1≤(BJ E r).getD x default∧(BJ E r).getD x default≤40:=by
 have hf:=Mk h r hr;obtain⟨p1,_,_,_⟩:=Dj h
 refine⟨hf.len,fun x hx=>⟨hf.lo x hx,Int.le_trans (hf.hi x hx) (by omega)⟩⟩
theorem jG{E:List (List (Int×Int))}{ids ins:List Int}(h:Bj E ids ins=true)(v:Nat)(hv:v<E.length): ∀i,i<(E.getD v default).length→0≤BA (E.getD v default) i∧(BA (E.getD v default) i).toNat<E.length:=by
 intro i hi;obtain⟨_,_,_,p4⟩:=Dj h;obtain⟨w,p,e1,_,hw,_⟩:=p4 v i hv hi;rw [e1];omega
theorem l9{E:List (List (Int×Int))}{ids ins:List Int}(h:Bj E ids ins=true):OO E ids ins 0=some (E5 E (BJ E 0) E.length):=by
 obtain⟨p1,p2,p3,_⟩:=Dj h;obtain⟨d1,d2⟩:=Qi h 0 (by omega)
 have e0:(0:Int)=((0:Nat):Int):=rfl;unfold OO MB;have key:=Bb (fun v=>HV E ids ins (BJ E 0) v.1 v.2) (fun v=>(E5 E (BJ E 0) v,(v:Int))) E.length (E5 E (BJ E 0) E.length) ?_ ?_
 ·rw [e0,XG h 0 (by omega),Option.bind_some]
  rw [show(([],((0:Nat):Int)):List Int×Int)=(E5 E (BJ E 0) 0,((0:Nat):Int))from rfl,key];rfl
 ·intro v hv;have hl:=Om E (BJ E 0) v;simp only [HV];rw [if_pos (BZ hv),bf E ids ins _ v hv (p3 v hv) d1 d2 (jG h v hv),Option.bind_some,BM (by omega),Je v (by omega),VX]
 ·simp only [HV];rw [if_neg (Aq _)]
theorem lC{E:List (List (Int×Int))}{ids ins:List Int}(h:Bj E ids ins=true)(hE:BU E)(h1:ids.length<1099511627776)(h2:ins.length<1099511627776):IP E ids ins 0=some (E5 E (BJ E 0) E.length,true):=by
 obtain⟨p1,p2,p3,_⟩:=Dj h;obtain⟨d1,d2⟩:=Qi h 0 (by omega)
 have e0:(0:Int)=((0:Nat):Int):=rfl
 have hn:DD E ids ins ((0:Nat):Int)=some true:=by
  unfold DD;rw [Ir _ (by omega),FK.2 ⟨by omega,by omega⟩]
 unfold IP I1;have key:=Bb (fun v=>DL E (BJ E 0) v.1 v.2) (fun v=>(E5 E (BJ E 0) v,(v:Int))) E.length (E5 E (BJ E 0) E.length) ?_ ?_
 ·rw [BM hE,BM h1,BM h2,if_pos h,e0,hn,Option.bind_some,if_pos rfl,RY h 0 (by omega),Option.bind_some]
  rw [show(([],((0:Nat):Int)):List Int×Int)=(E5 E (BJ E 0) 0,((0:Nat):Int))from rfl,key];rfl
 ·intro v hv;have hl:=Om E (BJ E 0) v;simp only [DL,Int.toNat_natCast];rw [if_pos (BZ hv),BM (by omega),bg E _ v hv (p3 v hv) d1 d2 (jG h v hv),Option.bind_some,BM (by omega),Je v (by omega),VX]
 ·simp only [DL];rw [if_neg (Aq _)]
def bi(x:Int×Int×Int×Int):List Int:=[x.1,x.2.1,x.2.2.1,x.2.2.2]
theorem gz(E:List (List (Int×Int)))(ids ins:List Int)(v i:Nat)(hv:v<E.length)(hi:i<(E.getD v default).length):Mi E ids ins (v:Int) (i:Int)=some (JE E v i):=by
 unfold Mi JE;simp only [Int.toNat_natCast];rw [BM (by omega),BM (by omega)]
 by_cases c1:(v:Int)<BA (E.getD v default) i
 ·rw [if_pos c1,decide_eq_true c1];rfl
 ·rw [if_neg c1,decide_eq_false c1,Bool.false_or];by_cases c2:(v:Int)=BA (E.getD v default) i
  ·rw [if_pos c2,decide_eq_true c2,Bool.true_and]
  ·rw [if_neg c2,decide_eq_false c2,Bool.false_and]
theorem iA(E:List (List (Int×Int)))(ids ins:List Int)(v:Nat)(hv:v<E.length)(out:List (Int×Int×Int×Int))(hd:(E.getD v default).length≤6)(ho:out.length≤1000):
  JW E ids ins (v:Int) (out.map bi,0)=some ((out++SE E v (E.getD v default).length).map bi):=by
 unfold JW;have key:=Bb (fun w=>Ff E ids ins (v:Int) w.1 w.2) (fun i=>((out++SE E v i).map bi,(i:Int))) (E.getD v default).length ((out++SE E v (E.getD v default).length).map bi) ?_ ?_
 ·have e:((0:Nat):Int)=0:=rfl;simp only [e,SE,List.append_nil]at key;exact key
 ·intro i hi;have hl:=TM E v i;have hs:SE E v (i+1)=if JE E v i=true then SE E v i++[((v:Int),(i:Int),BA (E.getD v default) i,Bc (E.getD v default) i)]else SE E v i:=rfl
  simp only [Ff,Int.toNat_natCast];rw [if_pos (BZ hi),BM (by omega),gz E ids ins v i hv hi,Option.bind_some,Je i (by omega),hs]
  cases JE E v i with
  | true=>
   rw [if_pos rfl,if_pos rfl,BM (by rw [List.length_map,List.length_append];omega),←List.append_assoc,List.map_append (l₁:=out++SE E v i)];rfl
  | false=>rw [if_neg (by decide),if_neg (by decide)]
 ·simp only [Ff,Int.toNat_natCast];rw [if_neg (Aq _)]
theorem VY(E:List (List (Int×Int)))(ids ins:List Int)(hE:E.length≤40)(hd: ∀v,v<E.length→(E.getD v default).length≤6):Ku E ids ins=some ((F9 E E.length).map bi):=by
 unfold Ku Kk;have key:=Bb (fun w=>Fg E ids ins w.1 w.2) (fun v=>((F9 E v).map bi,(v:Int))) E.length ((F9 E E.length).map bi) ?_ ?_
 ·have e:((0:Nat):Int)=0:=rfl;simp only [e]at key;rw [show(([],0):List (List Int)×Int)=((F9 E 0).map bi,0)from rfl,key];rfl
 ·intro v hv;have hl:=NM E hd v (by omega)
  simp only [Fg];rw [if_pos (BZ hv),BM (by omega),iA E ids ins v hv _ (hd v hv) (by omega),Option.bind_some,Je v (by omega)]
  rfl
 ·simp only [Fg];rw [if_neg (Aq _)]
end Go.Proofs.Ytipfckompmhljaa
