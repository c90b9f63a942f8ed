/- A connected network is a forest where all its edges are in the tree: what the program counts. Conditions: those in each lemma. -/
import Derived.Test.YtipfckompmhljaaL6
import Derived.Test.YtipfckompmhljaaTwq
import Derived.Test.YtipfckompmhljaaNmk
namespace Go.Proofs.Ytipfckompmhljaa
open Go Dv
set_option linter.unusedSimpArgs false
set_option linter.unusedVariables false
set_option maxRecDepth 100000
theorem ZC{E:List (List (Int×Int))}{ids ins:List Int}(h:Bj E ids ins=true)(hc:Qh E=true): ∀x,x<E.length→0≤(BJ E 0).getD x default:=by
 intro x hx;obtain⟨p1,p2,_,_⟩:=Dj h;obtain⟨d1,d2⟩:=Qi h 0 (by omega)
 have hx':x<(BJ E 0).length:=by omega
 have h1:=(d2 x hx).1
 have h2:(BJ E 0).getD x default≠ -1:=by
  intro e;unfold Qh at hc;rw [Bool.not_eq_true',←Bool.not_eq_true,List.contains_iff_mem]at hc;exact hc (e▸(by rw [Av _ _ hx'];exact List.getElem_mem hx'))
 omega
theorem lD(E:List (List (Int×Int)))(ids ins r1 Eb:List Int)(hf:Eb.length=E.length)(hE:E.length≤40)(ha: ∀x,x<E.length→0≤Eb.getD x default):
  GU E ids ins r1 0 Eb (List.replicate E.length (-1),0)=some (List.replicate E.length 0):=by
 unfold GU;have key:=Bb (fun v=>Dq E ids ins r1 0 Eb v.1 v.2) (fun i=>(List.replicate i 0++(List.replicate E.length (-1)).drop i,(i:Int))) E.length (List.replicate E.length 0) ?_ ?_
 ·exact key
 ·intro i hi
  have hl:(List.replicate i (0:Int)++(List.replicate E.length (-1)).drop i).length=E.length:=by
   rw [List.length_append,List.length_replicate,List.length_drop,List.length_replicate];omega
  simp only [Dq,Int.toNat_natCast,hl]
  rw [if_pos (by rw [hf];exact BZ hi),BM (by omega),if_pos (ha i hi),BM (by omega),Je i (by omega),
   RO _ _ i 0 List.length_replicate (by rw [List.length_replicate];exact hi),List.replicate_succ']
 ·simp only [Dq];rw [if_neg (by rw [hf];exact Aq _),List.drop_of_length_le (by rw [List.length_replicate];omega),List.append_nil]
theorem lF{E:List (List (Int×Int))}{ids ins:List Int}(h:Bj E ids ins=true)(hc:Qh E=true):JV E ids ins=some (List.replicate E.length 0):=by
 obtain⟨p1,p2,_,_⟩:=Dj h;obtain⟨d1,d2⟩:=Qi h 0 (by omega)
 have ha:=ZC h hc;unfold JV;rw [bX (-1) (E.length:Int) (by omega),Option.bind_some,Int.toNat_natCast]
 unfold J9;have key:=Bb (fun v=>Dr E ids ins (List.replicate E.length (-1)) v.1 v.2) (fun i=>(if i=0 then List.replicate E.length (-1)else List.replicate E.length 0,(i:Int))) E.length (List.replicate E.length 0) ?_ ?_
 ·rw [if_pos rfl,Int.natCast_zero]at key;rw [key];rfl
 ·intro i hi;simp only [Dr,Int.toNat_natCast];rw [if_pos (by rw [List.length_replicate];exact BZ hi),Je i (by omega)]
  by_cases c:i=0
  ·subst c;have e0:Cf E ids ins ((0:Nat):Int)=some (BJ E 0):=RY h 0 hi;have em:(List.replicate E.length (-1:Int)).getD 0 default= -1:=by rw [Av _ _ (by rw [List.length_replicate];exact hi),List.getElem_replicate]
   rw [if_pos rfl,BM (by rw [List.length_replicate];omega),if_neg (by omega),e0,Option.bind_some,Int.natCast_zero,lD E ids ins _ _ d1 p1 ha,Option.bind_some,if_neg (by omega)]
  ·have em:(List.replicate E.length (0:Int)).getD i default=0:=by rw [Av _ _ (by rw [List.length_replicate];exact hi),List.getElem_replicate]
   rw [if_neg c,BM (by rw [List.length_replicate];omega),if_pos (by omega),if_neg (by omega)]
 ·simp only [Dr];rw [if_neg (by rw [List.length_replicate];exact Aq _),if_neg (by omega)]
theorem iD(E:List (List (Int×Int)))(ids ins:List Int)(L:List Ed)(n:Nat)(hn:1≤n∧n≤40):J4 E ids ins L (List.replicate n 0) (0,0)=some 1:=by
 unfold J4;have key:=Bb (fun v=>El E ids ins L (List.replicate n 0) v.1 v.2) (fun i=>(if i=0 then 0 else 1,(i:Int))) n 1 ?_ ?_
 ·rw [if_pos rfl,Int.natCast_zero]at key;exact key
 ·intro i hi;have em:(List.replicate n (0:Int)).getD i default=0:=by rw [Av _ _ (by rw [List.length_replicate];exact hi),List.getElem_replicate]
  simp only [El,Int.toNat_natCast,em];rw [if_pos (by rw [List.length_replicate];exact BZ hi),BM (by rw [List.length_replicate];omega),Je i (by omega)]
  by_cases c:i=0
  ·subst c;rw [if_pos (by omega),if_pos rfl,if_neg (by omega),Ir _ (by omega)];rfl
  ·rw [if_neg (by omega),if_neg c,if_neg (by omega)]
 ·simp only [El];rw [if_neg (by rw [List.length_replicate];exact Aq _),if_neg (by omega)]
def Qj(x:Ed):Bool:=decide (x.1=x.2.2.1)&&decide (x.2.1=x.2.2.2)
theorem bq{E:List (List (Int×Int))}{ids ins:List Int}(h:Bj E ids ins=true)(hc:Qh E=true):
  LV E ids ins=some (!(F9 E E.length).any Qj&&decide (((F9 E E.length).length:Int)=(E.length:Int)-1)):=by
 obtain⟨p1,p2,p3,_⟩:=Dj h;have hl:=NM E p3 E.length (by omega)
 unfold LV;rw [VU E ids ins p1 p3,Option.bind_some,A4d (F9 E E.length) _ Qj (by omega) (fun x _=> ?_),Option.bind_some]
 ·cases (F9 E E.length).any Qj with
  | true=>rw [if_pos rfl];rfl
  | false=>
   rw [if_neg (by decide),lF h hc,Option.bind_some,iD E ids ins _ E.length ⟨p2,p1⟩,Option.bind_some]
   have ew:IntKind.i64.wrap ((E.length:Int)-1)=(E.length:Int)-1:=Ir _ (by omega)
   simp only [ew];rfl
 ·unfold G6 Qj;by_cases c:x.1=x.2.2.1
  ·rw [if_pos c,decide_eq_true c,Bool.true_and]
  ·rw [if_neg c,decide_eq_false c,Bool.false_and]
end Go.Proofs.Ytipfckompmhljaa
