/- Lifts: the nodes of a lift before its edges are laid. Conditions: those in each lemma. -/
import Derived.Test.YtipfckompmhljaaL6
import Derived.Test.YtipfckompmhljaaTwu
namespace Go.Proofs.Ytipfckompmhljaa
open Go Dv
set_option linter.unusedSimpArgs false
set_option linter.unusedVariables false
set_option maxRecDepth 100000
def Ml(E:List (List (Int×Int)))(n:Nat):List (List (Int×Int)):=(List.range n).map fun x=>List.replicate (E.getD (x / 2) default).length (0,0)
def Le(ins:List Int)(n:Nat):List Int:=(List.range n).map fun x=>ins.getD (x / 2) default
theorem XJ(E:List (List (Int×Int)))(n:Nat):Ml E (n+1)=Ml E n++[List.replicate (E.getD (n / 2) default).length (0,0)]:=by simp [Ml,List.range_succ]
theorem XK(ins:List Int)(n:Nat):Le ins (n+1)=Le ins n++[ins.getD (n / 2) default]:=by simp [Le,List.range_succ]
theorem Qk(E:List (List (Int×Int)))(n:Nat):(Ml E n).length=n:=by simp [Ml]
theorem OZ(ins:List Int)(n:Nat):(Le ins n).length=n:=by simp [Le]
theorem ACj(i:Nat)(hi:i<1000):IntKind.i64.wrap ((i:Int).tdiv 2)=((i / 2:Nat):Int):=by
 rw [Int.tdiv_eq_ediv_of_nonneg (by omega),Ir _ (by omega)];omega
theorem iE(E:List (List (Int×Int)))(ids ins:List Int)(P:List (List Int))(hn:E.length≤20)(hi:ins.length=E.length)(hd: ∀v,v<E.length→(E.getD v default).length≤6):
  KP E ids ins 2 P (List.replicate (2*E.length) ([]:List (Int×Int)),List.replicate (2*E.length) 0,0)=some (Ml E (2*E.length),Le ins (2*E.length)):=by
 have ew:(IntKind.i64.wrap (2*(E.length:Int))).toNat=2*E.length:=by rw [Ir _ (by omega)];omega
 unfold KP;have key:=Bb (fun v=>H5 E ids ins 2 P v.1 v.2.1 v.2.2) (fun i=>(Ml E i++(List.replicate (2*E.length) ([]:List (Int×Int))).drop i,Le ins i++(List.replicate (2*E.length) (0:Int)).drop i,(i:Int))) (2*E.length) (Ml E (2*E.length),Le ins (2*E.length)) ?_ ?_
 ·exact key
 ·intro i hi';have l0:=Qk E i;have l1:=OZ ins i;have hh:=ACj i (by omega)
  have hd':=hd (i / 2) (by omega)
  simp only [H5,ew,List.length_replicate,hh,Int.toNat_natCast]
  rw [if_pos (BZ hi'),BM (by omega),BM (by omega),BM (by omega),BM (by rw [List.length_append,List.length_drop,List.length_replicate];omega),BM (by omega),BM (by rw [List.length_append,List.length_drop,List.length_replicate];omega),Je i (by omega),
   RO _ _ i _ l0 (by rw [List.length_replicate];exact hi'),RO _ _ i _ l1 (by rw [List.length_replicate];exact hi'),XJ,XK]
 ·simp only [H5,ew,List.length_replicate];rw [if_neg (Aq _),List.drop_of_length_le (by rw [List.length_replicate];exact Nat.le_refl _),List.drop_of_length_le (by rw [List.length_replicate];exact Nat.le_refl _),List.append_nil,List.append_nil]
theorem at2(v t:Nat)(hv:v≤40)(ht:t<2):IntKind.i64.wrap (IntKind.i64.wrap ((v:Int)*2)+(t:Int))=((2*v+t:Nat):Int):=by
 rw [Ir ((v:Int)*2) (by omega),Ir _ (by omega)];omega
theorem iF(E:List (List (Int×Int)))(ids ins:List Int)(P:List (List Int))(r1:List (List (Int×Int))×List Int×List Int)(hn:E.length≤20)(hi:ins.length=E.length)(v:Nat)(hv:v<E.length)(hd:(E.getD v default).length≤6):
  KS E ids ins 2 P r1 (v:Int) (Ml E (2*v)++(List.replicate (2*E.length) ([]:List (Int×Int))).drop (2*v),Le ins (2*v)++(List.replicate (2*E.length) (0:Int)).drop (2*v),0)
   =some (Ml E (2*(v+1))++(List.replicate (2*E.length) ([]:List (Int×Int))).drop (2*(v+1)),Le ins (2*(v+1))++(List.replicate (2*E.length) (0:Int)).drop (2*(v+1))):=by
 unfold KS;have key:=Bb (fun x=>HZ E ids ins 2 P r1 (v:Int) x.1 x.2.1 x.2.2) (fun t=>(Ml E (2*v+t)++(List.replicate (2*E.length) ([]:List (Int×Int))).drop (2*v+t),Le ins (2*v+t)++(List.replicate (2*E.length) (0:Int)).drop (2*v+t),(t:Int))) 2
  (Ml E (2*(v+1))++(List.replicate (2*E.length) ([]:List (Int×Int))).drop (2*(v+1)),Le ins (2*(v+1))++(List.replicate (2*E.length) (0:Int)).drop (2*(v+1))) ?_ ?_
 ·exact key
 ·intro t ht;have l0:=Qk E (2*v+t);have l1:=OZ ins (2*v+t);have e2:(2*v+t) / 2=v:=by omega
  have ei:=at2 v t (by omega) ht
  simp only [HZ,ei,Int.toNat_natCast]
  rw [if_pos (by omega),BM (by omega),BM (by rw [List.length_append,List.length_drop,List.length_replicate];omega),BM (by omega),BM (by rw [List.length_append,List.length_drop,List.length_replicate];omega),Je t (by omega),
   RO _ _ (2*v+t) _ l0 (by rw [List.length_replicate];omega),RO _ _ (2*v+t) _ l1 (by rw [List.length_replicate];omega)]
  have a0:=XJ E (2*v+t);have a1:=XK ins (2*v+t);rw [e2]at a0 a1;rw [show 2*v+(t+1)=2*v+t+1 from rfl,a0,a1]
 ·simp only [HZ];rw [if_neg (by omega)];rfl
theorem iG(E:List (List (Int×Int)))(ids ins:List Int)(P:List (List Int))(r1:List (List (Int×Int))×List Int×List Int)(hn:E.length≤20)(hi:ins.length=E.length)(hd: ∀v,v<E.length→(E.getD v default).length≤6):
  KT E ids ins 2 P r1 (List.replicate (2*E.length) ([]:List (Int×Int)),List.replicate (2*E.length) 0,0)=some (Ml E (2*E.length),Le ins (2*E.length)):=by
 unfold KT;have key:=Bb (fun x=>Ha E ids ins 2 P r1 x.1 x.2.1 x.2.2) (fun v=>(Ml E (2*v)++(List.replicate (2*E.length) ([]:List (Int×Int))).drop (2*v),Le ins (2*v)++(List.replicate (2*E.length) (0:Int)).drop (2*v),(v:Int))) E.length (Ml E (2*E.length),Le ins (2*E.length)) ?_ ?_
 ·exact key
 ·intro v hv;simp only [Ha];rw [if_pos (BZ hv),BM (by omega),iF E ids ins P r1 hn hi v hv (hd v hv),Option.bind_some,Je v (by omega)]
 ·simp only [Ha];rw [if_neg (Aq _),List.drop_of_length_le (by rw [List.length_replicate];exact Nat.le_refl _),List.drop_of_length_le (by rw [List.length_replicate];exact Nat.le_refl _),List.append_nil,List.append_nil]
end Go.Proofs.Ytipfckompmhljaa
