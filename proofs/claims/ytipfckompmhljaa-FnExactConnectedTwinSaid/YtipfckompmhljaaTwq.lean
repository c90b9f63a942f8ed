/- The permutations of a twin's edges: program and reference agree. Conditions: those in each lemma. -/
import Derived.Test.YtipfckompmhljaaL6
import Derived.Test.YtipfckompmhljaaTwp
namespace Go.Proofs.Ytipfckompmhljaa
open Go Dv
set_option linter.unusedSimpArgs false
set_option linter.unusedVariables false
set_option maxRecDepth 100000
abbrev Ed:=Int×Int×Int×Int
def G7(span:List Int)(x:Ed):Bool:=decide (span.getD x.1.toNat default=x.2.1)||decide (span.getD x.2.2.1.toNat default=x.2.2.2)
def prm(span:List Int)(L:List Ed)(j:Nat):List Int:=if(G7 span (L.getD j default)||(L.take j).any fun x=> !G7 span x)=true then [0,1]else [1,0]
def Nh(span:List Int)(L:List Ed)(n:Nat):List (List Int):=(List.range n).map (prm span L)
theorem XH(span:List Int)(L:List Ed)(n:Nat):Nh span L (n+1)=Nh span L n++[prm span L n]:=by simp [Nh,List.range_succ]
theorem OY(span:List Int)(L:List Ed)(n:Nat):(Nh span L n).length=n:=by simp [Nh]
theorem bn(span:List Int)(L:List Ed)(i:Nat)(hi:i<L.length):((L.take (i+1)).any fun x=> !G7 span x)=(((L.take i).any fun x=> !G7 span x)|| !G7 span (L.getD i default)):=by
 rw [List.take_succ_eq_append_getElem hi,List.any_append,Av _ _ hi];simp
theorem iB(E:List (List (Int×Int)))(ids ins span:List Int)(ok:Bool)(L:List Ed)(hL:L.length≤1000)(h: ∀x∈L,(0≤x.1∧x.1.toNat<span.length)∧0≤x.2.2.1∧x.2.2.1.toNat<span.length):
  EU E ids ins (span,ok) L ([],false,0)=some (Nh span L L.length):=by
 unfold EU;have key:=Bb (fun v=>Cs E ids ins (span,ok) L v.1 v.2.1 v.2.2) (fun i=>(Nh span L i,(L.take i).any (fun x=> !G7 span x),(i:Int))) L.length (Nh span L L.length) ?_ ?_
 ·exact key
 ·intro i hi;have hl:=OY span L i;obtain⟨⟨a1,a2⟩,a3,a4⟩:=h _ (List.getElem_mem hi);have eg:=Av L i hi;simp only [Cs,Int.toNat_natCast,NT,R6,Oq,R7,eg];rw [if_pos (BZ hi),BM (by omega),Je i (by omega),XH,bn span L i hi,eg]
  unfold prm;rw [eg]
  cases hd:(L.take i).any fun x=> !G7 span x with
  | true=>rw [if_pos rfl,BM (by omega),Bool.or_true,if_pos rfl,Bool.true_or]
  | false=>
   rw [if_neg (by decide),BM ⟨a1,a2⟩,Bool.or_false,Bool.false_or]
   unfold G7;by_cases c1:span.getD L[i].1.toNat default=L[i].2.1
   ·rw [if_pos c1,BM (by omega),decide_eq_true c1,Bool.true_or,if_pos rfl];rfl
   ·rw [if_neg c1,BM ⟨a3,a4⟩,decide_eq_false c1,Bool.false_or];by_cases c2:span.getD L[i].2.2.1.toNat default=L[i].2.2.2
    ·rw [if_pos c2,BM (by omega),decide_eq_true c2,if_pos rfl];rfl
    ·rw [if_neg c2,BM (by omega),decide_eq_false c2,if_neg (by decide)];rfl
 ·simp only [Cs];rw [if_neg (Aq _)]
theorem iC(span:List Int)(L:List Ed)(hL:L.length≤1000)(h: ∀x∈L,(0≤x.1∧x.1.toNat<span.length)∧0≤x.2.2.1∧x.2.2.1.toNat<span.length):
  JZ span (L.map bi) ([],false,0)=some (Nh span L L.length,L.any fun x=> !G7 span x):=by
 unfold JZ;have key:=Bb (fun v=>Fj span (L.map bi) v.1 v.2.1 v.2.2) (fun i=>(Nh span L i,(L.take i).any (fun x=> !G7 span x),(i:Int))) L.length (Nh span L L.length,L.any fun x=> !G7 span x) ?_ ?_
 ·exact key
 ·intro i hi;have hl:=OY span L i;obtain⟨⟨a1,a2⟩,a3,a4⟩:=h _ (List.getElem_mem hi);have hi':i<(L.map bi).length:=by rw [List.length_map];exact hi
  have eg:=Av L i hi;have em:(L.map bi).getD i default=[L[i].1,L[i].2.1,L[i].2.2.1,L[i].2.2.2]:=by rw [Av _ _ hi',List.getElem_map];rfl
  have g0: ∀a b c d:Int,[a,b,c,d].getD 0 default=a:=fun _ _ _ _=>rfl;have g1: ∀a b c d:Int,[a,b,c,d].getD 1 default=b:=fun _ _ _ _=>rfl;have g2: ∀a b c d:Int,[a,b,c,d].getD 2 default=c:=fun _ _ _ _=>rfl;have g3: ∀a b c d:Int,[a,b,c,d].getD 3 default=d:=fun _ _ _ _=>rfl;simp only [Fj,Int.toNat_natCast,em,g0,g1,g2,g3,List.length_cons,List.length_nil];rw [if_pos (BZ hi'),BM (by omega),Je i (by omega),XH,bn span L i hi,eg]
  unfold prm;rw [eg]
  cases hd:(L.take i).any fun x=> !G7 span x with
  | true=>rw [if_pos rfl,BM (by omega),Bool.or_true,if_pos rfl,Bool.true_or]
  | false=>
   rw [if_neg (by decide),BM (by decide),BM ⟨a1,a2⟩,BM (by decide),Bool.or_false,Bool.false_or]
   unfold G7;by_cases c1:span.getD L[i].1.toNat default=L[i].2.1
   ·rw [if_pos c1,BM (by omega),decide_eq_true c1,Bool.true_or,if_pos rfl];rfl
   ·rw [if_neg c1,BM (by decide),BM ⟨a3,a4⟩,BM (by decide),decide_eq_false c1,Bool.false_or]
    by_cases c2:span.getD L[i].2.2.1.toNat default=L[i].2.2.2
    ·rw [if_pos c2,BM (by omega),decide_eq_true c2,if_pos rfl];rfl
    ·rw [if_neg c2,BM (by omega),decide_eq_false c2,if_neg (by decide)];rfl
 ·simp only [Fj];rw [if_neg (by rw [List.length_map];exact Aq _),List.take_length]
end Go.Proofs.Ytipfckompmhljaa
