/- Lifts: all edges of a lift laid. Conditions: those in each lemma. -/
import Derived.Test.YtipfckompmhljaaL6
import Derived.Test.YtipfckompmhljaaTwm
namespace Go.Proofs.Ytipfckompmhljaa
open Go Dv
set_option linter.unusedSimpArgs false
set_option linter.unusedVariables false
set_option maxRecDepth 100000
theorem rY{pk:List Int}(h:bz pk):GV pk 2=some true:=by
 obtain⟨hl,_⟩:=VZ h 0 (by omega)
 unfold GV GL;rw [if_pos (by rw [hl];rfl),BM (by omega)]
 have w1:IntKind.i64.wrap (2-1)=1:=Ir _ (by omega)
 rcases h with rfl | rfl
 ·have key:=Bb (fun v=>Bh [0,1] 2 v.1 v.2) (fun t=>((if t=0 then [false,false]else if t=1 then [true,false]else [true,true]),(t:Int))) 2 (.inr ()) ?_ ?_
  ·have e:(List.replicate (2:Int).toNat false,(0:Int))=((if(0:Nat)=0 then [false,false]else if(0:Nat)=1 then [true,false]else [true,true]),((0:Nat):Int)):=rfl
   rw [e,key];rfl
  ·intro t ht;simp only [Bh,w1];rcases t with _ | _ | t
   ·rw [if_pos (by decide),BM (by decide),if_pos (by decide),BM (by decide),if_neg (by decide),Je 0 (by omega)];rfl
   ·rw [if_pos (by decide),BM (by decide),if_pos (by decide),BM (by decide),if_neg (by decide),Je 1 (by omega)];rfl
   ·omega
  ·simp only [Bh];rw [if_neg (by decide)]
 ·have key:=Bb (fun v=>Bh [1,0] 2 v.1 v.2) (fun t=>((if t=0 then [false,false]else if t=1 then [false,true]else [true,true]),(t:Int))) 2 (.inr ()) ?_ ?_
  ·have e:(List.replicate (2:Int).toNat false,(0:Int))=((if(0:Nat)=0 then [false,false]else if(0:Nat)=1 then [false,true]else [true,true]),((0:Nat):Int)):=rfl
   rw [e,key];rfl
  ·intro t ht;simp only [Bh,w1];rcases t with _ | _ | t
   ·rw [if_pos (by decide),BM (by decide),if_pos (by decide),BM (by decide),if_neg (by decide),Je 0 (by omega)];rfl
   ·rw [if_pos (by decide),BM (by decide),if_pos (by decide),BM (by decide),if_neg (by decide),Je 1 (by omega)];rfl
   ·omega
  ·simp only [Bh];rw [if_neg (by decide)]
def rZ(E:List (List (Int×Int)))(x:Ed):Prop:= ∃v i w j:Nat,x=((v:Int),(i:Int),(w:Int),(j:Int))∧v<E.length∧w<E.length∧i<(E.getD v default).length∧j<(E.getD w default).length
def Mm(L:List Ed)(P:List (List Int))(B:List (List (Int×Int))):Nat→List (List (Int×Int))
 | 0=>B
 | k+1=>KY (Mm L P B k) (P.getD k default) (L.getD k default).1.toNat (L.getD k default).2.1.toNat (L.getD k default).2.2.1.toNat (L.getD k default).2.2.2.toNat 2
theorem Mo{E B:List (List (Int×Int))}(hB:Shp E B)(L:List Ed)(P:List (List Int))(hL: ∀x∈L,rZ E x)(hP: ∀k,k<L.length→bz (P.getD k default)): ∀k,k≤L.length→Shp E (Mm L P B k)
 | 0,_=>hB
 | k+1,hk=>by
  have ih:=Mo hB L P hL hP k (by omega)
  obtain⟨v,i,w,j,e,h1,h2,_,_⟩:=hL _ (List.getElem_mem (show k<L.length by omega))
  unfold Mm;rw [Av L k (by omega),e]
  exact Ql ih (hP k (by omega)) h1 h2 2 (by omega)
theorem lH{E B:List (List (Int×Int))}(hB:Shp E B)(hn:E.length≤20)(L:List Ed)(hLl:L.length≤1000)(P:List (List Int))(hPl:P.length=L.length)(hL: ∀x∈L,rZ E x)(hP: ∀k,k<L.length→bz (P.getD k default))(r13:List (List (Int×Int))×List Int):
  KR 2 P L r13 (B,0)=some (.inr (Mm L P B L.length)):=by
 unfold KR;have key:=Bb (fun x=>H7 2 P L r13 x.1 x.2) (fun k=>(Mm L P B k,(k:Int))) L.length (.inr (Mm L P B L.length)) ?_ ?_
 ·exact key
 ·intro k hk;have hS:=Mo hB L P hL hP k (by omega)
  obtain⟨v,i,w,j,e,h1,h2,h3,h4⟩:=hL _ (List.getElem_mem hk);have eg:L.getD k default=((v:Int),(i:Int),(w:Int),(j:Int)):=by rw [Av L k hk,e]
  simp only [H7,Int.toNat_natCast];rw [if_pos (BZ hk),BM (by omega),BM (by omega),rY (hP k hk),Option.bind_some,if_pos rfl,rW hS hn P L r13 k v i w j eg (hP k hk) h1 h2 h3 h4,Option.bind_some,Je k (by omega)]
  show _=some (Sum.inl (KY (Mm L P B k) (P.getD k default) (L.getD k default).1.toNat (L.getD k default).2.1.toNat (L.getD k default).2.2.1.toNat (L.getD k default).2.2.2.toNat 2,_))
  rw [eg];rfl
 ·simp only [H7];rw [if_neg (Aq _)]
theorem lI{E B:List (List (Int×Int))}(hB:Shp E B)(hn:E.length≤20)(L:List Ed)(hLl:L.length≤1000)(P:List (List Int))(hPl:P.length=L.length)(hL: ∀x∈L,rZ E x)(hP: ∀k,k<L.length→bz (P.getD k default))(r1:List (List (Int×Int))×List Int×List Int)(r3:List (List (Int×Int))×List Int):
  KW 2 P r1 r3 (L.map bi) (B,0)=some (Mm L P B L.length):=by
 unfold KW;have key:=Bb (fun x=>He 2 P r1 r3 (L.map bi) x.1 x.2) (fun k=>(Mm L P B k,(k:Int))) L.length (Mm L P B L.length) ?_ ?_
 ·exact key
 ·intro k hk;have hS:=Mo hB L P hL hP k (by omega)
  obtain⟨v,i,w,j,e,h1,h2,h3,h4⟩:=hL _ (List.getElem_mem hk);have eg:L.getD k default=((v:Int),(i:Int),(w:Int),(j:Int)):=by rw [Av L k hk,e]
  simp only [He,List.length_map];rw [if_pos (BZ hk),BM (by omega),BM (by omega),rX hS hn P L r1 r3 k v i w j hk eg (hP k hk) h1 h2 h3 h4,Option.bind_some,Je k (by omega)]
  show _=some (Sum.inl (KY (Mm L P B k) (P.getD k default) (L.getD k default).1.toNat (L.getD k default).2.1.toNat (L.getD k default).2.2.1.toNat (L.getD k default).2.2.2.toNat 2,_))
  rw [eg];rfl
 ·simp only [He,List.length_map];rw [if_neg (Aq _)]
end Go.Proofs.Ytipfckompmhljaa
