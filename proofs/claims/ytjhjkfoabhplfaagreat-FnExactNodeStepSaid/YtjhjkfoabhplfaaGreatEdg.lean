/- Edges looked up, as a plain function. Conditions: the lists are short and increasing. -/
import Derived.Test.YtjhjkfoabhplfaaGreatL6
import Derived.Test.YtjhjkfoabhplfaaGreatCut
namespace Go.Proofs.YtjhjkfoabhplfaaGreat
open Go Dv
set_option linter.unusedSimpArgs false
set_option linter.unusedVariables false
set_option maxRecDepth 100000
set_option maxHeartbeats 4000000
def sw(es:List (List Int))(a b:Int):Bool:=es.contains (if b<a then [b,a]else [a,b])
noncomputable def LJ(pL pD:Int)(pN pE:List (List Int))(a b:Int):Option (Bool):= ck (Ak pE)<| ck ([a,b].length<1099511627776)<| ck (QY pE=true)<| some (pE.contains (Bn [a,b]))
def k83:SC:= .seq (.ops [oX 3 (.box 26 (tK 0)) 0,oX 6 (.assign (.const (.bool false))) 4]) (.seq (.ops [oF 7 26 3 3,oL 8 22 7 22,oM 9 1 3,oM 10 2 3,oX 11 (.buildSlice 27 2 #[(0,(tK 9)),(1,(tK 10))]) 27,oC 12 108 [(tK 8),(tK 11)] [22,27] 4,oA 6 12 4]) .ret)
theorem A5P:Tryz.f83.body.map (BP lends)=some k83:=by kernel_rfl
theorem AHp:Be Tryz.f83 3=true:=by kernel_rfl
theorem c83{a l:List D}{r:D×List D}(h:BZ Y.env k83 (Eh AX l.length [ResultVar.tmp 6] r) (entry a l))(ha:a.length=3):Y.call 83 a l=some r:=
 AJ (Y:=Y) rfl Tryz.func83 (ha▸AHp) A5P h
theorem SE(pL pD:Int)(pN pE:List (List Int))(a b:Int){r:Bool}(h:LJ pL pD pN pE a b=some r):Y.call 83 [D.agg [D.int .i64 pL,D.int .i64 pD,D.sl 27 (A8 (fun x=>D.sl 3 (A8 (D.int .i64) x)) pN),D.sl 27 (A8 (fun x=>D.sl 3 (A8 (D.int .i64) x)) pE)],D.int .i64 a,D.int .i64 b] []=some (D.bool r,[]):=by
 refine c83 ?_ rfl;unfold k83;unfold LJ at h;obtain⟨e1,h⟩:=Ar h;obtain⟨e2,h⟩:=Ar h;obtain⟨e3,h⟩:=Ar h;have c4:=Lh pE [a,b] e1 e2 e3;simp only [MZ,bV]at c4;cases h;simp only [↓AB,AC,↓reduceIte,Nat.reduceEqDiff,Nat.reduceLT,Nat.reduceLeDiff,c4]
theorem UM(l d:Int)(ns es:List (List Int))(a b:Int)(h1:Ak es)(h2:QY es=true):LJ l d ns es a b=some (sw es a b):=by
 unfold LJ sw;rw [Am h1,Am (by simp),Am h2,aA]
theorem UN(pL pD:Int)(pN pE:List (List Int))(a b:Int)(h0:Ak pE)(h1:QY pE=true):Y.call 83 [D.agg [D.int .i64 pL,D.int .i64 pD,D.sl 27 (A8 (fun x=>D.sl 3 (A8 (D.int .i64) x)) pN),D.sl 27 (A8 (fun x=>D.sl 3 (A8 (D.int .i64) x)) pE)],D.int .i64 a,D.int .i64 b] []=some (D.bool (sw pE a b),[]):=SE pL pD pN pE a b (UM pL pD pN pE a b h0 h1)
end Go.Proofs.YtjhjkfoabhplfaaGreat
