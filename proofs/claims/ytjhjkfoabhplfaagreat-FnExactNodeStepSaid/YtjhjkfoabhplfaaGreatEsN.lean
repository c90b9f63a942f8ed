/- Node configurations, lifted. Conditions: none. -/
import Derived.Test.YtjhjkfoabhplfaaGreatL6
import Derived.Test.YtjhjkfoabhplfaaGreatEsA
namespace Go.Proofs.YtjhjkfoabhplfaaGreat
open Go Dv
set_option linter.unusedSimpArgs false
set_option linter.unusedVariables false
set_option maxRecDepth 100000
set_option maxHeartbeats 4000000
noncomputable def LW(pL pD:Int)(pN pE:List (List Int))(labels:List Int):Option (Bool):= ck (Ak pN)<| ck (labels.length<1099511627776)<| ck (QY pN=true)<| some (pN.contains (Bn labels))
def k77:SC:= .seq (.ops [oX 2 (.box 26 (tK 0)) 0,oX 4 (.assign (.const (.bool false))) 4]) (.seq (.ops [oF 5 26 2 2,oL 6 22 5 22,oM 7 1 27,oC 8 108 [(tK 6),(tK 7)] [22,27] 4,oA 4 8 4]) .ret)
theorem A5z:Tryz.f77.body.map (BP lends)=some k77:=by kernel_rfl
theorem AIf:Be Tryz.f77 2=true:=by kernel_rfl
theorem c77{a l:List D}{r:D×List D}(h:BZ Y.env k77 (Eh AX l.length [ResultVar.tmp 4] r) (entry a l))(ha:a.length=2):Y.call 77 a l=some r:=
 AJ (Y:=Y) rfl Tryz.func77 (ha▸AIf) A5z h
theorem SF(pL pD:Int)(pN pE:List (List Int))(labels:List Int){r:Bool}(h:LW pL pD pN pE labels=some r):Y.call 77 [D.agg [D.int .i64 pL,D.int .i64 pD,D.sl 27 (A8 (fun x=>D.sl 3 (A8 (D.int .i64) x)) pN),D.sl 27 (A8 (fun x=>D.sl 3 (A8 (D.int .i64) x)) pE)],D.sl 3 (A8 (D.int .i64) labels)] []=some (D.bool r,[]):=by
 refine c77 ?_ rfl;unfold k77;unfold LW at h;obtain⟨e1,h⟩:=Ar h;obtain⟨e2,h⟩:=Ar h;obtain⟨e3,h⟩:=Ar h;have c4:=Lh pN labels e1 e2 e3;cases h;simp only [↓AB,AC,↓reduceIte,Nat.reduceEqDiff,Nat.reduceLT,c4]
end Go.Proofs.YtjhjkfoabhplfaaGreat
