/- Node configurations, lifted. Conditions: none. -/
import Derived.Test.YtjhjkfoabhplfaaGreatL6
import Derived.Test.YtjhjkfoabhplfaaGreatEsA
namespace Go.Proofs.YtjhjkfoabhplfaaGreat
open Go Dv
set_option linter.unusedSimpArgs false
set_option linter.unusedVariables false
set_option maxRecDepth 100000
set_option maxHeartbeats 4000000
noncomputable def IA(pL pD:Int)(pN pE:AL)(labels:AA):Option (Bool):= ck (Ah pN)<| ck (labels.length<1099511627776)<| ck (LP pN=true)<| some (pN.contains (Bt labels))
def k77:SC:= .seq (.ops [oX 2 (.box 26 (tK 0)) 0,oX 4 BX 4]) (.seq (.ops [oF 5 26 2 2,oL 6 22 5 22,oM 7 1 27,oC 8 108 [(tK 6),(tK 7)] [22,27] 4,oA 4 8 4]) .ret)
theorem A8c:Tryz.f77.body.map (BI lends)=some k77:=by kernel_rfl
theorem ALe:BR Tryz.f77 2=true:=by kernel_rfl
theorem c77{a l:List D}{r:D×List D}(h:BU Y.env k77 (Du Ab l.length [ResultVar.tmp 4] r) (entry a l))(ha:a.length=2):Y.call 77 a l=some r:=
 AP (Y:=Y) rfl Tryz.func77 (ha▸ALe) A8c h
theorem OG(pL pD:Int)(pN pE:AL)(labels:AA){r:Bool}(h:IA pL pD pN pE labels=some r):Y.call 77 [D.agg [D.int .i64 pL,D.int .i64 pD,D.sl 27 (AJ Ac pN),D.sl 27 (AJ Ac pE)],D.sl 3 (AJ (D.int .i64) labels)] []=some (D.bool r,[]):=by
 refine c77 ?_ rfl;unfold k77;unfold IA at h;obtain⟨e1,e2,e3,h⟩:=Wm h;have c4:=Mh pN labels e1 e2 e3;cases h;simp only [↓AB,AC,↓reduceIte,Nat.reduceEqDiff,Nat.reduceLT,c4]
end Go.Proofs.YtjhjkfoabhplfaaGreat
