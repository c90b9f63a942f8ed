/- Node configurations, lifted. Conditions: none. -/
import Derived.Test.YtjhjkfoabhplfaaGreatL6
import Derived.Test.YtjhjkfoabhplfaaGreatEsA
namespace Go.Proofs.YtjhjkfoabhplfaaGreat
open Go Dv
set_option linter.unusedSimpArgs false
set_option linter.unusedVariables false
set_option maxRecDepth 100000
set_option maxHeartbeats 4000000
noncomputable def Ma(AP:Int)(AQ:Int)(AX:AO)(AY:AO)(labels:AL):Option (Bool):= ck (BB AX)<| ck (labels.length<1099511627776)<| ck (RV AX=true)<| some (AX.contains (CY labels))
def k77:SC:= .seq (.ops [oX 2 (.box 26 (tK 0)) 0,oX 4 Cr 4]) (.seq (.ops [oF 5 26 2 2,oL 6 22 5 22,oM 7 1 27,oC 8 108 [(tK 6),(tK 7)] [22,27] 4,oA 4 8 4]) .ret)
theorem A6f:Tryz.f77.body.map (Bw lends)=some k77:=by kernel_rfl
theorem AJK:CP Tryz.f77 2=true:=by kernel_rfl
theorem c77{a l:List D}{r:D×List D}(h:CG Y.env k77 (FX Ah l.length [ResultVar.tmp 4] r) (entry a l))(ha:a.length=2):Y.call 77 a l=some r:=
 AZ (Y:=Y) rfl Tryz.func77 (ha▸AJK) A6f h
theorem TQ(AP:Int)(AQ:Int)(AX:AO)(AY:AO)(labels:AL){r:Bool}(h:Ma AP AQ AX AY labels=some r):Y.call 77 [D.agg [D.int .i64 AP,D.int .i64 AQ,D.sl 27 (AV Aw AX),D.sl 27 (AV Aw AY)],D.sl 3 (AV (D.int .i64) labels)] []=some (D.bool r,[]):=by
 refine c77 ?_ rfl;unfold k77;unfold Ma at h;obtain⟨e1,e2,e3,h⟩:=XE h;have c4:=Mr AX labels e1 e2 e3
 obtain rfl:=Option.some.inj h
 simp only [↓AR,AU,↓reduceIte,Nat.reduceEqDiff,Nat.reduceLT,c4]
end Go.Proofs.YtjhjkfoabhplfaaGreat
