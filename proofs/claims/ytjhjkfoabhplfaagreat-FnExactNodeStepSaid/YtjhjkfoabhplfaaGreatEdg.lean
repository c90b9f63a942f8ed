/- Edges looked up, as a plain function. Conditions: the lists are short and increasing. -/
import Derived.Test.YtjhjkfoabhplfaaGreatL6
import Derived.Test.YtjhjkfoabhplfaaGreatCut
namespace Go.Proofs.YtjhjkfoabhplfaaGreat
open Go Dv
set_option linter.unusedSimpArgs false
set_option linter.unusedVariables false
set_option maxRecDepth 100000
set_option maxHeartbeats 4000000
def uw(es:AO)(a b:Int):Bool:=es.contains (if b<a then [b,a]else [a,b])
noncomputable def MR(AP:Int)(AQ:Int)(AX:AO)(AY:AO)(a:Int)(b:Int):Option (Bool):= ck (BB AY)<| ck ([a,b].length<1099511627776)<| ck (RV AY=true)<| some (AY.contains (CY [a,b]))
def k83:SC:= .seq (.ops [oX 3 (.box 26 (tK 0)) 0,oX 6 Cr 4]) (.seq (.ops [oF 7 26 3 3,oL 8 22 7 22,oM 9 1 3,oM 10 2 3,oX 11 (.buildSlice 27 2 #[(0,(tK 9)),(1,(tK 10))]) 27,oC 12 108 [(tK 8),(tK 11)] [22,27] 4,oA 6 12 4]) .ret)
theorem A63:Tryz.f83.body.map (Bw lends)=some k83:=by kernel_rfl
theorem AIU:CP Tryz.f83 3=true:=by kernel_rfl
theorem c83{a l:List D}{r:D×List D}(h:CG Y.env k83 (FX Ah l.length [ResultVar.tmp 6] r) (entry a l))(ha:a.length=3):Y.call 83 a l=some r:=
 AZ (Y:=Y) rfl Tryz.func83 (ha▸AIU) A63 h
theorem TP(AP:Int)(AQ:Int)(AX:AO)(AY:AO)(a:Int)(b:Int){r:Bool}(h:MR AP AQ AX AY a b=some r):Y.call 83 [D.agg [D.int .i64 AP,D.int .i64 AQ,D.sl 27 (AV Aw AX),D.sl 27 (AV Aw AY)],D.int .i64 a,D.int .i64 b] []=some (D.bool r,[]):=by
 refine c83 ?_ rfl;unfold k83;unfold MR at h;obtain⟨e1,e2,e3,h⟩:=XE h;have c4:=Mr AY [a,b] e1 e2 e3;simp only [Nk,fC]at c4
 obtain rfl:=Option.some.inj h
 simp only [↓AR,AU,↓reduceIte,Nat.reduceEqDiff,Nat.reduceLT,Nat.reduceLeDiff,c4]
theorem VF(l d:Int)(ns es:AO)(a b:Int)(h1:BB es)(h2:RV es=true):MR l d ns es a b=some (uw es a b):=by
 unfold MR uw;rw [BF h1,BF (by simp),BF h2,bz]
theorem VH(AP:Int)(AQ:Int)(AX:AO)(AY:AO)(a:Int)(b:Int)(h0:BB AY)(h1:RV AY=true):Y.call 83 [D.agg [D.int .i64 AP,D.int .i64 AQ,D.sl 27 (AV Aw AX),D.sl 27 (AV Aw AY)],D.int .i64 a,D.int .i64 b] []=some (D.bool (uw AY a b),[]):=TP AP AQ AX AY a b (VF AP AQ AX AY a b h0 h1)
end Go.Proofs.YtjhjkfoabhplfaaGreat
