/- Edges looked up, as a plain function. Conditions: the lists are short and increasing. -/
import Derived.Test.YtiehjihckndgkaaGreatL6
import Derived.Test.YtiehjihckndgkaaGreatCut
namespace Go.Proofs.YtiehjihckndgkaaGreat
open Go Dv
set_option linter.unusedSimpArgs false
set_option linter.unusedVariables false
set_option maxRecDepth 100000
set_option maxHeartbeats 4000000
def Qc(es:AY)(a b:Int):Bool:=es.contains (if b<a then [b,a]else [a,b])
noncomputable def Mh(AP:Int)(AU:Int)(AV:AY)(AX:AY)(a:Int)(b:Int):Option (Bool):= ck (Bv AX)<| ck ([a,b].length<1099511627776)<| ck (Us AX=true)<| some (AX.contains (Me [a,b]))
def k88:SC:= .seq (.ops [oX 3 (.box 34 (tK 0)) 0,oX 6 CY 4]) (.seq (.ops [oF 7 34 3 3,oL 8 22 7 22,oM 9 1 3,oM 10 2 3,oX 11 (.buildSlice 26 2 #[(0,(tK 9)),(1,(tK 10))]) 26,oC 12 117 [(tK 8),(tK 11)] [22,26] 4,oA 6 12 4]) .ret)
theorem AAd:Tryz.f88.body.map (BX lends)=some k88:=by kernel_rfl
theorem ANz:Bj Tryz.f88 3=true:=by kernel_rfl
theorem c88{a l:List D}{r:D×List D}(h:Br Y.env k88 (fin Ap l.length [ResultVar.tmp 6] r) (entry a l))(ha:a.length=3):Y.call 88 a l=some r:=
 AZ (Y:=Y) rfl Tryz.func88 (ha▸ANz) AAd h
theorem UL(AP:Int)(AU:Int)(AV:AY)(AX:AY)(a:Int)(b:Int){r:Bool}(h:Mh AP AU AV AX a b=some r):Y.call 88 [D.agg [D.int .i64 AP,D.int .i64 AU,D.sl 26 (AQ Bw AV),D.sl 26 (AQ Bw AX)],D.int .i64 a,D.int .i64 b] []=some (D.bool r,[]):=by
 refine c88 ?_ rfl;unfold k88;unfold Mh at h;obtain⟨e1,e2,e3,h⟩:=Q3 h;have c4:=NG AX [a,b] e1 e2 e3;simp only [KW,Vm]at c4
 obtain rfl:=Option.some.inj h
 simp (maxDischargeDepth:=9) only [↓AL,AO,↓reduceIte,Nat.reduceEqDiff,Nat.reduceLT,Nat.reduceLeDiff,Nat.reduceAdd,c4]
noncomputable def L8(a:Int)(b:Int):Option (Int):= if a<b then some a else some b
def AAe:SC:= .seq (.ops [oX 4 (.assign (iK 0)) 3]) (.seq (.seq (.ops [oM 5 0 3,oM 6 1 3,oB 7 .lss 3 (tK 5) (tK 6) 3 4]) (.cond (tK 7) (.seq (.ops [oM 8 0 3,oA 4 8 3]) .ret) .skip)) (.seq (.ops [oM 9 1 3,oA 4 9 3]) .ret))
theorem A4Z:Tryz.f114.body.map (BX lends)=some AAe:=by kernel_rfl
theorem AHy:Bj Tryz.f114 2=true:=by kernel_rfl
theorem AO0{a l:List D}{r:D×List D}(h:Br Y.env AAe (fin Ap l.length [ResultVar.tmp 4] r) (entry a l))(ha:a.length=2):Y.call 114 a l=some r:=
 AZ (Y:=Y) rfl Tryz.func114 (ha▸AHy) A4Z h
theorem Mi(a:Int)(b:Int){r:Int}(h:L8 a b=some r):Y.call 114 [D.int .i64 a,D.int .i64 b] []=some (D.int .i64 r,[]):=by
 refine AO0 ?_ rfl;unfold AAe;unfold L8 at h;rcases iS h with⟨e1,h⟩|⟨e1,h⟩
 ·obtain rfl:=Option.some.inj h
  simp (maxDischargeDepth:=9) only [↓AL,AO,↓reduceIte,Nat.reduceEqDiff,Nat.reduceLT,e1]
 ·obtain rfl:=Option.some.inj h
  simp (maxDischargeDepth:=9) only [↓AL,AO,↓reduceIte,Nat.reduceEqDiff,Nat.reduceLT,e1]
noncomputable def WL(a:Int)(b:Int):Option (Int):= if b<a then some a else some b
def AAf:SC:= .seq (.ops [oX 4 (.assign (iK 0)) 3]) (.seq (.seq (.ops [oM 5 0 3,oM 6 1 3,oB 7 .gtr 3 (tK 5) (tK 6) 3 4]) (.cond (tK 7) (.seq (.ops [oM 8 0 3,oA 4 8 3]) .ret) .skip)) (.seq (.ops [oM 9 1 3,oA 4 9 3]) .ret))
theorem A4a:Tryz.f123.body.map (BX lends)=some AAf:=by kernel_rfl
theorem AHz:Bj Tryz.f123 2=true:=by kernel_rfl
theorem AO1{a l:List D}{r:D×List D}(h:Br Y.env AAf (fin Ap l.length [ResultVar.tmp 4] r) (entry a l))(ha:a.length=2):Y.call 123 a l=some r:=
 AZ (Y:=Y) rfl Tryz.func123 (ha▸AHz) A4a h
theorem gm(a:Int)(b:Int){r:Int}(h:WL a b=some r):Y.call 123 [D.int .i64 a,D.int .i64 b] []=some (D.int .i64 r,[]):=by
 refine AO1 ?_ rfl;unfold AAf;unfold WL at h;rcases iS h with⟨e1,h⟩|⟨e1,h⟩
 ·obtain rfl:=Option.some.inj h
  simp (maxDischargeDepth:=9) only [↓AL,AO,↓reduceIte,Nat.reduceEqDiff,Nat.reduceLT,e1]
 ·obtain rfl:=Option.some.inj h
  simp (maxDischargeDepth:=9) only [↓AL,AO,↓reduceIte,Nat.reduceEqDiff,Nat.reduceLT,e1]
noncomputable def WM(AP:Int)(AU:Int)(AV:AY)(AX:AY)(a:Int)(b:Int):Option (Bool):= (L8 a b).bind fun CS=> (WL a b).bind fun Uv=> ck (AX.length<1099511627776)<| ck ([CS,Uv].length<1099511627776)<| some (AX.contains [CS,Uv])
abbrev bT:List Nat:=[7,8,9,10,11,12,13,14,15,11,14,11,14,16,6,16,16]
def k94:SC:= .seq (.ops [oX 3 (.box 34 (tK 0)) 0,oX 6 CY 4]) (.seq (.draws [(⟨[7,3,3],bT,[7]⟩,oF 7 34 3 3),(⟨[8,7,3],bT,[8]⟩,oL 8 22 7 22),(⟨[9,1,1],bT,[9]⟩,oM 9 1 3),(⟨[10,2,2],bT,[10]⟩,oM 10 2 3),(⟨[11,9,10,1,2],bT,[11]⟩,oC 11 114 [(tK 9),(tK 10)] [3,3] 3),(⟨[12,1,1],bT,[12]⟩,oM 12 1 3),(⟨[13,2,2],bT,[13]⟩,oM 13 2 3),(⟨[14,12,13,1,2],bT,[14]⟩,oC 14 123 [(tK 12),(tK 13)] [3,3] 3),(⟨[15,11,14,11,14],bT,[15,11,14,11,14]⟩,oX 15 (.buildSlice 26 2 #[(0,(tK 11)),(1,(tK 14))]) 26),(⟨[16,8,15,3,15],bT,[16]⟩,oC 16 122 [(tK 8),(tK 15)] [22,26] 4),(⟨[6,16,16],bT,[6,16,16]⟩,oA 6 16 4)]) .ret)
theorem AAg:Tryz.f94.body.map (BX lends)=some k94:=by kernel_rfl
theorem AO3:Bj Tryz.f94 3=true:=by kernel_rfl
theorem c94{a l:List D}{r:D×List D}(h:Br Y.env k94 (fin Ap l.length [ResultVar.tmp 6] r) (entry a l))(ha:a.length=3):Y.call 94 a l=some r:=
 AZ (Y:=Y) rfl Tryz.func94 (ha▸AO3) AAg h
theorem gp(AP:Int)(AU:Int)(AV:AY)(AX:AY)(a:Int)(b:Int){r:Bool}(h:WM AP AU AV AX a b=some r):Y.call 94 [D.agg [D.int .i64 AP,D.int .i64 AU,D.sl 26 (AQ Bw AV),D.sl 26 (AQ Bw AX)],D.int .i64 a,D.int .i64 b] []=some (D.bool r,[]):=by
 refine c94 ?_ rfl;unfold k94;unfold WM at h;obtain⟨CS,hl1,h⟩:=Ak h;have c1:=Mi a b hl1;obtain⟨Uv,hl2,h⟩:=Ak h;have c2:=gm a b hl2;obtain⟨e3,e4,h⟩:=GX h;have c5:=vU AX [CS,Uv] e3 e4;simp only [KW,Vm]at c5
 obtain rfl:=Option.some.inj h
 simp (maxDischargeDepth:=9) only [↓AL,AO,↓reduceIte,Nat.reduceEqDiff,Nat.reduceLT,Nat.reduceLeDiff,Nat.reduceAdd,Nat.reduceBEq,c1,c2,c5]
theorem WN(l d:Int)(ns es:AY)(a b:Int)(h1:Bv es)(h2:Us es=true):Mh l d ns es a b=some (Qc es a b):=by
 unfold Mh Qc;rw [BL h1,BL (by simp),BL h2,zm]
theorem rU(l d:Int)(ns es:AY)(a b:Int)(h1:Bv es):WM l d ns es a b=some (Qc es a b):=by
 unfold WM L8 WL Qc;by_cases q1:a<b
 ·rw [if_pos q1,if_neg (by omega),if_neg (by omega),Cz,Cz,BL h1.1,BL (by simp)]
 ·by_cases q2:b<a
  ·rw [if_neg q1,if_pos q2,if_pos q2,Cz,Cz,BL h1.1,BL (by simp)]
  ·have:a=b:=by omega
   subst this;rw [if_neg q1,if_neg q1,Cz,Cz,BL h1.1,BL (by simp)]
theorem WO(AP:Int)(AU:Int)(AV:AY)(AX:AY)(a:Int)(b:Int)(h0:Bv AX)(h1:Us AX=true):Y.call 88 [D.agg [D.int .i64 AP,D.int .i64 AU,D.sl 26 (AQ Bw AV),D.sl 26 (AQ Bw AX)],D.int .i64 a,D.int .i64 b] []=some (D.bool (Qc AX a b),[]):=UL AP AU AV AX a b (WN AP AU AV AX a b h0 h1)
theorem rV(AP:Int)(AU:Int)(AV:AY)(AX:AY)(a:Int)(b:Int)(h0:Bv AX):Y.call 94 [D.agg [D.int .i64 AP,D.int .i64 AU,D.sl 26 (AQ Bw AV),D.sl 26 (AQ Bw AX)],D.int .i64 a,D.int .i64 b] []=some (D.bool (Qc AX a b),[]):=gp AP AU AV AX a b (rU AP AU AV AX a b h0)
end Go.Proofs.YtiehjihckndgkaaGreat
