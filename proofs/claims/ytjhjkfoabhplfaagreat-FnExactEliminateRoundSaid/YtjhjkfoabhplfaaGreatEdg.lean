/- Edges looked up, as a plain function. Conditions: the lists are short and increasing. -/
import Derived.Test.YtjhjkfoabhplfaaGreatL6
import Derived.Test.YtjhjkfoabhplfaaGreatCut
namespace Go.Proofs.YtjhjkfoabhplfaaGreat
open Go Dv
set_option linter.unusedSimpArgs false
set_option linter.unusedVariables false
set_option maxRecDepth 100000
set_option maxHeartbeats 4000000
def RQ(es:AL)(a b:Int):Bool:=es.contains (if b<a then [b,a]else [a,b])
noncomputable def MK(pL pD:Int)(pN pE:AL)(a b:Int):Option (Bool):= ck (Ah pE)<| ck ([a,b].length<1099511627776)<| ck (LP pE=true)<| some (pE.contains (Bt [a,b]))
def k83:SC:= .seq (.ops [oX 3 (.box 26 (tK 0)) 0,oX 6 BX 4]) (.seq (.ops [oF 7 26 3 3,oL 8 22 7 22,oM 9 1 3,oM 10 2 3,oX 11 (.buildSlice 27 2 #[(0,(tK 9)),(1,(tK 10))]) 27,oC 12 108 [(tK 8),(tK 11)] [22,27] 4,oA 6 12 4]) .ret)
theorem A7x:Tryz.f83.body.map (BI lends)=some k83:=by kernel_rfl
theorem AKe:BR Tryz.f83 3=true:=by kernel_rfl
theorem c83{a l:List D}{r:D×List D}(h:BU Y.env k83 (Du Ab l.length [ResultVar.tmp 6] r) (entry a l))(ha:a.length=3):Y.call 83 a l=some r:=
 AP (Y:=Y) rfl Tryz.func83 (ha▸AKe) A7x h
theorem U2(pL pD:Int)(pN pE:AL)(a b:Int){r:Bool}(h:MK pL pD pN pE a b=some r):Y.call 83 [D.agg [D.int .i64 pL,D.int .i64 pD,D.sl 27 (AJ Ac pN),D.sl 27 (AJ Ac pE)],D.int .i64 a,D.int .i64 b] []=some (D.bool r,[]):=by
 refine c83 ?_ rfl;unfold k83;unfold MK at h;obtain⟨e1,e2,e3,h⟩:=Wm h;have c4:=Mh pE [a,b] e1 e2 e3;simp only [Ki,VQ]at c4;cases h;simp only [↓AB,AC,↓reduceIte,Nat.reduceEqDiff,Nat.reduceLT,Nat.reduceLeDiff,c4]
noncomputable def Ti(a b:Int):Option (Int):= if a<b then some a else some b
def k87:SC:= .seq (.ops [oX 4 (.assign (iK 0)) 3]) (.seq (.seq (.ops [oM 5 0 3,oM 6 1 3,oB 7 .lss 3 (tK 5) (tK 6) 3 4]) (.cond (tK 7) (.seq (.ops [oM 8 0 3,oA 4 8 3]) .ret) .skip)) (.seq (.ops [oM 9 1 3,oA 4 9 3]) .ret))
theorem A7y:Tryz.f87.body.map (BI lends)=some k87:=by kernel_rfl
theorem AKg:BR Tryz.f87 2=true:=by kernel_rfl
theorem c87{a l:List D}{r:D×List D}(h:BU Y.env k87 (Du Ab l.length [ResultVar.tmp 4] r) (entry a l))(ha:a.length=2):Y.call 87 a l=some r:=
 AP (Y:=Y) rfl Tryz.func87 (ha▸AKg) A7y h
theorem Zv(a b:Int){r:Int}(h:Ti a b=some r):Y.call 87 [D.int .i64 a,D.int .i64 b] []=some (D.int .i64 r,[]):=by
 refine c87 ?_ rfl;unfold k87;unfold Ti at h;rcases iS h with⟨e1,h⟩|⟨e1,h⟩
 ·cases h;simp only [↓AB,AC,↓reduceIte,Nat.reduceEqDiff,Nat.reduceLT,e1]
 ·cases h;simp only [↓AB,AC,↓reduceIte,Nat.reduceEqDiff,Nat.reduceLT,e1]
noncomputable def Vm(a b:Int):Option (Int):= if b<a then some a else some b
def k88:SC:= .seq (.ops [oX 4 (.assign (iK 0)) 3]) (.seq (.seq (.ops [oM 5 0 3,oM 6 1 3,oB 7 .gtr 3 (tK 5) (tK 6) 3 4]) (.cond (tK 7) (.seq (.ops [oM 8 0 3,oA 4 8 3]) .ret) .skip)) (.seq (.ops [oM 9 1 3,oA 4 9 3]) .ret))
theorem A7z:Tryz.f88.body.map (BI lends)=some k88:=by kernel_rfl
theorem AKi:BR Tryz.f88 2=true:=by kernel_rfl
theorem c88{a l:List D}{r:D×List D}(h:BU Y.env k88 (Du Ab l.length [ResultVar.tmp 4] r) (entry a l))(ha:a.length=2):Y.call 88 a l=some r:=
 AP (Y:=Y) rfl Tryz.func88 (ha▸AKi) A7z h
theorem dB(a b:Int){r:Int}(h:Vm a b=some r):Y.call 88 [D.int .i64 a,D.int .i64 b] []=some (D.int .i64 r,[]):=by
 refine c88 ?_ rfl;unfold k88;unfold Vm at h;rcases iS h with⟨e1,h⟩|⟨e1,h⟩
 ·cases h;simp only [↓AB,AC,↓reduceIte,Nat.reduceEqDiff,Nat.reduceLT,e1]
 ·cases h;simp only [↓AB,AC,↓reduceIte,Nat.reduceEqDiff,Nat.reduceLT,e1]
noncomputable def Vn(pL pD:Int)(pN pE:AL)(a b:Int):Option (Bool):= (Ti a b).bind fun Ma=> (Vm a b).bind fun KY=> ck (pE.length<1099511627776)<| ck ([Ma,KY].length<1099511627776)<| some (pE.contains [Ma,KY])
abbrev Zw:List Nat:=[7,8,9,10,11,12,13,14,15,11,14,11,14,16,6,16,16]
def k57:SC:= .seq (.ops [oX 3 (.box 26 (tK 0)) 0,oX 6 BX 4]) (.seq (.draws [(⟨[7,3,3],Zw,[7]⟩,oF 7 26 3 3),(⟨[8,7,3],Zw,[8]⟩,oL 8 22 7 22),(⟨[9,1,1],Zw,[9]⟩,oM 9 1 3),(⟨[10,2,2],Zw,[10]⟩,oM 10 2 3),(⟨[11,9,10,1,2],Zw,[11]⟩,oC 11 87 [(tK 9),(tK 10)] [3,3] 3),(⟨[12,1,1],Zw,[12]⟩,oM 12 1 3),(⟨[13,2,2],Zw,[13]⟩,oM 13 2 3),(⟨[14,12,13,1,2],Zw,[14]⟩,oC 14 88 [(tK 12),(tK 13)] [3,3] 3),(⟨[15,11,14,11,14],Zw,[15,11,14,11,14]⟩,oX 15 (.buildSlice 27 2 #[(0,(tK 11)),(1,(tK 14))]) 27),(⟨[16,8,15,3,15],Zw,[16]⟩,oC 16 86 [(tK 8),(tK 15)] [22,27] 4),(⟨[6,16,16],Zw,[6,16,16]⟩,oA 6 16 4)]) .ret)
theorem A80:Tryz.f57.body.map (BI lends)=some k57:=by kernel_rfl
theorem AKk:BR Tryz.f57 3=true:=by kernel_rfl
theorem c57{a l:List D}{r:D×List D}(h:BU Y.env k57 (Du Ab l.length [ResultVar.tmp 6] r) (entry a l))(ha:a.length=3):Y.call 57 a l=some r:=
 AP (Y:=Y) rfl Tryz.func57 (ha▸AKk) A80 h
theorem dC(pL pD:Int)(pN pE:AL)(a b:Int){r:Bool}(h:Vn pL pD pN pE a b=some r):Y.call 57 [D.agg [D.int .i64 pL,D.int .i64 pD,D.sl 27 (AJ Ac pN),D.sl 27 (AJ Ac pE)],D.int .i64 a,D.int .i64 b] []=some (D.bool r,[]):=by
 refine c57 ?_ rfl;unfold k57;unfold Vn at h;obtain⟨Ma,hl1,h⟩:=AQ h;have c1:=Zv a b hl1;obtain⟨KY,hl2,h⟩:=AQ h;have c2:=dB a b hl2;obtain⟨e3,e4,h⟩:=Fy h;have c5:=Um pE [Ma,KY] e3 e4;simp only [Ki,VQ]at c5;cases h;simp only [↓AB,AC,↓reduceIte,Nat.reduceEqDiff,Nat.reduceLT,Nat.reduceLeDiff,c1,c2,c5]
theorem Vo(l d:Int)(ns es:AL)(a b:Int)(h1:Ah es)(h2:LP es=true):MK l d ns es a b=some (RQ es a b):=by
 unfold MK RQ;rw [Ao h1,Ao (by simp),Ao h2,fD]
theorem og(l d:Int)(ns es:AL)(a b:Int)(h1:Ah es):Vn l d ns es a b=some (RQ es a b):=by
 unfold Vn Ti Vm RQ;by_cases q1:a<b
 ·rw [if_pos q1,if_neg (by omega),if_neg (by omega),Bl,Bl,Ao h1.1,Ao (by simp)]
 ·by_cases q2:b<a
  ·rw [if_neg q1,if_pos q2,if_pos q2,Bl,Bl,Ao h1.1,Ao (by simp)]
  ·have:a=b:=by omega
   subst this;rw [if_neg q1,if_neg q1,Bl,Bl,Ao h1.1,Ao (by simp)]
theorem Pz(pL pD:Int)(pN pE:AL)(a b:Int)(h0:Ah pE)(h1:LP pE=true):Y.call 83 [D.agg [D.int .i64 pL,D.int .i64 pD,D.sl 27 (AJ Ac pN),D.sl 27 (AJ Ac pE)],D.int .i64 a,D.int .i64 b] []=some (D.bool (RQ pE a b),[]):=U2 pL pD pN pE a b (Vo pL pD pN pE a b h0 h1)
theorem ol(pL pD:Int)(pN pE:AL)(a b:Int)(h0:Ah pE):Y.call 57 [D.agg [D.int .i64 pL,D.int .i64 pD,D.sl 27 (AJ Ac pN),D.sl 27 (AJ Ac pE)],D.int .i64 a,D.int .i64 b] []=some (D.bool (RQ pE a b),[]):=dC pL pD pN pE a b (og pL pD pN pE a b h0)
end Go.Proofs.YtjhjkfoabhplfaaGreat
