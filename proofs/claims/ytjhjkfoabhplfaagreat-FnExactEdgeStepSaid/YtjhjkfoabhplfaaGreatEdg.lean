/- Edges looked up, as a plain function. Conditions: the lists are short and increasing. -/
import Derived.Test.YtjhjkfoabhplfaaGreatL6
import Derived.Test.YtjhjkfoabhplfaaGreatCut
namespace Go.Proofs.YtjhjkfoabhplfaaGreat
open Go Dv
set_option linter.unusedSimpArgs false
set_option linter.unusedVariables false
set_option maxRecDepth 100000
set_option maxHeartbeats 4000000
def P8(es:List (List Int))(a b:Int):Bool:=es.contains (if b<a then [b,a]else [a,b])
noncomputable def Jc(pL pD:Int)(pN pE:List (List Int))(a b:Int):Option (Bool):= ck (Ai pE)<| ck ([a,b].length<1099511627776)<| ck (QF pE=true)<| some (pE.contains (DI [a,b]))
def k83:SC:= .seq (.ops [oX 3 (.box 26 (tK 0)) 0,oX 6 (.assign (.const (.bool false))) 4]) (.seq (.ops [oF 7 26 3 3,oL 8 22 7 22,oM 9 1 3,oM 10 2 3,oX 11 (.buildSlice 27 2 #[(0,(tK 9)),(1,(tK 10))]) 27,oC 12 108 [(tK 8),(tK 11)] [22,27] 4,oA 6 12 4]) .ret)
theorem A3d:Tryz.f83.body.map (BO lends)=some k83:=by kernel_rfl
theorem AJ2:Bi Tryz.f83 3=true:=by kernel_rfl
theorem c83{a l:List D}{r:D×List D}(h:Bf Y.env k83 (EG AV l.length [ResultVar.tmp 6] r) (entry a l))(ha:a.length=3):Y.call 83 a l=some r:=
 AL (Y:=Y) rfl Tryz.func83 (ha▸AJ2) A3d h
theorem Pb(pL pD:Int)(pN pE:List (List Int))(a b:Int){r:Bool}(h:Jc pL pD pN pE a b=some r):Y.call 83 [D.agg [D.int .i64 pL,D.int .i64 pD,D.sl 27 (AB (fun x=>D.sl 3 (AB (D.int .i64) x)) pN),D.sl 27 (AB (fun x=>D.sl 3 (AB (D.int .i64) x)) pE)],D.int .i64 a,D.int .i64 b] []=some (D.bool r,[]):=by
 refine c83 ?_ rfl;unfold k83;unfold Jc at h;obtain⟨e1,h⟩:=Av h;obtain⟨e2,h⟩:=Av h;obtain⟨e3,h⟩:=Av h;have c4:=Jt pE [a,b] e1 e2 e3;simp only [Hq,Qr]at c4;cases h;simp (maxDischargeDepth:=9) only [↓AC,A7,BM,AA,AJ,↓reduceIte,Nat.reduceEqDiff,Nat.reduceLT,Nat.reduceLeDiff,Nat.reduceAdd,c4]
noncomputable def PW(a b:Int):Option (Int):= if a<b then some a else some b
def k87:SC:= .seq (.ops [oX 4 (.assign (iK 0)) 3]) (.seq (.seq (.ops [oM 5 0 3,oM 6 1 3,oB 7 .lss 3 (tK 5) (tK 6) 3 4]) (.cond (tK 7) (.seq (.ops [oM 8 0 3,oA 4 8 3]) .ret) .skip)) (.seq (.ops [oM 9 1 3,oA 4 9 3]) .ret))
theorem A3e:Tryz.f87.body.map (BO lends)=some k87:=by kernel_rfl
theorem AJ4:Bi Tryz.f87 2=true:=by kernel_rfl
theorem c87{a l:List D}{r:D×List D}(h:Bf Y.env k87 (EG AV l.length [ResultVar.tmp 4] r) (entry a l))(ha:a.length=2):Y.call 87 a l=some r:=
 AL (Y:=Y) rfl Tryz.func87 (ha▸AJ4) A3e h
theorem Vn(a b:Int){r:Int}(h:PW a b=some r):Y.call 87 [D.int .i64 a,D.int .i64 b] []=some (D.int .i64 r,[]):=by
 refine c87 ?_ rfl;unfold k87;unfold PW at h;by_cases e1:a<b
 ·rw [if_pos e1]at h;cases h;simp (maxDischargeDepth:=9) only [↓AC,A7,AA,AJ,↓reduceIte,Nat.reduceEqDiff,Nat.reduceLT,e1]
 ·rw [if_neg e1]at h;cases h;simp (maxDischargeDepth:=9) only [↓AC,A7,AA,AJ,↓reduceIte,Nat.reduceEqDiff,Nat.reduceLT,e1]
noncomputable def RI(a b:Int):Option (Int):= if b<a then some a else some b
def k88:SC:= .seq (.ops [oX 4 (.assign (iK 0)) 3]) (.seq (.seq (.ops [oM 5 0 3,oM 6 1 3,oB 7 .gtr 3 (tK 5) (tK 6) 3 4]) (.cond (tK 7) (.seq (.ops [oM 8 0 3,oA 4 8 3]) .ret) .skip)) (.seq (.ops [oM 9 1 3,oA 4 9 3]) .ret))
theorem A3f:Tryz.f88.body.map (BO lends)=some k88:=by kernel_rfl
theorem AJ6:Bi Tryz.f88 2=true:=by kernel_rfl
theorem c88{a l:List D}{r:D×List D}(h:Bf Y.env k88 (EG AV l.length [ResultVar.tmp 4] r) (entry a l))(ha:a.length=2):Y.call 88 a l=some r:=
 AL (Y:=Y) rfl Tryz.func88 (ha▸AJ6) A3f h
theorem XA(a b:Int){r:Int}(h:RI a b=some r):Y.call 88 [D.int .i64 a,D.int .i64 b] []=some (D.int .i64 r,[]):=by
 refine c88 ?_ rfl;unfold k88;unfold RI at h;by_cases e1:b<a
 ·rw [if_pos e1]at h;cases h;simp (maxDischargeDepth:=9) only [↓AC,A7,AA,AJ,↓reduceIte,Nat.reduceEqDiff,Nat.reduceLT,e1]
 ·rw [if_neg e1]at h;cases h;simp (maxDischargeDepth:=9) only [↓AC,A7,AA,AJ,↓reduceIte,Nat.reduceEqDiff,Nat.reduceLT,e1]
noncomputable def RJ(pL pD:Int)(pN pE:List (List Int))(a b:Int):Option (Bool):= (PW a b).bind fun Cv=> (RI a b).bind fun Au=> ck (pE.length<1099511627776)<| ck ([Cv,Au].length<1099511627776)<| some (pE.contains [Cv,Au])
def k57:SC:= .seq (.ops [oX 3 (.box 26 (tK 0)) 0,oX 6 (.assign (.const (.bool false))) 4]) (.seq (.draws [(⟨[7,3,3],[7,8,9,10,11,12,13,14,15,11,14,11,14,16,6,16,16],[7]⟩,oF 7 26 3 3),(⟨[8,7,3],[7,8,9,10,11,12,13,14,15,11,14,11,14,16,6,16,16],[8]⟩,oL 8 22 7 22),(⟨[9,1,1],[7,8,9,10,11,12,13,14,15,11,14,11,14,16,6,16,16],[9]⟩,oM 9 1 3),(⟨[10,2,2],[7,8,9,10,11,12,13,14,15,11,14,11,14,16,6,16,16],[10]⟩,oM 10 2 3),(⟨[11,9,10,1,2],[7,8,9,10,11,12,13,14,15,11,14,11,14,16,6,16,16],[11]⟩,oC 11 87 [(tK 9),(tK 10)] [3,3] 3),(⟨[12,1,1],[7,8,9,10,11,12,13,14,15,11,14,11,14,16,6,16,16],[12]⟩,oM 12 1 3),(⟨[13,2,2],[7,8,9,10,11,12,13,14,15,11,14,11,14,16,6,16,16],[13]⟩,oM 13 2 3),(⟨[14,12,13,1,2],[7,8,9,10,11,12,13,14,15,11,14,11,14,16,6,16,16],[14]⟩,oC 14 88 [(tK 12),(tK 13)] [3,3] 3),(⟨[15,11,14,11,14],[7,8,9,10,11,12,13,14,15,11,14,11,14,16,6,16,16],[15,11,14,11,14]⟩,oX 15 (.buildSlice 27 2 #[(0,(tK 11)),(1,(tK 14))]) 27),(⟨[16,8,15,3,15],[7,8,9,10,11,12,13,14,15,11,14,11,14,16,6,16,16],[16]⟩,oC 16 86 [(tK 8),(tK 15)] [22,27] 4),(⟨[6,16,16],[7,8,9,10,11,12,13,14,15,11,14,11,14,16,6,16,16],[6,16,16]⟩,oA 6 16 4)]) .ret)
theorem A3g:Tryz.f57.body.map (BO lends)=some k57:=by kernel_rfl
theorem AJ8:Bi Tryz.f57 3=true:=by kernel_rfl
theorem c57{a l:List D}{r:D×List D}(h:Bf Y.env k57 (EG AV l.length [ResultVar.tmp 6] r) (entry a l))(ha:a.length=3):Y.call 57 a l=some r:=
 AL (Y:=Y) rfl Tryz.func57 (ha▸AJ8) A3g h
theorem XB(pL pD:Int)(pN pE:List (List Int))(a b:Int){r:Bool}(h:RJ pL pD pN pE a b=some r):Y.call 57 [D.agg [D.int .i64 pL,D.int .i64 pD,D.sl 27 (AB (fun x=>D.sl 3 (AB (D.int .i64) x)) pN),D.sl 27 (AB (fun x=>D.sl 3 (AB (D.int .i64) x)) pE)],D.int .i64 a,D.int .i64 b] []=some (D.bool r,[]):=by
 refine c57 ?_ rfl;unfold k57;unfold RJ at h;obtain⟨Cv,hl1,h⟩:=AU h;try dsimp only at h
 have c1:=Vn a b hl1;obtain⟨Au,hl2,h⟩:=AU h;try dsimp only at h
 have c2:=XA a b hl2;obtain⟨e3,h⟩:=Av h;obtain⟨e4,h⟩:=Av h;have c5:=Vm pE [Cv,Au] e3 e4;simp only [Hq,Qr]at c5;cases h;simp (maxDischargeDepth:=9) only [↓AC,A7,BM,AA,AJ,↓reduceIte,Nat.reduceEqDiff,Nat.reduceLT,Nat.reduceLeDiff,Nat.reduceAdd,Nat.reduceBEq,c1,c2,c5]
theorem RL(l d:Int)(ns es:List (List Int))(a b:Int)(h1:Ai es)(h2:QF es=true):Jc l d ns es a b=some (P8 es a b):=by
 unfold Jc P8;rw [Az h1,Az (by simp),Az h2,nM]
theorem eU(l d:Int)(ns es:List (List Int))(a b:Int)(h1:Ai es):RJ l d ns es a b=some (P8 es a b):=by
 unfold RJ PW RI P8;by_cases q1:a<b
 ·rw [if_pos q1,if_neg (by omega),if_neg (by omega),Option.bind_some,Option.bind_some,Az h1.1,Az (by simp)]
 ·by_cases q2:b<a
  ·rw [if_neg q1,if_pos q2,if_pos q2,Option.bind_some,Option.bind_some,Az h1.1,Az (by simp)]
  ·have:a=b:=by omega
   subst this;rw [if_neg q1,if_neg q1,Option.bind_some,Option.bind_some,Az h1.1,Az (by simp)]
theorem RN(pL pD:Int)(pN pE:List (List Int))(a b:Int)(h0:Ai pE)(h1:QF pE=true):Y.call 83 [D.agg [D.int .i64 pL,D.int .i64 pD,D.sl 27 (AB (fun x=>D.sl 3 (AB (D.int .i64) x)) pN),D.sl 27 (AB (fun x=>D.sl 3 (AB (D.int .i64) x)) pE)],D.int .i64 a,D.int .i64 b] []=some (D.bool (P8 pE a b),[]):=Pb pL pD pN pE a b (RL pL pD pN pE a b h0 h1)
theorem eX(pL pD:Int)(pN pE:List (List Int))(a b:Int)(h0:Ai pE):Y.call 57 [D.agg [D.int .i64 pL,D.int .i64 pD,D.sl 27 (AB (fun x=>D.sl 3 (AB (D.int .i64) x)) pN),D.sl 27 (AB (fun x=>D.sl 3 (AB (D.int .i64) x)) pE)],D.int .i64 a,D.int .i64 b] []=some (D.bool (P8 pE a b),[]):=XB pL pD pN pE a b (eU pL pD pN pE a b h0)
end Go.Proofs.YtjhjkfoabhplfaaGreat
