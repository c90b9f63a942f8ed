/- Edges looked up, as a plain function. Conditions: the lists are short and increasing. -/
import Derived.Test.YtiehjihckndgkaaGreatL6
import Derived.Test.YtiehjihckndgkaaGreatCut
namespace Go.Proofs.YtiehjihckndgkaaGreat
open Go Dv
set_option linter.unusedSimpArgs false
set_option linter.unusedVariables false
set_option maxRecDepth 100000
set_option maxHeartbeats 4000000
def Na(es:List (List Int))(a b:Int):Bool:=es.contains (if b<a then [b,a]else [a,b])
noncomputable def Kt(AR:Int)(AV:Int)(AX:List (List Int))(AZ:List (List Int))(a:Int)(b:Int):Option (Bool):= ck (BB AZ)<| ck ([a,b].length<1099511627776)<| ck (QQ AZ=true)<| some (AZ.contains (LK [a,b]))
def k88:SC:= .seq (.ops [oX 3 (.box 34 (tK 0)) 0,oX 6 (.assign (.const (.bool false))) 4]) (.seq (.ops [oF 7 34 3 3,oL 8 22 7 22,oM 9 1 3,oM 10 2 3,oX 11 (.buildSlice 26 2 #[(0,(tK 9)),(1,(tK 10))]) 26,oC 12 117 [(tK 8),(tK 11)] [22,26] 4,oA 6 12 4]) .ret)
theorem A5Q:Tryz.f88.body.map (Bf lends)=some k88:=by kernel_rfl
theorem AI6:Bz Tryz.f88 3=true:=by kernel_rfl
theorem c88{a l:List D}{r:D×List D}(h:CF Y.env k88 (ES Ae l.length [ResultVar.tmp 6] r) (entry a l))(ha:a.length=3):Y.call 88 a l=some r:=
 Ab (Y:=Y) rfl Tryz.func88 (ha▸AI6) A5Q h
theorem R5(AR:Int)(AV:Int)(AX:List (List Int))(AZ:List (List Int))(a:Int)(b:Int){r:Bool}(h:Kt AR AV AX AZ a b=some r):Y.call 88 [D.agg [D.int .i64 AR,D.int .i64 AV,D.sl 26 (AL (fun x=>D.sl 3 (AL (D.int .i64) x)) AX),D.sl 26 (AL (fun x=>D.sl 3 (AL (D.int .i64) x)) AZ)],D.int .i64 a,D.int .i64 b] []=some (D.bool r,[]):=by
 refine c88 ?_ rfl;unfold k88;unfold Kt at h;obtain⟨e1,e2,e3,h⟩:=Oa h;have c4:=LM AZ [a,b] e1 e2 e3;simp only [Kg,bU]at c4
 obtain rfl:=Option.some.inj h
 simp (maxDischargeDepth:=9) only [↓AP,AQ,↓reduceIte,Nat.reduceEqDiff,Nat.reduceLT,Nat.reduceLeDiff,Nat.reduceAdd,c4]
noncomputable def Qr(a:Int)(b:Int):Option (Int):= if a<b then some a else some b
def A5R:SC:= .seq (.ops [oX 4 (.assign (iK 0)) 3]) (.seq (.seq (.ops [oM 5 0 3,oM 6 1 3,oB 7 .lss 3 (tK 5) (tK 6) 3 4]) (.cond (tK 7) (.seq (.ops [oM 8 0 3,oA 4 8 3]) .ret) .skip)) (.seq (.ops [oM 9 1 3,oA 4 9 3]) .ret))
theorem zT:Tryz.f114.body.map (Bf lends)=some A5R:=by kernel_rfl
theorem ACV:Bz Tryz.f114 2=true:=by kernel_rfl
theorem AI7{a l:List D}{r:D×List D}(h:CF Y.env A5R (ES Ae l.length [ResultVar.tmp 4] r) (entry a l))(ha:a.length=2):Y.call 114 a l=some r:=
 Ab (Y:=Y) rfl Tryz.func114 (ha▸ACV) zT h
theorem YF(a:Int)(b:Int){r:Int}(h:Qr a b=some r):Y.call 114 [D.int .i64 a,D.int .i64 b] []=some (D.int .i64 r,[]):=by
 refine AI7 ?_ rfl;unfold A5R;unfold Qr at h;rcases iS h with⟨e1,h⟩|⟨e1,h⟩
 ·obtain rfl:=Option.some.inj h
  simp (maxDischargeDepth:=9) only [↓AP,AQ,↓reduceIte,Nat.reduceEqDiff,Nat.reduceLT,e1]
 ·obtain rfl:=Option.some.inj h
  simp (maxDischargeDepth:=9) only [↓AP,AQ,↓reduceIte,Nat.reduceEqDiff,Nat.reduceLT,e1]
noncomputable def TM(a:Int)(b:Int):Option (Int):= if b<a then some a else some b
def A5S:SC:= .seq (.ops [oX 4 (.assign (iK 0)) 3]) (.seq (.seq (.ops [oM 5 0 3,oM 6 1 3,oB 7 .gtr 3 (tK 5) (tK 6) 3 4]) (.cond (tK 7) (.seq (.ops [oM 8 0 3,oA 4 8 3]) .ret) .skip)) (.seq (.ops [oM 9 1 3,oA 4 9 3]) .ret))
theorem zU:Tryz.f123.body.map (Bf lends)=some A5S:=by kernel_rfl
theorem ACW:Bz Tryz.f123 2=true:=by kernel_rfl
theorem AI8{a l:List D}{r:D×List D}(h:CF Y.env A5S (ES Ae l.length [ResultVar.tmp 4] r) (entry a l))(ha:a.length=2):Y.call 123 a l=some r:=
 Ab (Y:=Y) rfl Tryz.func123 (ha▸ACW) zU h
theorem ZW(a:Int)(b:Int){r:Int}(h:TM a b=some r):Y.call 123 [D.int .i64 a,D.int .i64 b] []=some (D.int .i64 r,[]):=by
 refine AI8 ?_ rfl;unfold A5S;unfold TM at h;rcases iS h with⟨e1,h⟩|⟨e1,h⟩
 ·obtain rfl:=Option.some.inj h
  simp (maxDischargeDepth:=9) only [↓AP,AQ,↓reduceIte,Nat.reduceEqDiff,Nat.reduceLT,e1]
 ·obtain rfl:=Option.some.inj h
  simp (maxDischargeDepth:=9) only [↓AP,AQ,↓reduceIte,Nat.reduceEqDiff,Nat.reduceLT,e1]
noncomputable def TN(AR:Int)(AV:Int)(AX:List (List Int))(AZ:List (List Int))(a:Int)(b:Int):Option (Bool):= (Qr a b).bind fun IL=> (TM a b).bind fun YG=> ck (AZ.length<1099511627776)<| ck ([IL,YG].length<1099511627776)<| some (AZ.contains [IL,YG])
def k94:SC:= .seq (.ops [oX 3 (.box 34 (tK 0)) 0,oX 6 (.assign (.const (.bool false))) 4]) (.seq (.draws [(⟨[7,3,3],[7,8,9,10,11,12,13,14,15,11,14,11,14,16,6,16,16],[7]⟩,oF 7 34 3 3),(⟨[8,7,3],[7,8,9,10,11,12,13,14,15,11,14,11,14,16,6,16,16],[8]⟩,oL 8 22 7 22),(⟨[9,1,1],[7,8,9,10,11,12,13,14,15,11,14,11,14,16,6,16,16],[9]⟩,oM 9 1 3),(⟨[10,2,2],[7,8,9,10,11,12,13,14,15,11,14,11,14,16,6,16,16],[10]⟩,oM 10 2 3),(⟨[11,9,10,1,2],[7,8,9,10,11,12,13,14,15,11,14,11,14,16,6,16,16],[11]⟩,oC 11 114 [(tK 9),(tK 10)] [3,3] 3),(⟨[12,1,1],[7,8,9,10,11,12,13,14,15,11,14,11,14,16,6,16,16],[12]⟩,oM 12 1 3),(⟨[13,2,2],[7,8,9,10,11,12,13,14,15,11,14,11,14,16,6,16,16],[13]⟩,oM 13 2 3),(⟨[14,12,13,1,2],[7,8,9,10,11,12,13,14,15,11,14,11,14,16,6,16,16],[14]⟩,oC 14 123 [(tK 12),(tK 13)] [3,3] 3),(⟨[15,11,14,11,14],[7,8,9,10,11,12,13,14,15,11,14,11,14,16,6,16,16],[15,11,14,11,14]⟩,oX 15 (.buildSlice 26 2 #[(0,(tK 11)),(1,(tK 14))]) 26),(⟨[16,8,15,3,15],[7,8,9,10,11,12,13,14,15,11,14,11,14,16,6,16,16],[16]⟩,oC 16 122 [(tK 8),(tK 15)] [22,26] 4),(⟨[6,16,16],[7,8,9,10,11,12,13,14,15,11,14,11,14,16,6,16,16],[6,16,16]⟩,oA 6 16 4)]) .ret)
theorem A5T:Tryz.f94.body.map (Bf lends)=some k94:=by kernel_rfl
theorem AIA:Bz Tryz.f94 3=true:=by kernel_rfl
theorem c94{a l:List D}{r:D×List D}(h:CF Y.env k94 (ES Ae l.length [ResultVar.tmp 6] r) (entry a l))(ha:a.length=3):Y.call 94 a l=some r:=
 Ab (Y:=Y) rfl Tryz.func94 (ha▸AIA) A5T h
theorem ZX(AR:Int)(AV:Int)(AX:List (List Int))(AZ:List (List Int))(a:Int)(b:Int){r:Bool}(h:TN AR AV AX AZ a b=some r):Y.call 94 [D.agg [D.int .i64 AR,D.int .i64 AV,D.sl 26 (AL (fun x=>D.sl 3 (AL (D.int .i64) x)) AX),D.sl 26 (AL (fun x=>D.sl 3 (AL (D.int .i64) x)) AZ)],D.int .i64 a,D.int .i64 b] []=some (D.bool r,[]):=by
 refine c94 ?_ rfl;unfold k94;unfold TN at h;obtain⟨IL,hl1,h⟩:=Ag h;have c1:=YF a b hl1;obtain⟨YG,hl2,h⟩:=Ag h;have c2:=ZW a b hl2;obtain⟨e3,e4,h⟩:=Ei h;have c5:=mQ AZ [IL,YG] e3 e4;simp only [Kg,bU]at c5
 obtain rfl:=Option.some.inj h
 simp (maxDischargeDepth:=9) only [↓AP,AQ,↓reduceIte,Nat.reduceEqDiff,Nat.reduceLT,Nat.reduceLeDiff,Nat.reduceAdd,Nat.reduceBEq,c1,c2,c5]
theorem TP(l d:Int)(ns es:List (List Int))(a b:Int)(h1:BB es)(h2:QQ es=true):Kt l d ns es a b=some (Na es a b):=by
 unfold Kt Na;rw [BJ h1,BJ (by simp),BJ h2,qp]
theorem jY(l d:Int)(ns es:List (List Int))(a b:Int)(h1:BB es):TN l d ns es a b=some (Na es a b):=by
 unfold TN Qr TM Na;by_cases q1:a<b
 ·rw [if_pos q1,if_neg (by omega),if_neg (by omega),DJ,DJ,BJ h1.1,BJ (by simp)]
 ·by_cases q2:b<a
  ·rw [if_neg q1,if_pos q2,if_pos q2,DJ,DJ,BJ h1.1,BJ (by simp)]
  ·have:a=b:=by omega
   subst this;rw [if_neg q1,if_neg q1,DJ,DJ,BJ h1.1,BJ (by simp)]
theorem O4(AR:Int)(AV:Int)(AX:List (List Int))(AZ:List (List Int))(a:Int)(b:Int)(h0:BB AZ)(h1:QQ AZ=true):Y.call 88 [D.agg [D.int .i64 AR,D.int .i64 AV,D.sl 26 (AL (fun x=>D.sl 3 (AL (D.int .i64) x)) AX),D.sl 26 (AL (fun x=>D.sl 3 (AL (D.int .i64) x)) AZ)],D.int .i64 a,D.int .i64 b] []=some (D.bool (Na AZ a b),[]):=R5 AR AV AX AZ a b (TP AR AV AX AZ a b h0 h1)
theorem V9(AR:Int)(AV:Int)(AX:List (List Int))(AZ:List (List Int))(a:Int)(b:Int)(h0:BB AZ):Y.call 94 [D.agg [D.int .i64 AR,D.int .i64 AV,D.sl 26 (AL (fun x=>D.sl 3 (AL (D.int .i64) x)) AX),D.sl 26 (AL (fun x=>D.sl 3 (AL (D.int .i64) x)) AZ)],D.int .i64 a,D.int .i64 b] []=some (D.bool (Na AZ a b),[]):=ZX AR AV AX AZ a b (jY AR AV AX AZ a b h0)
end Go.Proofs.YtiehjihckndgkaaGreat
