/- The node step: lifted. Conditions: none. -/
import Derived.Test.YtjhjkfoabhplfaaGreatL6
import Derived.Test.YtjhjkfoabhplfaaGreatEsN
namespace Go.Proofs.YtjhjkfoabhplfaaGreat
open Go Dv
set_option linter.unusedSimpArgs false
set_option linter.unusedVariables false
set_option maxRecDepth 100000
set_option maxHeartbeats 4000000
noncomputable def EH(tL tD:Int)(tN tE:AL)(Us Dx:Int):Option ((Int×Int)⊕(Int)):= if Dx<(IntKind.i64.wrap (tD-1))then some (Sum.inl (IntKind.i64.wrap (Us*tL),IntKind.i64.wrap (Dx+1))) else some (Sum.inr Us)
noncomputable def IB(tL tD:Int)(tN tE:AL)(v:Int×Int):Option (Int):=Fv (fun v=>EH tL tD tN tE v.1 v.2) v
noncomputable def EI(tL tD:Int)(tN tE:AL)(A8:Int)(t4_4:AA)(EG:Int)(OB:AA)(yM ow:Int):Option ((AA×Int×Int)⊕(AA)):= if ow<(IntKind.i64.wrap (tD-1))then ck (¬tL=0)<| ck (0≤ow∧ow.toNat<OB.length)<| some (Sum.inl ((OB.set ow.toNat (yM.tmod tL)),IntKind.i64.wrap (yM.tdiv tL),IntKind.i64.wrap (ow+1))) else some (Sum.inr OB)
noncomputable def KQ(tL tD:Int)(tN tE:AL)(A8:Int)(t4_4:AA)(EG:Int)(v:AA×Int×Int):Option (AA):=Fv (fun v=>EI tL tD tN tE A8 t4_4 EG v.1 v.2.1 v.2.2) v
noncomputable def EJ(tL tD:Int)(tN tE:AL)(A8 EG:Int)(t4_41 OB:AA)(YF:Int):Option ((AA×AA×Int)⊕(AA)):= if YF<tL then ck (0≤IntKind.i64.wrap (tD-1)∧(IntKind.i64.wrap (tD-1)).toNat<OB.length)<| (IA tL tD tN tE (OB.set ((IntKind.i64.wrap (tD-1)).toNat) YF)).bind fun A8k=> if A8k=true then ck (0≤EG∧EG.toNat<t4_41.length)<| ck (¬YF<0)<| some (Sum.inl ((t4_41.set EG.toNat (Lv .or .i64 (t4_41.getD EG.toNat default) (IntKind.i64.wrap (1*2 ^ (min YF.toNat (IntKind.i64.bits)))))),(OB.set ((IntKind.i64.wrap (tD-1)).toNat) YF),IntKind.i64.wrap (YF+1))) else some (Sum.inl (t4_41,(OB.set ((IntKind.i64.wrap (tD-1)).toNat) YF),IntKind.i64.wrap (YF+1))) else some (Sum.inr t4_41)
noncomputable def IC(tL tD:Int)(tN tE:AL)(A8 EG:Int)(v:AA×AA×Int):Option (AA):=Fv (fun v=>EJ tL tD tN tE A8 EG v.1 v.2.1 v.2.2) v
noncomputable def EK(tL tD:Int)(tN tE:AL)(A8:Int)(t4_4:AA)(EG:Int):Option ((AA×Int)⊕(AA)):= if EG<((List.replicate A8.toNat (0:Int)).length:Int)then ck (0≤tD∧tD<1099511627776)<| (KQ tL tD tN tE A8 t4_4 EG ((List.replicate tD.toNat 0),EG,0)).bind fun Ad=> (IC tL tD tN tE A8 EG (t4_4,Ad,0)).bind fun LU=> some (Sum.inl (LU,IntKind.i64.wrap (EG+1))) else some (Sum.inr t4_4)
noncomputable def IE(tL tD:Int)(tN tE:AL)(A8:Int)(v:AA×Int):Option (AA):=Fv (fun v=>EK tL tD tN tE A8 v.1 v.2) v
noncomputable def Gu(tL tD:Int)(tN tE:AL):Option (Int×Int×AL×AL×AA):= (IB tL tD tN tE (1,0)).bind fun A8=> ck (0≤A8∧A8<1099511627776)<| (IE tL tD tN tE A8 ((List.replicate A8.toNat 0),0)).bind fun A1R=> some (tL,tD,tN,tE,A1R)
def kT:SC:= .seq (.ops [oB 14 .lss 3 (tK 13) (tK 12) 3 4]) (.seq (.cond (tK 14) .skip (.exit 0)) (.seq (.block 1 (.ops [oM 15 3 3,oF 16 26 1 0,oL 17 3 16 3,oB 18 .mul 3 (tK 15) (tK 17) 3 3,oA 3 18 3])) (.ops [oB 19 .add 3 (tK 13) (iK 1) 3 3,oM 13 19 3])))
def A1S:SC:= .loop kT
def kU:SC:= .seq (.ops [oB 41 .lss 3 (tK 40) (tK 39) 3 4]) (.seq (.cond (tK 41) .skip (.exit 4)) (.seq (.block 5 (.seq (.ops [oM 42 40 3,oA 8 42 3]) (.seq (.ops [oM 43 6 27,oM 44 8 3,oM 45 7 3,oF 46 26 1 0,oL 47 3 46 3,oB 48 .rem 3 (tK 45) (tK 47) 3 3,oI 49 27 43 44,oS 3 49 48]) (.ops [oM 50 7 3,oF 51 26 1 0,oL 52 3 51 3,oB 53 .quo 3 (tK 50) (tK 52) 3 3,oA 7 53 3])))) (.ops [oB 54 .add 3 (tK 40) (iK 1) 3 3,oM 40 54 3])))
def A1T:SC:= .loop kU
abbrev YG:List Nat:=[69,70,71,72,73,74,75,76,77,78,79,79,78,4,78]
def kV:SC:= .seq (.ops [oB 58 .lss 3 (tK 57) (tK 56) 3 4]) (.seq (.cond (tK 58) .skip (.exit 6)) (.seq (.block 7 (.seq (.ops [oM 59 57 3,oA 9 59 3]) (.seq (.ops [oM 60 6 27,oF 61 26 1 1,oL 62 3 61 3,oB 63 .sub 3 (tK 62) (iK 1) 3 3,oM 64 9 3,oI 65 27 60 63,oS 3 65 64]) (.seq (.ops [oL 66 26 1 26,oM 67 6 27,oC 68 77 [(tK 66),(tK 67)] [26,27] 4]) (.cond (tK 68) (.draws [(⟨[69,4,4],YG,[69]⟩,oM 69 4 58),(⟨[70,69,4],YG,[70]⟩,oX 70 (.nilCheck (tK 69)) 0),(⟨[71,70,4],YG,[71]⟩,oF 71 79 70 1),(⟨[72,71,4],YG,[72]⟩,oL 72 27 71 27),(⟨[73,5,5],YG,[73]⟩,oM 73 5 3),(⟨[74,72,73,4,5],YG,[74]⟩,oI 74 27 72 73),(⟨[75,74,4],YG,[75]⟩,oL 75 3 74 3),(⟨[76,9,9],YG,[76]⟩,oM 76 9 3),(⟨[77,76,9],YG,[77]⟩,oB 77 .shl 3 (iK 1) (tK 76) 3 3),(⟨[78,75,77,4,77],YG,[78]⟩,oB 78 .or 3 (tK 75) (tK 77) 3 3),(⟨[79,72,73,4,5],YG,[79]⟩,oI 79 27 72 73),(⟨[79,78,4,78],YG,[79,78,4,78]⟩,oS 3 79 78)]) .skip))))) (.ops [oB 80 .add 3 (tK 57) (iK 1) 3 3,oM 57 80 3])))
def A1U:SC:= .loop kV
def kW:SC:= .seq (.ops [oB 31 .lss 3 (tK 30) (tK 29) 3 0]) (.seq (.cond (tK 31) .skip (.exit 2)) (.seq (.block 3 (.seq (.ops [oM 32 30 3,oA 5 32 3]) (.seq (.ops [oF 33 26 1 1,oL 34 3 33 3,oX 35 (.makeSlice 27 (tK 34) (tK 34)) 27,oA 6 35 27]) (.seq (.ops [oM 36 5 3,oA 7 36 3]) (.seq (.seq (.ops [oF 37 26 1 1,oL 38 3 37 3,oB 39 .sub 3 (tK 38) (iK 1) 3 3,oX 40 (.move (iK 0)) 3]) (.block 4 A1T)) (.seq (.ops [oF 55 26 1 0,oL 56 3 55 3,oX 57 (.move (iK 0)) 3]) (.block 6 A1U))))))) (.ops [oB 81 .add 3 (tK 30) (iK 1) 3 3,oM 30 81 3])))
def A1V:SC:= .loop kW
abbrev xk:List Nat:=[20,21,22,23,20,22,1,22,24,23,23,4,24,24]
def k50:SC:= .seq (.ops [oX 1 (.box 26 (tK 0)) 0,oX 2 (.assign (.const (.pointer none))) 58]) (.seq (.ops [oX 3 (.assign (iK 1)) 3]) (.seq (.seq (.ops [oF 10 26 1 1,oL 11 3 10 3,oB 12 .sub 3 (tK 11) (iK 1) 3 3,oX 13 (.move (iK 0)) 3]) (.block 0 A1S)) (.seq (.draws [(⟨[20,1,1],xk,[20]⟩,oL 20 26 1 26),(⟨[21,3,3],xk,[21]⟩,oM 21 3 3),(⟨[22,21,21,3,3],xk,[22]⟩,oX 22 (.makeSlice 27 (tK 21) (tK 21)) 27),(⟨[23,20,22,1,22],xk,[23,20,22,1,22]⟩,oX 23 (.build 79 #[(0,(tK 20)),(1,(tK 22))]) 79),(⟨[24,23,23],xk,[24,23,23]⟩,oX 24 (.box 79 (tK 23)) 58),(⟨[4,24,24],xk,[4,24,24]⟩,oA 4 24 58)]) (.seq (.seq (.ops [oM 25 4 58,oX 26 (.nilCheck (tK 25)) 0,oF 27 79 26 1,oL 28 27 27 27,oN 29 28 27,oX 30 (.move (iK 0)) 3]) (.block 2 A1V)) (.seq (.ops [oM 82 4 58,oA 2 82 58]) .ret)))))
theorem A8l:Tryz.f50.body.map (BI lends)=some k50:=by kernel_rfl
theorem ALs:BR Tryz.f50 1=true:=by kernel_rfl
theorem c50{a l:List D}{r:D×List D}(h:BU Y.env k50 (Du Ab l.length [ResultVar.tmp 2] r) (entry a l))(ha:a.length=1):Y.call 50 a l=some r:=
 AP (Y:=Y) rfl Tryz.func50 (ha▸ALs) A8l h
def EL(tL tD:Int)(tN tE:AL)(Us Dx:Int)(s:St):Prop:=s.v 1=D.box [D.int .i64 tL,D.int .i64 tD,D.sl 27 (AJ Ac tN),D.sl 27 (AJ Ac tE)]∧s.v 3=D.int .i64 Us∧s.v 12=D.int .i64 (IntKind.i64.wrap (tD-1))∧s.v 13=D.int .i64 Dx
def Ij(tL tD:Int)(tN tE:AL)(r:Int)(ex:Ex)(s:St):Prop:=ex= .exit 0∧s.v 1=D.box [D.int .i64 tL,D.int .i64 tD,D.sl 27 (AJ Ac tN),D.sl 27 (AJ Ac tE)]∧s.v 3=D.int .i64 r
theorem U3(tL tD:Int)(tN tE:AL){v:Int×Int}{s:St}{r:Int}(h:IB tL tD tN tE v=some r)(hM:EL tL tD tN tE v.1 v.2 s):BU Y.env A1S (Ij tL tD tN tE r) s:=by
 unfold IB at h;refine Ap (c:=kT) (fun v=>EH tL tD tN tE v.1 v.2) (fun v s=>EL tL tD tN tE v.1 v.2 s) (Ij tL tD tN tE) ?_ h hM;clear h hM s v r;intro v s o hM h;obtain⟨Us,Dx⟩:=v;dsimp only at h hM;unfold EH at h;unfold EL at hM;obtain⟨m0,m1,m2,m3⟩:=hM;unfold kT;rcases iS h with⟨e1,h⟩|⟨e1,h⟩
 ·cases h;simp only [↓AB,AC,↓reduceIte,Nat.reduceEqDiff,Nat.reduceLT,m0,m1,m2,m3,e1,EL,Dw]
 ·cases h;simp only [↓AB,AC,↓reduceIte,Nat.reduceEqDiff,Nat.reduceLT,m0,m1,m2,m3,e1,EL,Ij,Ir]
def EM(tL tD:Int)(tN tE:AL)(A8:Int)(t4_4:AA)(EG:Int)(OB:AA)(yM ow:Int)(s:St):Prop:=s.v 1=D.box [D.int .i64 tL,D.int .i64 tD,D.sl 27 (AJ Ac tN),D.sl 27 (AJ Ac tE)]∧s.v 4=D.box [D.int .i64 tL,D.int .i64 tD,D.sl 27 (AJ Ac tN),D.sl 27 (AJ Ac tE),D.own 3 (AJ (D.int .i64) t4_4)]∧s.v 5=D.int .i64 EG∧s.v 6=D.own 3 (AJ (D.int .i64) OB)∧s.v 7=D.int .i64 yM∧s.v 29=D.int .i64 ((List.replicate A8.toNat (0:Int)).length:Int)∧s.v 30=D.int .i64 EG∧s.v 39=D.int .i64 (IntKind.i64.wrap (tD-1))∧s.v 40=D.int .i64 ow
def Ik(tL tD:Int)(tN tE:AL)(A8:Int)(t4_4:AA)(EG:Int)(r:AA)(ex:Ex)(s:St):Prop:=ex= .exit 4∧s.v 1=D.box [D.int .i64 tL,D.int .i64 tD,D.sl 27 (AJ Ac tN),D.sl 27 (AJ Ac tE)]∧s.v 4=D.box [D.int .i64 tL,D.int .i64 tD,D.sl 27 (AJ Ac tN),D.sl 27 (AJ Ac tE),D.own 3 (AJ (D.int .i64) t4_4)]∧s.v 5=D.int .i64 EG∧s.v 6=D.own 3 (AJ (D.int .i64) r)∧s.v 29=D.int .i64 ((List.replicate A8.toNat (0:Int)).length:Int)∧s.v 30=D.int .i64 EG
theorem U4(tL tD:Int)(tN tE:AL)(A8:Int)(t4_4:AA)(EG:Int){v:AA×Int×Int}{s:St}{r:AA}(h:KQ tL tD tN tE A8 t4_4 EG v=some r)(hM:EM tL tD tN tE A8 t4_4 EG v.1 v.2.1 v.2.2 s):BU Y.env A1T (Ik tL tD tN tE A8 t4_4 EG r) s:=by
 unfold KQ at h;refine Ap (c:=kU) (fun v=>EI tL tD tN tE A8 t4_4 EG v.1 v.2.1 v.2.2) (fun v s=>EM tL tD tN tE A8 t4_4 EG v.1 v.2.1 v.2.2 s) (Ik tL tD tN tE A8 t4_4 EG) ?_ h hM;clear h hM s v r;intro v s o hM h;obtain⟨OB,yM,ow⟩:=v;dsimp only at h hM;unfold EI at h;unfold EM at hM;obtain⟨m0,m1,m2,m3,m4,m5,m6,m7,m8⟩:=hM;unfold kU;rcases iS h with⟨e6,h⟩|⟨e6,h⟩
 ·obtain⟨e7,e8,h⟩:=Fy h;cases h;simp only [↓AB,AC,↓reduceIte,Nat.reduceEqDiff,Nat.reduceLT,m0,m1,m2,m3,m4,m5,m6,m7,m8,e6,e7,e8.1,e8.2,EM,Dw]
 ·cases h;simp only [↓AB,AC,↓reduceIte,Nat.reduceEqDiff,Nat.reduceLT,m0,m1,m2,m3,m5,m6,m7,m8,e6,EM,Ik,Ir]
def DR(tL tD:Int)(tN tE:AL)(A8 EG:Int)(t4_41 OB:AA)(YF:Int)(s:St):Prop:=s.v 1=D.box [D.int .i64 tL,D.int .i64 tD,D.sl 27 (AJ Ac tN),D.sl 27 (AJ Ac tE)]∧s.v 4=D.box [D.int .i64 tL,D.int .i64 tD,D.sl 27 (AJ Ac tN),D.sl 27 (AJ Ac tE),D.own 3 (AJ (D.int .i64) t4_41)]∧s.v 5=D.int .i64 EG∧s.v 6=D.own 3 (AJ (D.int .i64) OB)∧s.v 29=D.int .i64 ((List.replicate A8.toNat (0:Int)).length:Int)∧s.v 30=D.int .i64 EG∧s.v 56=D.int .i64 tL∧s.v 57=D.int .i64 YF
def Il(tL tD:Int)(tN tE:AL)(A8 EG:Int)(r:AA)(ex:Ex)(s:St):Prop:=ex= .exit 6∧s.v 1=D.box [D.int .i64 tL,D.int .i64 tD,D.sl 27 (AJ Ac tN),D.sl 27 (AJ Ac tE)]∧s.v 4=D.box [D.int .i64 tL,D.int .i64 tD,D.sl 27 (AJ Ac tN),D.sl 27 (AJ Ac tE),D.own 3 (AJ (D.int .i64) r)]∧s.v 29=D.int .i64 ((List.replicate A8.toNat (0:Int)).length:Int)∧s.v 30=D.int .i64 EG
theorem U5(tL tD:Int)(tN tE:AL)(A8 EG:Int){v:AA×AA×Int}{s:St}{r:AA}(h:IC tL tD tN tE A8 EG v=some r)(hM:DR tL tD tN tE A8 EG v.1 v.2.1 v.2.2 s):BU Y.env A1U (Il tL tD tN tE A8 EG r) s:=by
 unfold IC at h;refine Ap (c:=kV) (fun v=>EJ tL tD tN tE A8 EG v.1 v.2.1 v.2.2) (fun v s=>DR tL tD tN tE A8 EG v.1 v.2.1 v.2.2 s) (Il tL tD tN tE A8 EG) ?_ h hM;clear h hM s v r;intro v s o hM h;obtain⟨t4_41,OB,YF⟩:=v;dsimp only at h hM;unfold EJ at h;unfold DR at hM;obtain⟨m0,m1,m2,m3,m4,m5,m6,m7⟩:=hM;unfold kV;rcases iS h with⟨e8,h⟩|⟨e8,h⟩
 ·obtain⟨e9,h⟩:=DL h;obtain⟨A8k,hl10,h⟩:=AQ h;have lL:=OG tL tD tN tE (OB.set ((IntKind.i64.wrap (tD-1)).toNat) YF) hl10;rcases iS h with⟨e11,h⟩|⟨e11,h⟩
  ·obtain⟨e12,e13,h⟩:=Fy h;cases h;simp only [↓AB,AC,↓reduceIte,Nat.reduceEqDiff,Nat.reduceLT,m0,m1,m2,m3,m4,m5,m6,m7,e8,e9.1,e9.2,lL,e11,e12.1,e12.2,e13,DR,Dw]
  ·have e11f:A8k=false:=Gf.mpr e11;cases h;simp only [↓AB,AC,↓reduceIte,Nat.reduceEqDiff,Nat.reduceLT,m0,m1,m2,m3,m4,m5,m6,m7,e8,e9.1,e9.2,lL,e11f,DR,Dw]
 ·cases h;simp only [↓AB,AC,↓reduceIte,Nat.reduceEqDiff,Nat.reduceLT,m0,m1,m4,m5,m6,m7,e8,DR,Il,Ir]
def EN(tL tD:Int)(tN tE:AL)(A8:Int)(t4_4:AA)(EG:Int)(s:St):Prop:=s.v 1=D.box [D.int .i64 tL,D.int .i64 tD,D.sl 27 (AJ Ac tN),D.sl 27 (AJ Ac tE)]∧s.v 4=D.box [D.int .i64 tL,D.int .i64 tD,D.sl 27 (AJ Ac tN),D.sl 27 (AJ Ac tE),D.own 3 (AJ (D.int .i64) t4_4)]∧s.v 29=D.int .i64 ((List.replicate A8.toNat (0:Int)).length:Int)∧s.v 30=D.int .i64 EG
def Im(tL tD:Int)(tN tE:AL)(A8:Int)(r:AA)(ex:Ex)(s:St):Prop:=ex= .exit 2∧s.v 4=D.box [D.int .i64 tL,D.int .i64 tD,D.sl 27 (AJ Ac tN),D.sl 27 (AJ Ac tE),D.own 3 (AJ (D.int .i64) r)]
theorem U6(tL tD:Int)(tN tE:AL)(A8:Int){v:AA×Int}{s:St}{r:AA}(h:IE tL tD tN tE A8 v=some r)(hM:EN tL tD tN tE A8 v.1 v.2 s):BU Y.env A1V (Im tL tD tN tE A8 r) s:=by
 unfold IE at h;refine Ap (c:=kW) (fun v=>EK tL tD tN tE A8 v.1 v.2) (fun v s=>EN tL tD tN tE A8 v.1 v.2 s) (Im tL tD tN tE A8) ?_ h hM;clear h hM s v r;intro v s o hM h;obtain⟨t4_4,EG⟩:=v;dsimp only at h hM;unfold EK at h;unfold EN at hM;obtain⟨m0,m1,m2,m3⟩:=hM;unfold kW;rcases iS h with⟨e4,h⟩|⟨e4,h⟩
 ·obtain⟨e5,h⟩:=DL h;obtain⟨Ad,hl7,h⟩:=AQ h;try dsimp only at h
  simp only [↓AB,AC,↓reduceIte,Nat.reduceEqDiff,Nat.reduceLT,Nat.reduceLeDiff,m0,m2,m3,e4,e5.1,e5.2];refine AZ (U4 tL tD tN tE A8 t4_4 EG hl7 ?_) ?_
  ·simp only [BC,↓reduceIte,Nat.reduceEqDiff,m0,m1,m2,m3,EM]
  ·intro ex7 s7 hX7;unfold Ik at hX7;obtain⟨rfl,n7_0,n7_1,n7_2,n7_3,n7_4,n7_5⟩:=hX7;obtain⟨LU,hl9,h⟩:=AQ h;try dsimp only at h
   simp only [↓AB,AC,↓reduceIte,Nat.reduceEqDiff,Nat.reduceLT,n7_0];refine AZ (U5 tL tD tN tE A8 EG hl9 ?_) ?_
   ·simp only [BC,↓reduceIte,Nat.reduceEqDiff,n7_0,n7_1,n7_2,n7_3,n7_4,n7_5,DR]
   ·intro ex9 s9 hX9;unfold Il at hX9;obtain⟨rfl,n9_0,n9_1,n9_2,n9_3⟩:=hX9;cases h;simp only [↓AB,AC,↓reduceIte,Nat.reduceEqDiff,Nat.reduceLT,n9_0,n9_1,n9_2,n9_3,EN,Dw]
 ·cases h;simp only [↓AB,AC,↓reduceIte,Nat.reduceEqDiff,Nat.reduceLT,m1,m2,m3,e4,EN,Im,Ir]
theorem PQ(tL tD:Int)(tN tE:AL){r:Int×Int×AL×AL×AA}(h:Gu tL tD tN tE=some r):Y.call 50 [D.agg [D.int .i64 tL,D.int .i64 tD,D.sl 27 (AJ Ac tN),D.sl 27 (AJ Ac tE)]] []=some (D.box [D.int .i64 r.1,D.int .i64 r.2.1,D.sl 27 (AJ Ac r.2.2.1),D.sl 27 (AJ Ac r.2.2.2.1),D.own 3 (AJ (D.int .i64) r.2.2.2.2)],[]):=by
 refine c50 ?_ rfl;unfold k50;unfold Gu at h;obtain⟨A8,hl2,h⟩:=AQ h;try dsimp only at h
 simp only [↓AB,AC,↓reduceIte,Nat.reduceEqDiff,Nat.reduceLT,Nat.reduceAdd];refine AZ (U3 tL tD tN tE hl2 ?_) ?_
 ·simp only [BC,↓reduceIte,Nat.reduceEqDiff,EL]
 ·intro ex2 s2 hX2;unfold Ij at hX2;obtain⟨rfl,n2_0,n2_1⟩:=hX2;obtain⟨e3,h⟩:=DL h;obtain⟨A1R,hl5,h⟩:=AQ h;try dsimp only at h
  simp only [↓AB,AC,↓reduceIte,Nat.reduceEqDiff,Nat.reduceLT,Nat.reduceLeDiff,n2_0,n2_1,e3.1,e3.2];refine AZ (U6 tL tD tN tE A8 hl5 ?_) ?_
  ·simp only [BC,↓reduceIte,Nat.reduceEqDiff,n2_0,EN]
  ·intro ex5 s5 hX5;unfold Im at hX5;obtain⟨rfl,n5_0⟩:=hX5;cases h;simp only [↓AB,AC,↓reduceIte,Nat.reduceEqDiff,Nat.reduceLT,n5_0]
noncomputable def Bo(rec_:Int→Int→Int→Int→AA→Int→Int→AL→AL→AA→Option Int)(k key weight:Int)(c0_:AA)(c2__0 c2__1:Int)(c2__2 c2__3:AL)(c2__4:AA)(dL t100000_0:Int):Option ((Int×Int)⊕(Int)):= if dL<c2__0 then ck (0≤k∧k.toNat<c0_.length)<| ck (¬dL<0)<| if(Lv .and .i64 ((c0_.getD k.toNat default).fdiv (2 ^ (min dL.toNat (IntKind.i64.bits)))) 1)=1 then if t100000_0=0 then some (Sum.inl (IntKind.i64.wrap (dL+1),t100000_0)) else (rec_ (IntKind.i64.wrap (k+1)) (IntKind.i64.wrap (key+(IntKind.i64.wrap (dL*weight)))) (IntKind.i64.wrap (weight*c2__0)) t100000_0 c0_ c2__0 c2__1 c2__2 c2__3 c2__4).bind fun AFH=> some (Sum.inl (IntKind.i64.wrap (dL+1),AFH)) else some (Sum.inl (IntKind.i64.wrap (dL+1),t100000_0)) else some (Sum.inr t100000_0)
noncomputable def Df(rec_:Int→Int→Int→Int→AA→Int→Int→AL→AL→AA→Option Int)(k key weight:Int)(c0_:AA)(c2__0 c2__1:Int)(c2__2 c2__3:AL)(c2__4:AA)(v:Int×Int):Option (Int):=Fv (fun v=>Bo rec_ k key weight c0_ c2__0 c2__1 c2__2 c2__3 c2__4 v.1 v.2) v
noncomputable def Bn(rec_:Int→Int→Int→Int→AA→Int→Int→AL→AL→AA→Option Int)(k key weight o0_:Int)(c0_:AA)(c2__0 c2__1:Int)(c2__2 c2__3:AL)(c2__4:AA):Option (Int):= if k=(c0_.length:Int)then ck (0≤key∧key.toNat<c2__4.length)<| some (Lv .and .i64 o0_ (c2__4.getD key.toNat default)) else (Df rec_ k key weight c0_ c2__0 c2__1 c2__2 c2__3 c2__4 (0,o0_)).bind fun A8=> some A8
noncomputable def Au:Nat→Int→Int→Int→Int→AA→Int→Int→AL→AL→AA→Option Int |0=>fun _ _ _ _ _ _ _ _ _ _=>none |n+1=>fun k key weight o0_ c0_ c2__0 c2__1 c2__2 c2__3 c2__4=>Bn (Au n) k key weight o0_ c0_ c2__0 c2__1 c2__2 c2__3 c2__4
noncomputable def IG(k key weight o0_:Int)(c0_:AA)(c2__0 c2__1:Int)(c2__2 c2__3:AL)(c2__4:AA):Option (Int):=Au 1000000 k key weight o0_ c0_ c2__0 c2__1 c2__2 c2__3 c2__4
abbrev U7:List Nat:=[44,45,46,47,48,49,50,51,52,53,54,55,56,57,58,100000,100001,100002,100003,100004,100005,100006,100007,59,44,46,51,58,6,46,51,58]
def aL:SC:= .seq (.ops [oB 30 .lss 3 (tK 29) (tK 28) 3 4]) (.seq (.cond (tK 30) .skip (.exit 0)) (.seq (.block 1 (.seq (.ops [oM 31 29 3,oA 10 31 3]) (.seq (.ops [oL 32 27 3 27,oM 33 0 3,oI 34 27 32 33,oL 35 3 34 3,oM 36 10 3,oB 37 .shr 3 (tK 35) (tK 36) 3 3,oB 38 .and 3 (tK 37) (iK 1) 3 3,oB 39 .eql 3 (tK 38) (iK 1) 3 4,oM 40 39 4,⟨some 41,.load 3 (tK 4),3,(some (some 40,true))⟩,⟨some 42,.binOp .neq 3 (tK 41) (iK 0) 3,4,(some (some 40,true))⟩,oX 43 (.pick (tK 40) (tK 42) Mq) 4]) (.cond (tK 43) (.draws [(⟨[100000,100001,100002,100003,100004,100005,100006,100007,44,6,6],U7,[44]⟩,oL 44 96 6 96),(⟨[45,0,0],U7,[45]⟩,oM 45 0 3),(⟨[46,45,0],U7,[46]⟩,oB 46 .add 3 (tK 45) (iK 1) 3 3),(⟨[47,1,1],U7,[47]⟩,oM 47 1 3),(⟨[48,10,10],U7,[48]⟩,oM 48 10 3),(⟨[49,2,2],U7,[49]⟩,oM 49 2 3),(⟨[50,48,49,10,2],U7,[50]⟩,oB 50 .mul 3 (tK 48) (tK 49) 3 3),(⟨[51,47,50,1,50],U7,[51]⟩,oB 51 .add 3 (tK 47) (tK 50) 3 3),(⟨[52,2,2],U7,[52]⟩,oM 52 2 3),(⟨[100000,100001,100002,100003,100004,100005,100006,100007,53,5,5],U7,[53]⟩,oL 53 58 5 58),(⟨[100000,100001,100002,100003,100004,100005,100006,100007,54,53,5],U7,[54]⟩,oX 54 (.nilCheck (tK 53)) 0),(⟨[100000,100001,100002,100003,100004,100005,100006,100007,55,54,5],U7,[55]⟩,oF 55 79 54 0),
 (⟨[100000,100001,100002,100003,100004,100005,100006,100007,56,55,5],U7,[56]⟩,oF 56 26 55 0),(⟨[100000,100001,100002,100003,100004,100005,100006,100007,57,56,5],U7,[57]⟩,oL 57 3 56 3),(⟨[58,52,57,2,5],U7,[58]⟩,oB 58 .mul 3 (tK 52) (tK 57) 3 3),(⟨[100000,100001,100002,100003,100004,100005,100006,100007,59,44,46,51,58,6,46,51,58],U7,[100000,100001,100002,100003,100004,100005,100006,100007,59,44,46,51,58,6,46,51,58]⟩,oX 59 (.call ⟨(.value (tK 44)), #[(tK 46),(tK 51),(tK 58)], #[3,3,3]⟩) 0)]) .skip)))) (.ops [oB 60 .add 3 (tK 29) (iK 1) 3 3,oM 29 60 3])))
def vC:SC:= .loop aL
abbrev dM:List Nat:=[15,16,17,18,19,20,21,22,23,100000,100001,100002,100003,100004,100005,100006,100007,4,23,4,23]
def A8m:SC:= .seq (.seq (.ops [oM 11 0 3,oL 12 27 3 27,oN 13 12 27,oB 14 .eql 3 (tK 11) (tK 13) 3 4]) (.cond (tK 14) (.seq (.draws [(⟨[100000,100001,100002,100003,100004,100005,100006,100007,15,4,4],dM,[15]⟩,oL 15 3 4 3),(⟨[100000,100001,100002,100003,100004,100005,100006,100007,16,5,5],dM,[16]⟩,oL 16 58 5 58),(⟨[100000,100001,100002,100003,100004,100005,100006,100007,17,16,5],dM,[17]⟩,oX 17 (.nilCheck (tK 16)) 0),(⟨[100000,100001,100002,100003,100004,100005,100006,100007,18,17,5],dM,[18]⟩,oF 18 79 17 1),(⟨[100000,100001,100002,100003,100004,100005,100006,100007,19,18,5],dM,[19]⟩,oL 19 27 18 27),(⟨[20,1,1],dM,[20]⟩,oM 20 1 3),(⟨[100000,100001,100002,100003,100004,100005,100006,100007,21,19,20,5,1],dM,[21]⟩,oI 21 27 19 20),(⟨[100000,100001,100002,100003,100004,100005,100006,100007,22,21,5],dM,[22]⟩,oL 22 3 21 3),(⟨[23,15,22,4,5],dM,[23]⟩,oB 23 .and 3 (tK 15) (tK 22) 3 3),(⟨[100000,100001,100002,100003,100004,100005,100006,100007,4,23,4,23],dM,[100000,100001,100002,100003,100004,100005,100006,100007,4,23,4,23]⟩,oS 3 4 23)]) .ret) .skip)) (.seq (.ops [oL 24 58 5 58,oX 25 (.nilCheck (tK 24)) 0,oF 26 79 25 0,oF 27 26 26 0,oL 28 3 27 3,oX 29 (.move (iK 0)) 3]) (.block 0
 vC))
theorem A3G:Tryz.f109.body.map (BI lends)=some A8m:=by kernel_rfl
theorem AFI:BR Tryz.f109 7=true:=by kernel_rfl
theorem ALu{a l:List D}{r:D×List D}(h:BU Y.env A8m (Du Ab l.length [] r) (entry a l))(ha:a.length=7):Y.call 109 a l=some r:=
 AP (Y:=Y) rfl Tryz.func109 (ha▸AFI) A3G h
def BJ(rec_:Int→Int→Int→Int→AA→Int→Int→AL→AL→AA→Option Int)(k key weight:Int)(c0_:AA)(c2__0 c2__1:Int)(c2__2 c2__3:AL)(c2__4:AA)(dL t100000_0:Int)(s:St):Prop:=s.v 0=D.int .i64 k∧s.v 1=D.int .i64 key∧s.v 2=D.int .i64 weight∧s.v 3=D.cptr [D.sl 3 (AJ (D.int .i64) c0_)]∧(∃w_,s.v 4=D.vw [100000] (s.k 100000) w_)∧s.v 5=D.cptr [D.cptr [D.int .i64 c2__0,D.int .i64 c2__1,D.sl 27 (AJ Ac c2__2),D.sl 27 (AJ Ac c2__3),D.sl 3 (AJ (D.int .i64) c2__4)]]∧(∃w_,s.v 6=D.ocl true 109 [D.cptr [D.sl 3 (AJ (D.int .i64) c0_)],D.vw [100000] (s.k 100000) w_,D.cptr [D.cptr [D.int .i64 c2__0,D.int .i64 c2__1,D.sl 27 (AJ Ac c2__2),D.sl 27 (AJ Ac c2__3),D.sl 3 (AJ (D.int .i64) c2__4)]],D.undef])∧s.v 28=D.int .i64 c2__0∧s.v 29=D.int .i64 dL∧s.v 100000=D.box [D.int .i64 t100000_0]
def DK(rec_:Int→Int→Int→Int→AA→Int→Int→AL→AL→AA→Option Int)(k key weight:Int)(c0_:AA)(c2__0 c2__1:Int)(c2__2 c2__3:AL)(c2__4:AA)(r:Int)(ex:Ex)(s:St):Prop:=ex= .exit 0∧s.v 100000=D.box [D.int .i64 r]
theorem O0(rec_:Int→Int→Int→Int→AA→Int→Int→AL→AL→AA→Option Int)(k key weight:Int)(c0_:AA)(c2__0 c2__1:Int)(c2__2 c2__3:AL)(c2__4:AA)(rec_h: ∀(k key weight o0_:Int) (c0_:AA) (c2__0 c2__1:Int) (c2__2 c2__3:AL) (c2__4:AA) (r:Int),rec_ k key weight o0_ c0_ c2__0 c2__1 c2__2 c2__3 c2__4=some r→Y.call 109 [D.int .i64 k,D.int .i64 key,D.int .i64 weight,D.cptr [D.sl 3 (AJ (D.int .i64) c0_)],D.vw [100000] 0 0,D.cptr [D.cptr [D.int .i64 c2__0,D.int .i64 c2__1,D.sl 27 (AJ Ac c2__2),D.sl 27 (AJ Ac c2__3),D.sl 3 (AJ (D.int .i64) c2__4)]],D.ocl true 109 [D.cptr [D.sl 3 (AJ (D.int .i64) c0_)],D.vw [100000] 0 0,D.cptr [D.cptr [D.int .i64 c2__0,D.int .i64 c2__1,D.sl 27 (AJ Ac c2__2),D.sl 27 (AJ Ac c2__3),D.sl 3 (AJ (D.int .i64) c2__4)]],D.undef]] [D.box [D.int .i64 o0_]]=some (D.tup [],[D.box [D.int .i64 r]])){v:Int×Int}{s:St}{r:Int}(h:Df rec_ k key weight c0_ c2__0 c2__1 c2__2 c2__3 c2__4 v=some r)(hM:BJ rec_ k key weight c0_ c2__0 c2__1 c2__2 c2__3 c2__4 v.1 v.2 s):BU Y.env vC (DK rec_ k key weight c0_ c2__0 c2__1 c2__2 c2__3 c2__4 r) s:=by
 unfold Df at h;refine Ap (c:=aL) (fun v=>Bo rec_ k key weight c0_ c2__0 c2__1 c2__2 c2__3 c2__4 v.1 v.2) (fun v s=>BJ rec_ k key weight c0_ c2__0 c2__1 c2__2 c2__3 c2__4 v.1 v.2 s) (DK rec_ k key weight c0_ c2__0 c2__1 c2__2 c2__3 c2__4) ?_ h hM;clear h hM s v r;intro v s o hM h;obtain⟨dL,t100000_0⟩:=v;dsimp only at h hM;unfold Bo at h;unfold BJ at hM;obtain⟨m0,m1,m2,m3,⟨w4_,m4⟩,m5,⟨w6_,m6⟩,m7,m8,m9⟩:=hM;unfold aL;rcases iS h with⟨e2,h⟩|⟨e2,h⟩
 ·obtain⟨e3,e4,h⟩:=Fy h;rcases iS h with⟨e5,h⟩|⟨e5,h⟩
  ·rcases iS h with⟨e6,h⟩|⟨e6,h⟩
   ·cases h;simp only [↓AB,AC,↓reduceIte,Nat.reduceEqDiff,Nat.reduceLT,m0,m1,m2,m3,m4,m5,m6,m7,m8,m9,e2,e3.1,e3.2,e4,decide_eq_true e5,decide_eq_true e6,BJ,Dw]<;>(repeat' apply A7)<;>first|rfl|exact⟨_,rfl⟩|exact⟨_,_,rfl⟩|simp [AJ,AU]
   ·obtain⟨AFH,hl7,h⟩:=AQ h;try dsimp only at h
    have c7:=rec_h _ _ _ _ _ _ _ _ _ _ _ hl7;cases h;simp only [↓AB,AC,↓reduceIte,Nat.reduceEqDiff,Nat.reduceLT,m0,m1,m2,m3,m4,m5,m6,m7,m8,m9,e2,e3.1,e3.2,e4,decide_eq_true e5,e6,c7,BJ,Dw]<;>(repeat' apply A7)<;>first|rfl|exact⟨_,rfl⟩|exact⟨_,_,rfl⟩|simp [AJ,AU]
  ·cases h;simp only [↓AB,AC,↓reduceIte,Nat.reduceEqDiff,Nat.reduceLT,m0,m1,m2,m3,m4,m5,m6,m7,m8,m9,e2,e3.1,e3.2,e4,e5,BJ,Dw]<;>(repeat' apply A7)<;>first|rfl|exact⟨_,rfl⟩|exact⟨_,_,rfl⟩|simp [AJ,AU]
 ·cases h;simp only [↓AB,AC,↓reduceIte,Nat.reduceEqDiff,Nat.reduceLT,m7,m8,m9,e2,BJ,DK,Ir]
theorem NB(rec_:Int→Int→Int→Int→AA→Int→Int→AL→AL→AA→Option Int)(k key weight o0_:Int)(c0_:AA)(c2__0 c2__1:Int)(c2__2 c2__3:AL)(c2__4:AA)(rec_h: ∀(k key weight o0_:Int) (c0_:AA) (c2__0 c2__1:Int) (c2__2 c2__3:AL) (c2__4:AA) (r:Int),rec_ k key weight o0_ c0_ c2__0 c2__1 c2__2 c2__3 c2__4=some r→Y.call 109 [D.int .i64 k,D.int .i64 key,D.int .i64 weight,D.cptr [D.sl 3 (AJ (D.int .i64) c0_)],D.vw [100000] 0 0,D.cptr [D.cptr [D.int .i64 c2__0,D.int .i64 c2__1,D.sl 27 (AJ Ac c2__2),D.sl 27 (AJ Ac c2__3),D.sl 3 (AJ (D.int .i64) c2__4)]],D.ocl true 109 [D.cptr [D.sl 3 (AJ (D.int .i64) c0_)],D.vw [100000] 0 0,D.cptr [D.cptr [D.int .i64 c2__0,D.int .i64 c2__1,D.sl 27 (AJ Ac c2__2),D.sl 27 (AJ Ac c2__3),D.sl 3 (AJ (D.int .i64) c2__4)]],D.undef]] [D.box [D.int .i64 o0_]]=some (D.tup [],[D.box [D.int .i64 r]])){r:Int}(h:Bn rec_ k key weight o0_ c0_ c2__0 c2__1 c2__2 c2__3 c2__4=some r):Y.call 109 [D.int .i64 k,D.int .i64 key,D.int .i64 weight,D.cptr [D.sl 3 (AJ (D.int .i64) c0_)],D.vw [100000] 0 0,D.cptr [D.cptr [D.int .i64 c2__0,D.int .i64 c2__1,D.sl 27 (AJ Ac c2__2),D.sl 27 (AJ Ac c2__3),D.sl 3 (AJ (D.int .i64) c2__4)]],D.ocl true 109 [D.cptr [D.sl 3 (AJ (D.int .i64) c0_)],D.vw [100000] 0 0,D.cptr [D.cptr [D.int .i64 c2__0,D.int .i64 c2__1,D.sl 27 (AJ Ac c2__2),D.sl 27 (AJ Ac c2__3),D.sl 3 (AJ (D.int .i64) c2__4)]],D.undef]] [D.box [D.int .i64 o0_]]=some (D.tup [],[D.box [D.int .i64 r]]):=by
 refine ALu ?_ rfl;unfold A8m;unfold Bn at h;rcases iS h with⟨e1,h⟩|⟨e1,h⟩
 ·obtain⟨e2,h⟩:=DL h;cases h;simp only [↓AB,AC,↓reduceIte,Nat.reduceEqDiff,Nat.reduceLT,Nat.reduceAdd,Nat.reduceSub,decide_eq_true e1,e2.1,e2.2]
 ·obtain⟨A8,hl3,h⟩:=AQ h;try dsimp only at h
  simp only [↓AB,AC,↓reduceIte,Nat.reduceEqDiff,Nat.reduceLT,Nat.reduceAdd,e1];refine AZ (O0 rec_ k key weight c0_ c2__0 c2__1 c2__2 c2__3 c2__4 rec_h hl3 ?_) ?_
  ·simp only [BC,Ce,↓reduceIte,Nat.reduceEqDiff,Nat.reduceLT,Nat.reduceSub,BJ]<;>(repeat' apply A7)<;>first|rfl|exact⟨_,rfl⟩|exact⟨_,_,rfl⟩|simp [AJ,AU]
  ·intro ex3 s3 hX3;unfold DK at hX3;obtain⟨rfl,n3_0⟩:=hX3;cases h;simp only [↓AB,AC,↓reduceIte,n3_0]
theorem NC(n:Nat): ∀(k:Int) (key:Int) (weight:Int) (o0_:Int) (c0_:AA) (c2__0:Int) (c2__1:Int) (c2__2:AL) (c2__3:AL) (c2__4:AA) (r:Int),Au n k key weight o0_ c0_ c2__0 c2__1 c2__2 c2__3 c2__4=some r→Y.call 109 [D.int .i64 k,D.int .i64 key,D.int .i64 weight,D.cptr [D.sl 3 (AJ (D.int .i64) c0_)],D.vw [100000] 0 0,D.cptr [D.cptr [D.int .i64 c2__0,D.int .i64 c2__1,D.sl 27 (AJ Ac c2__2),D.sl 27 (AJ Ac c2__3),D.sl 3 (AJ (D.int .i64) c2__4)]],D.ocl true 109 [D.cptr [D.sl 3 (AJ (D.int .i64) c0_)],D.vw [100000] 0 0,D.cptr [D.cptr [D.int .i64 c2__0,D.int .i64 c2__1,D.sl 27 (AJ Ac c2__2),D.sl 27 (AJ Ac c2__3),D.sl 3 (AJ (D.int .i64) c2__4)]],D.undef]] [D.box [D.int .i64 o0_]]=some (D.tup [],[D.box [D.int .i64 r]]):=by
 induction n with
 |zero=>intro k key weight o0_ c0_ c2__0 c2__1 c2__2 c2__3 c2__4 r h;exact absurd h (by rw [Au];exact fun e=>by cases e)
 |succ n ih=>intro k key weight o0_ c0_ c2__0 c2__1 c2__2 c2__3 c2__4 r h;rw [Au]at h;exact NB (Au n) k key weight o0_ c0_ c2__0 c2__1 c2__2 c2__3 c2__4 ih h
theorem OC(k key weight o0_:Int)(c0_:AA)(c2__0 c2__1:Int)(c2__2 c2__3:AL)(c2__4:AA){r:Int}(h:IG k key weight o0_ c0_ c2__0 c2__1 c2__2 c2__3 c2__4=some r):Y.call 109 [D.int .i64 k,D.int .i64 key,D.int .i64 weight,D.cptr [D.sl 3 (AJ (D.int .i64) c0_)],D.vw [100000] 0 0,D.cptr [D.cptr [D.int .i64 c2__0,D.int .i64 c2__1,D.sl 27 (AJ Ac c2__2),D.sl 27 (AJ Ac c2__3),D.sl 3 (AJ (D.int .i64) c2__4)]],D.ocl true 109 [D.cptr [D.sl 3 (AJ (D.int .i64) c0_)],D.vw [100000] 0 0,D.cptr [D.cptr [D.int .i64 c2__0,D.int .i64 c2__1,D.sl 27 (AJ Ac c2__2),D.sl 27 (AJ Ac c2__3),D.sl 3 (AJ (D.int .i64) c2__4)]],D.undef]] [D.box [D.int .i64 o0_]]=some (D.tup [],[D.box [D.int .i64 r]]):=NC 1000000 k key weight o0_ c0_ c2__0 c2__1 c2__2 c2__3 c2__4 r h
noncomputable def D8(s_0 s_1:Int)(s_2 s_3:AL)(s_4 sets:AA):Option (Int):= ck (¬s_0<0)<| (IG (0:Int) (0:Int) (1:Int) (IntKind.i64.wrap ((IntKind.i64.wrap (1*2 ^ (min s_0.toNat (IntKind.i64.bits))))-1)) sets s_0 s_1 s_2 s_3 s_4).bind fun cO=> some cO
def k80:SC:= .seq (.ops [oX 2 (.box 58 (tK 0)) 0,oX 3 (.box 27 (tK 1)) 0,oX 4 (.assign (iK 0)) 3]) (.seq (.ops [oL 7 58 2 58,oX 8 (.nilCheck (tK 7)) 0,oF 9 79 8 0,oF 10 26 9 0,oL 11 3 10 3,oB 12 .shl 3 (iK 1) (tK 11) 3 3,oB 13 .sub 3 (tK 12) (iK 1) 3 3,oX 5 (.alloc 3) 0,oS 3 5 13]) (.seq (.ops [oX 6 (.alloc 96) 0]) (.seq (.ops [oX 14 (.makeFunc (Fn.func 109) #[] #[(tK 3),(tK 5),(tK 2),(tK 6)]) 3000010,⟨none,(.store 96 (tK 6) (tK 14)),900010,none⟩]) (.seq (.ops [oL 15 96 6 96,oX 16 (.call ⟨(.value (tK 15)), #[(iK 0),(iK 0),(iK 1)], #[3,3,3]⟩) 0]) (.seq (.ops [oL 17 3 5 3,oA 4 17 3]) .ret)))))
theorem A8n:Tryz.f80.body.map (BI lends)=some k80:=by kernel_rfl
theorem ALw:BR Tryz.f80 2=true:=by kernel_rfl
theorem c80{a l:List D}{r:D×List D}(h:BU Y.env k80 (Du Ab l.length [ResultVar.tmp 4] r) (entry a l))(ha:a.length=2):Y.call 80 a l=some r:=
 AP (Y:=Y) rfl Tryz.func80 (ha▸ALw) A8n h
theorem Jr(s_0 s_1:Int)(s_2 s_3:AL)(s_4 sets:AA){r:Int}(h:D8 s_0 s_1 s_2 s_3 s_4 sets=some r):Y.call 80 [D.cptr [D.int .i64 s_0,D.int .i64 s_1,D.sl 27 (AJ Ac s_2),D.sl 27 (AJ Ac s_3),D.sl 3 (AJ (D.int .i64) s_4)],D.sl 3 (AJ (D.int .i64) sets)] []=some (D.int .i64 r,[]):=by
 refine c80 ?_ rfl;unfold k80;unfold D8 at h;obtain⟨e1,h⟩:=DL h;obtain⟨cO,hl2,h⟩:=AQ h;try dsimp only at h
 have c2:=OC (0:Int) (0:Int) (1:Int) (IntKind.i64.wrap ((IntKind.i64.wrap (1*2 ^ (min s_0.toNat (IntKind.i64.bits))))-1)) sets s_0 s_1 s_2 s_3 s_4 hl2;cases h;simp only [↓AB,AC,↓reduceIte,Nat.reduceEqDiff,Nat.reduceLT,Nat.reduceAdd,Nat.reduceMod,Nat.reduceDiv,Nat.reducePow,Nat.reduceSub,e1,c2]
noncomputable def Dh(s_0 s_1:Int)(s_2 s_3:AL)(s_4 list:AA)(O8:Int):Option ((Int)⊕(Unit⊕Unit)):= if O8<(list.length:Int)then ck (list.length<1099511627776)<| ck (0<list.length∧0≤O8∧O8≤(IntKind.i64.wrap (O8+1))∧(IntKind.i64.wrap (O8+1))≤(list.length:Int))<| (D8 s_0 s_1 s_2 s_3 s_4 (U0 list O8.toNat (IntKind.i64.wrap (O8+1)).toNat)).bind fun GY=> ck (0≤O8∧O8.toNat<list.length)<| if GY=(list.getD O8.toNat default)then some (Sum.inl (IntKind.i64.wrap (O8+1))) else some (Sum.inr (Sum.inl ())) else some (Sum.inr (Sum.inr ()))
noncomputable def Gb(s_0 s_1:Int)(s_2 s_3:AL)(s_4 list:AA)(v:Int):Option (Unit⊕Unit):=Fv (fun v=>Dh s_0 s_1 s_2 s_3 s_4 list v) v
noncomputable def Gc(s_0 s_1:Int)(s_2 s_3:AL)(s_4 list:AA):Option (Bool):=
 (Gb s_0 s_1 s_2 s_3 s_4 list 0).bind fun A8=>
 match A8 with
 | .inl q1000_=>
  some false
 | .inr q1000_=>
  some true
abbrev XC:List Nat:=[11,12,13,14,15,16,17,13,14,16,13,16,18,19,20,21,22,23]
def kX:SC:= .seq (.ops [oB 9 .lss 3 (tK 8) (tK 7) 3 0]) (.seq (.cond (tK 9) .skip (.exit 0)) (.seq (.block 1 (.seq (.ops [oM 10 8 3,oA 5 10 3]) (.seq (.draws [(⟨[11,0,0],XC,[11]⟩,oM 11 0 58),(⟨[12,1,1],XC,[12]⟩,oM 12 1 27),(⟨[13,12,1],XC,[13]⟩,oC 13 106 [(tK 12)] [27] 27),(⟨[14,5,5],XC,[14]⟩,oM 14 5 3),(⟨[15,5,5],XC,[15]⟩,oM 15 5 3),(⟨[16,15,5],XC,[16]⟩,oB 16 .add 3 (tK 15) (iK 1) 3 3),(⟨[17,13,14,16,13,5,16],XC,[17,13,14,16,13,16]⟩,oC 17 110 [(tK 13),(tK 14),(tK 16)] [27,3,3] 27),(⟨[18,11,17,0,17],XC,[18]⟩,oC 18 80 [(tK 11),(tK 17)] [58,27] 3),(⟨[19,1,1],XC,[19]⟩,oM 19 1 27),(⟨[20,5,5],XC,[20]⟩,oM 20 5 3),(⟨[21,19,20,1,5],XC,[21]⟩,oI 21 27 19 20),(⟨[22,21,1],XC,[22]⟩,oL 22 3 21 3),(⟨[23,18,22,18,1],XC,[23]⟩,oB 23 .neq 3 (tK 18) (tK 22) 3 4)]) (.cond (tK 23) (.seq (.ops [oX 4 BX 4]) .ret) .skip)))) (.ops [oB 24 .add 3 (tK 8) (iK 1) 3 3,oM 8 24 3])))
def A1W:SC:= .loop kX
def k81:SC:= .seq (.ops [oX 4 BX 4]) (.seq (.seq (.ops [oM 6 1 27,oN 7 6 27,oX 8 (.move (iK 0)) 3]) (.block 0 A1W)) (.seq (.ops [oX 4 (.assign Gx) 4]) .ret))
theorem A8o:Tryz.f81.body.map (BI lends)=some k81:=by kernel_rfl
theorem ALy:BR Tryz.f81 2=true:=by kernel_rfl
theorem c81{a l:List D}{r:D×List D}(h:BU Y.env k81 (Du Ab l.length [ResultVar.tmp 4] r) (entry a l))(ha:a.length=2):Y.call 81 a l=some r:=
 AP (Y:=Y) rfl Tryz.func81 (ha▸ALy) A8o h
def CQ(s_0 s_1:Int)(s_2 s_3:AL)(s_4 list:AA)(O8:Int)(s:St):Prop:=s.v 0=D.cptr [D.int .i64 s_0,D.int .i64 s_1,D.sl 27 (AJ Ac s_2),D.sl 27 (AJ Ac s_3),D.sl 3 (AJ (D.int .i64) s_4)]∧s.v 1=D.sl 3 (AJ (D.int .i64) list)∧s.v 7=D.int .i64 (list.length:Int)∧s.v 8=D.int .i64 O8
def Ct(s_0 s_1:Int)(s_2 s_3:AL)(s_4 list:AA)(r:Unit⊕Unit)(ex:Ex)(s:St):Prop:=match r with
 | .inl q=>ex= .ret∧s.v 4=D.bool false
 | .inr q=>ex= .exit 0
theorem Qx(s_0 s_1:Int)(s_2 s_3:AL)(s_4 list:AA){v:Int}{s:St}{r:Unit⊕Unit}(h:Gb s_0 s_1 s_2 s_3 s_4 list v=some r)(hM:CQ s_0 s_1 s_2 s_3 s_4 list v s):BU Y.env A1W (Ct s_0 s_1 s_2 s_3 s_4 list r) s:=by
 unfold Gb at h;refine Ap (c:=kX) (fun v=>Dh s_0 s_1 s_2 s_3 s_4 list v) (fun v s=>CQ s_0 s_1 s_2 s_3 s_4 list v s) (Ct s_0 s_1 s_2 s_3 s_4 list) ?_ h hM;clear h hM s v r;intro O8 s o hM h;unfold Dh at h;unfold CQ at hM;obtain⟨m0,m1,m2,m3⟩:=hM;unfold kX;rcases iS h with⟨e1,h⟩|⟨e1,h⟩
 ·obtain⟨e2,h⟩:=DL h;have c3:=Jn list e2;obtain⟨e4,h⟩:=DL h;have c5:=A2z list O8 (IntKind.i64.wrap (O8+1)) e4;obtain⟨GY,hl6,h⟩:=AQ h;have c6:=Jr s_0 s_1 s_2 s_3 s_4 (U0 list O8.toNat (IntKind.i64.wrap (O8+1)).toNat) hl6;obtain⟨e7,h⟩:=DL h;rcases iS h with⟨e8,h⟩|⟨e8,h⟩
  ·cases h;simp only [↓AB,AC,↓reduceIte,Nat.reduceEqDiff,Nat.reduceLT,m0,m1,m2,m3,e1,c3,e4,c5,c6,e7.2,decide_eq_true e8,CQ,Dw]
  ·cases h;simp only [↓AB,AC,↓reduceIte,Nat.reduceEqDiff,Nat.reduceLT,m0,m1,m2,m3,e1,c3,e4,c5,c6,e7.2,e8,CQ,Ct,Tz]
 ·cases h;simp only [↓AB,AC,↓reduceIte,Nat.reduceLT,m2,m3,e1,CQ,Ct,Ir]
theorem RY(s_0 s_1:Int)(s_2 s_3:AL)(s_4 list:AA){r:Bool}(h:Gc s_0 s_1 s_2 s_3 s_4 list=some r):Y.call 81 [D.cptr [D.int .i64 s_0,D.int .i64 s_1,D.sl 27 (AJ Ac s_2),D.sl 27 (AJ Ac s_3),D.sl 3 (AJ (D.int .i64) s_4)],D.sl 3 (AJ (D.int .i64) list)] []=some (D.bool r,[]):=by
 refine c81 ?_ rfl;unfold k81;unfold Gc at h;obtain⟨A8,hl2,h⟩:=AQ h;try dsimp only at h
 simp only [↓AB,AC,↓reduceIte,Nat.reduceEqDiff,Nat.reduceLT];refine AZ (Qx s_0 s_1 s_2 s_3 s_4 list hl2 ?_) ?_
 ·simp only [BC,Ce,↓reduceIte,Nat.reduceEqDiff,Nat.reduceLT,CQ]
 ·intro ex2 s2 hX2;rcases A8 with q1000_|q1000_
  ·unfold Ct at hX2;dsimp only at hX2 h;obtain⟨rfl,n2_0⟩:=hX2;cases h;simp only [↓AB,AC,↓reduceIte,n2_0]
  ·unfold Ct at hX2;dsimp only at hX2 h
   obtain rfl:=hX2
   cases h;simp only [↓AB,AC,↓reduceIte,Nat.reduceEqDiff,Nat.reduceLT]
noncomputable def CJ(t0_0 t0_1:Int)(t0_2 t0_3:AL)(t0_4:AA)(BA:AL)(Us:AL)(LX:Int)(OB:AA)(oz:Int):Option ((AA×Int)⊕(AA)):= if oz<((BA.getD LX.toNat default).length:Int)then ck (LX.toNat<BA.length)<| ck (0≤oz∧oz.toNat<(BA.getD LX.toNat default).length)<| ck (OB.length+1<1099511627776)<| some (Sum.inl ((OB++[IntKind.i64.wrap (((BA.getD LX.toNat default).getD oz.toNat default)+1)]),IntKind.i64.wrap (oz+1))) else some (Sum.inr OB)
noncomputable def DV(t0_0 t0_1:Int)(t0_2 t0_3:AL)(t0_4:AA)(BA:AL)(Us:AL)(LX:Int)(v:AA×Int):Option (AA):=Fv (fun v=>CJ t0_0 t0_1 t0_2 t0_3 t0_4 BA Us LX v.1 v.2) v
noncomputable def CK(t0_0 t0_1:Int)(t0_2 t0_3:AL)(t0_4:AA)(BA:AL)(Us:AL)(LX:Int):Option ((AL×Int)⊕(AL)):= if LX<(BA.length:Int)then ck (0≤LX∧LX.toNat<BA.length)<| ck (0≤t0_1∧t0_1<1099511627776)<| (DV t0_0 t0_1 t0_2 t0_3 t0_4 BA Us LX ([],0)).bind fun A8=> (D8 t0_0 t0_1 t0_2 t0_3 t0_4 A8).bind fun tZ=> if tZ=0 then some (Sum.inl (Us,IntKind.i64.wrap (LX+1))) else ck (A8.length+1<1099511627776)<| (Gc t0_0 t0_1 t0_2 t0_3 t0_4 (A8++[tZ])).bind fun A8p=> if A8p=true then ck ((A8++[tZ]).length<4611686018427387904)<| ck (Us.length+1<1099511627776)<| some (Sum.inl ((Us++[(Dn (A8++[tZ]))]),IntKind.i64.wrap (LX+1))) else some (Sum.inl (Us,IntKind.i64.wrap (LX+1))) else some (Sum.inr Us)
noncomputable def DW(t0_0 t0_1:Int)(t0_2 t0_3:AL)(t0_4:AA)(BA:AL)(v:AL×Int):Option (AL):=Fv (fun v=>CK t0_0 t0_1 t0_2 t0_3 t0_4 BA v.1 v.2) v
noncomputable def Cm(t0_0 t0_1:Int)(t0_2 t0_3:AL)(t0_4:AA):Option (AL):= ck (¬t0_0<0)<| (Lg (IntKind.i64.wrap ((IntKind.i64.wrap (1*2 ^ (min t0_0.toNat (IntKind.i64.bits))))-1)) (IntKind.i64.wrap (t0_1-1))).bind fun BA=> (DW t0_0 t0_1 t0_2 t0_3 t0_4 BA ([],0)).bind fun Ad=> (JF Ad).bind fun AFJ=> some AFJ
def kY:SC:= .seq (.ops [oB 38 .lss 3 (tK 37) (tK 36) 3 0]) (.seq (.cond (tK 38) .skip (.exit 2)) (.seq (.block 3 (.seq (.ops [oI 39 27 35 37,oL 40 3 39 3,oA 8 40 3]) (.ops [oM 41 6 27,oM 42 8 3,oB 43 .add 3 (tK 42) (iK 1) 3 3,oX 44 (.buildSlice 27 1 #[(0,(tK 43))]) 27,oX 45 (.call ⟨(.builtin .append), #[(tK 41),(tK 44)], #[27,27]⟩) 27,oA 6 45 27]))) (.ops [oB 46 .add 3 (tK 37) (iK 1) 3 3,oM 37 46 3])))
def A1X:SC:= .loop kY
def kZ:SC:= .seq (.ops [oB 26 .lss 3 (tK 25) (tK 24) 3 0]) (.seq (.cond (tK 26) .skip (.exit 0)) (.seq (.block 1 (.seq (.ops [oI 27 22 23 25,oL 28 27 27 27,oA 5 28 27]) (.seq (.ops [oM 29 0 58,oX 30 (.nilCheck (tK 29)) 0,oF 31 79 30 0,oF 32 26 31 1,oL 33 3 32 3,oX 34 (.makeSlice 27 (iK 0) (tK 33)) 27,oA 6 34 27]) (.seq (.seq (.ops [oM 35 5 27,oN 36 35 27,oX 37 (.move (iK 0)) 3]) (.block 2 A1X)) (.seq (.ops [oM 47 0 58,oM 48 6 27,oC 49 80 [(tK 47),(tK 48)] [58,27] 3,oA 9 49 3]) (.seq (.seq (.ops [oM 50 9 3,oB 51 .eql 3 (tK 50) (iK 0) 3 4]) (.cond (tK 51) (.exit 1) .skip)) (.seq (.ops [oM 52 6 27,oM 53 9 3,oX 54 (.buildSlice 27 1 #[(0,(tK 53))]) 27,oX 55 (.call ⟨(.builtin .append), #[(tK 52),(tK 54)], #[27,27]⟩) 27,oA 6 55 27]) (.seq (.ops [oM 56 0 58,oM 57 6 27,oC 58 81 [(tK 56),(tK 57)] [58,27] 4]) (.cond (tK 58) (.seq (.ops [oM 59 6 27,oC 60 68 [(tK 59)] [27] 0]) (.ops [oM 61 3 22,oM 62 6 27,oX 63 (.buildSlice 22 1 #[(0,(tK 62))]) 22,oX 64 (.call ⟨(.builtin .append), #[(tK 61),(tK 63)], #[22,22]⟩) 22,oA 3 64 22])) .skip))))))))) (.ops [oB 65 .add 3 (tK 25) (iK 1) 3 3,oM 25 65 3])))
def A1Y:SC:= .loop kZ
abbrev U8:List Nat:=[10,11,12,13,14,15,16,17,18,19,20,21,22,23,24,25]
def k51:SC:= .seq (.ops [oX 2 CG 22]) (.seq (.ops [oX 3 CG 22]) (.seq (.seq (.draws [(⟨[10,0,0],U8,[10]⟩,oM 10 0 58),(⟨[11,10,0],U8,[11]⟩,oX 11 (.nilCheck (tK 10)) 0),(⟨[12,11,0],U8,[12]⟩,oF 12 79 11 0),(⟨[13,12,0],U8,[13]⟩,oF 13 26 12 0),(⟨[14,13,0],U8,[14]⟩,oL 14 3 13 3),(⟨[15,14,0],U8,[15]⟩,oB 15 .shl 3 (iK 1) (tK 14) 3 3),(⟨[16,15,15],U8,[16]⟩,oB 16 .sub 3 (tK 15) (iK 1) 3 3),(⟨[17,0,0],U8,[17]⟩,oM 17 0 58),(⟨[18,17,0],U8,[18]⟩,oX 18 (.nilCheck (tK 17)) 0),(⟨[19,18,0],U8,[19]⟩,oF 19 79 18 0),(⟨[20,19,0],U8,[20]⟩,oF 20 26 19 1),(⟨[21,20,0],U8,[21]⟩,oL 21 3 20 3),(⟨[22,21,0],U8,[22]⟩,oB 22 .sub 3 (tK 21) (iK 1) 3 3),(⟨[23,16,22,16,22],U8,[23]⟩,oC 23 73 [(tK 16),(tK 22)] [3,3] 22),(⟨[24,23,23],U8,[24]⟩,oN 24 23 22),(⟨[25],U8,[25]⟩,oX 25 (.move (iK 0)) 3)]) (.block 0 A1Y)) (.seq (.ops [oM 66 3 22,oC 67 71 [(tK 66)] [22] 22,oA 2 67 22]) .ret)))
theorem A8q:Tryz.f51.body.map (BI lends)=some k51:=by kernel_rfl
theorem AM0:BR Tryz.f51 1=true:=by kernel_rfl
theorem c51{a l:List D}{r:D×List D}(h:BU Y.env k51 (Du Ab l.length [ResultVar.tmp 2] r) (entry a l))(ha:a.length=1):Y.call 51 a l=some r:=
 AP (Y:=Y) rfl Tryz.func51 (ha▸AM0) A8q h
def CL(t0_0 t0_1:Int)(t0_2 t0_3:AL)(t0_4:AA)(BA:AL)(Us:AL)(LX:Int)(OB:AA)(oz:Int)(s:St):Prop:=s.v 0=D.cptr [D.int .i64 t0_0,D.int .i64 t0_1,D.sl 27 (AJ Ac t0_2),D.sl 27 (AJ Ac t0_3),D.sl 3 (AJ (D.int .i64) t0_4)]∧s.v 3=D.own 27 (AJ IX Us)∧s.v 6=D.own 3 (AJ (D.int .i64) OB)∧s.v 23=D.own 27 (AJ IX BA)∧s.v 24=D.int .i64 (BA.length:Int)∧s.v 25=D.int .i64 LX∧s.v 35=D.vw [23,LX.toNat] (s.k 23) (s.m 23)∧s.v 36=D.int .i64 ((BA.getD LX.toNat default).length:Int)∧s.v 37=D.int .i64 oz
def Dz(t0_0 t0_1:Int)(t0_2 t0_3:AL)(t0_4:AA)(BA:AL)(Us:AL)(LX:Int)(r:AA)(ex:Ex)(s:St):Prop:=ex= .exit 2∧s.v 0=D.cptr [D.int .i64 t0_0,D.int .i64 t0_1,D.sl 27 (AJ Ac t0_2),D.sl 27 (AJ Ac t0_3),D.sl 3 (AJ (D.int .i64) t0_4)]∧s.v 3=D.own 27 (AJ IX Us)∧s.v 6=D.own 3 (AJ (D.int .i64) r)∧s.v 23=D.own 27 (AJ IX BA)∧s.v 24=D.int .i64 (BA.length:Int)∧s.v 25=D.int .i64 LX
theorem PR(t0_0 t0_1:Int)(t0_2 t0_3:AL)(t0_4:AA)(BA:AL)(Us:AL)(LX:Int){v:AA×Int}{s:St}{r:AA}(h:DV t0_0 t0_1 t0_2 t0_3 t0_4 BA Us LX v=some r)(hM:CL t0_0 t0_1 t0_2 t0_3 t0_4 BA Us LX v.1 v.2 s):BU Y.env A1X (Dz t0_0 t0_1 t0_2 t0_3 t0_4 BA Us LX r) s:=by
 unfold DV at h;refine Ap (c:=kY) (fun v=>CJ t0_0 t0_1 t0_2 t0_3 t0_4 BA Us LX v.1 v.2) (fun v s=>CL t0_0 t0_1 t0_2 t0_3 t0_4 BA Us LX v.1 v.2 s) (Dz t0_0 t0_1 t0_2 t0_3 t0_4 BA Us LX) ?_ h hM;clear h hM s v r;intro v s o hM h;obtain⟨OB,oz⟩:=v;dsimp only at h hM;unfold CJ at h;unfold CL at hM;obtain⟨m0,m1,m2,m3,m4,m5,m6,m7,m8⟩:=hM;unfold kY;rcases iS h with⟨e6,h⟩|⟨e6,h⟩
 ·obtain⟨e7,e8,e9,h⟩:=Wm h;cases h;simp only [↓AB,AC,↓reduceIte,Nat.reduceEqDiff,Nat.reduceLT,Nat.reduceLeDiff,m0,m1,m2,m3,m4,m5,m6,m7,m8,e6,e7,e8.1,e8.2,e9,CL,Dw]
 ·cases h;simp only [↓AB,AC,↓reduceIte,Nat.reduceEqDiff,Nat.reduceLT,m0,m1,m2,m3,m4,m5,m7,m8,e6,CL,Dz,Ir]
def BV(t0_0 t0_1:Int)(t0_2 t0_3:AL)(t0_4:AA)(BA:AL)(Us:AL)(LX:Int)(s:St):Prop:=s.v 0=D.cptr [D.int .i64 t0_0,D.int .i64 t0_1,D.sl 27 (AJ Ac t0_2),D.sl 27 (AJ Ac t0_3),D.sl 3 (AJ (D.int .i64) t0_4)]∧s.v 3=D.own 27 (AJ IX Us)∧s.v 23=D.own 27 (AJ IX BA)∧s.v 24=D.int .i64 (BA.length:Int)∧s.v 25=D.int .i64 LX
def E5(t0_0 t0_1:Int)(t0_2 t0_3:AL)(t0_4:AA)(BA:AL)(r:AL)(ex:Ex)(s:St):Prop:=ex= .exit 0∧s.v 3=D.own 27 (AJ IX r)
theorem PS(t0_0 t0_1:Int)(t0_2 t0_3:AL)(t0_4:AA)(BA:AL){v:AL×Int}{s:St}{r:AL}(h:DW t0_0 t0_1 t0_2 t0_3 t0_4 BA v=some r)(hM:BV t0_0 t0_1 t0_2 t0_3 t0_4 BA v.1 v.2 s):BU Y.env A1Y (E5 t0_0 t0_1 t0_2 t0_3 t0_4 BA r) s:=by
 unfold DW at h;refine Ap (c:=kZ) (fun v=>CK t0_0 t0_1 t0_2 t0_3 t0_4 BA v.1 v.2) (fun v s=>BV t0_0 t0_1 t0_2 t0_3 t0_4 BA v.1 v.2 s) (E5 t0_0 t0_1 t0_2 t0_3 t0_4 BA) ?_ h hM;clear h hM s v r;intro v s o hM h;obtain⟨Us,LX⟩:=v;dsimp only at h hM;unfold CK at h;unfold BV at hM;obtain⟨m0,m1,m2,m3,m4⟩:=hM;unfold kZ;rcases iS h with⟨e3,h⟩|⟨e3,h⟩
 ·obtain⟨e4,e5,h⟩:=Fy h;obtain⟨A8,hl7,h⟩:=AQ h;try dsimp only at h
  simp only [↓AB,AC,↓reduceIte,Nat.reduceEqDiff,Nat.reduceLT,Nat.reduceLeDiff,m0,m2,m3,m4,e3,e4.1,e4.2,e5.1,e5.2];refine AZ (PR t0_0 t0_1 t0_2 t0_3 t0_4 BA Us LX hl7 ?_) ?_
  ·simp only [BC,↓reduceIte,Nat.reduceEqDiff,m0,m1,m2,m3,m4,CL]<;>(repeat' apply A7)<;>first|rfl|exact⟨_,rfl⟩|exact⟨_,_,rfl⟩|simp [AJ,AU]
  ·intro ex7 s7 hX7;unfold Dz at hX7;obtain⟨rfl,n7_0,n7_1,n7_2,n7_3,n7_4,n7_5⟩:=hX7;obtain⟨tZ,hl8,h⟩:=AQ h;have c8:=Jr t0_0 t0_1 t0_2 t0_3 t0_4 A8 hl8;rcases iS h with⟨e9,h⟩|⟨e9,h⟩
   ·cases h;simp only [↓AB,AC,↓reduceIte,Nat.reduceEqDiff,Nat.reduceLT,n7_0,n7_1,n7_2,n7_3,n7_4,n7_5,c8,decide_eq_true e9,BV,Dw]
   ·obtain⟨e10,h⟩:=DL h;obtain⟨A8p,hl11,h⟩:=AQ h;have eY:=RY t0_0 t0_1 t0_2 t0_3 t0_4 (A8++[tZ]) hl11;rcases iS h with⟨e12,h⟩|⟨e12,h⟩
    ·obtain⟨e13,h⟩:=DL h;have bD:=iY (A8++[tZ]) e13;obtain⟨e15,h⟩:=DL h;cases h;simp only [↓AB,AC,↓reduceIte,Nat.reduceEqDiff,Nat.reduceLT,Nat.reduceLeDiff,n7_0,n7_1,n7_2,n7_3,n7_4,n7_5,c8,e9,e10,eY,e12,bD,e15,BV,Dw]
    ·have e12f:A8p=false:=Gf.mpr e12;cases h;simp only [↓AB,AC,↓reduceIte,Nat.reduceEqDiff,Nat.reduceLT,Nat.reduceLeDiff,n7_0,n7_1,n7_2,n7_3,n7_4,n7_5,c8,e9,e10,eY,e12f,BV,Dw]
 ·cases h;simp only [↓AB,AC,↓reduceIte,Nat.reduceEqDiff,Nat.reduceLT,m1,m3,m4,e3,BV,E5,Ir]
theorem KS(t0_0 t0_1:Int)(t0_2 t0_3:AL)(t0_4:AA){r:AL}(h:Cm t0_0 t0_1 t0_2 t0_3 t0_4=some r):Y.call 51 [D.cptr [D.int .i64 t0_0,D.int .i64 t0_1,D.sl 27 (AJ Ac t0_2),D.sl 27 (AJ Ac t0_3),D.sl 3 (AJ (D.int .i64) t0_4)]] []=some (D.own 27 (AJ IX r),[]):=by
 refine c51 ?_ rfl;unfold k51;unfold Cm at h;obtain⟨e1,h⟩:=DL h;obtain⟨BA,hl2,h⟩:=AQ h;have c2:=Qt (IntKind.i64.wrap ((IntKind.i64.wrap (1*2 ^ (min t0_0.toNat (IntKind.i64.bits))))-1)) (IntKind.i64.wrap (t0_1-1)) hl2;obtain⟨Ad,hl4,h⟩:=AQ h;try dsimp only at h
 simp (maxDischargeDepth:=9) only [↓AB,AC,↓reduceIte,Nat.reduceEqDiff,Nat.reduceLT,e1,c2];refine AZ (PS t0_0 t0_1 t0_2 t0_3 t0_4 BA hl4 ?_) ?_
 ·simp (maxDischargeDepth:=9) only [BC,Ce,↓reduceIte,Nat.reduceEqDiff,Nat.reduceLT,BV]<;>(repeat' apply A7)<;>first|rfl|exact⟨_,rfl⟩|exact⟨_,_,rfl⟩|simp [AJ,AU]
 ·intro ex4 s4 hX4;unfold E5 at hX4;obtain⟨rfl,n4_0⟩:=hX4;obtain⟨AFJ,hl5,h⟩:=AQ h;try dsimp only at h
  have c5:=PM Ad hl5;cases h;simp (maxDischargeDepth:=9) only [↓AB,AC,↓reduceIte,Nat.reduceEqDiff,Nat.reduceLT,n4_0,c5]
noncomputable def Cu(labels:AA)(c0__0 c0__1:Int)(c0__2 c0__3:AL):Option (Bool):= ck (0<labels.length)<| ck (1<labels.length)<| ck (Ah c0__3)<| ck (LP c0__3=true)<| some (RQ c0__3 (labels.getD 0 default) (labels.getD 1 default))
abbrev kg:List Nat:=[4,5,6,7,8,9,10,11,3,11,11]
def k82:SC:= .seq (.ops [oX 3 BX 4]) (.seq (.draws [(⟨[4,1,1],kg,[4]⟩,oL 4 26 1 26),(⟨[5,0,0],kg,[5]⟩,oM 5 0 27),(⟨[6,5,0],kg,[6]⟩,oX 6 (.indexAddr 27 (tK 5) (iK 0)) 0),(⟨[7,6,0],kg,[7]⟩,oL 7 3 6 3),(⟨[8,0,0],kg,[8]⟩,oM 8 0 27),(⟨[9,8,0],kg,[9]⟩,oX 9 (.indexAddr 27 (tK 8) (iK 1)) 0),(⟨[10,9,0],kg,[10]⟩,oL 10 3 9 3),(⟨[11,4,7,10,1,0,0],kg,[11]⟩,oC 11 83 [(tK 4),(tK 7),(tK 10)] [26,3,3] 4),(⟨[3,11,11],kg,[3,11,11]⟩,oA 3 11 4)]) .ret)
theorem A8r:Tryz.f82.body.map (BI lends)=some k82:=by kernel_rfl
theorem AM3:BR Tryz.f82 2=true:=by kernel_rfl
theorem c82{a l:List D}{r:D×List D}(h:BU Y.env k82 (Du Ab l.length [ResultVar.tmp 3] r) (entry a l))(ha:a.length=2):Y.call 82 a l=some r:=
 AP (Y:=Y) rfl Tryz.func82 (ha▸AM3) A8r h
theorem OY(labels:AA)(c0__0 c0__1:Int)(c0__2 c0__3:AL){r:Bool}(h:Cu labels c0__0 c0__1 c0__2 c0__3=some r):Y.call 82 [D.sl 3 (AJ (D.int .i64) labels),D.cptr [D.int .i64 c0__0,D.int .i64 c0__1,D.sl 27 (AJ Ac c0__2),D.sl 27 (AJ Ac c0__3)]] []=some (D.bool r,[]):=by
 refine c82 ?_ rfl;unfold k82;unfold Cu at h;obtain⟨e1,e2,e3,e4,h⟩:=bY h;have c5:=Pz c0__0 c0__1 c0__2 c0__3 (labels.getD 0 default) (labels.getD 1 default) e3 e4;cases h;simp only [↓AB,AC,↓reduceIte,Nat.reduceEqDiff,Nat.reduceLT,Int.reduceLE,Int.reduceToNat,e1,e2,c5]
noncomputable def Gd(pL pD:Int)(pN pE lists:AL):Option (AA×Bool):= (JG lists (fun a0=>Cu a0 pL pD pN pE)).bind fun O7=> some (O7.1,O7.2)
def k53:SC:= .seq (.ops [oX 2 (.box 26 (tK 0)) 0,oX 4 CG 27,oX 5 BX 4]) (.seq (.ops [oM 6 1 22,oX 7 (.makeFunc (Fn.func 82) #[] #[(tK 2)]) 52,oC 8 75 [(tK 6),(tK 7)] [22,52] 49,oE 9 8 0 27,oE 10 8 1 4,oA 4 9 27,oA 5 10 4]) .ret)
theorem A8s:Tryz.f53.body.map (BI lends)=some k53:=by kernel_rfl
theorem AM5:BR Tryz.f53 2=true:=by kernel_rfl
theorem c53{a l:List D}{r:D×List D}(h:BU Y.env k53 (Du Ab l.length [ResultVar.tmp 4,ResultVar.tmp 5] r) (entry a l))(ha:a.length=2):Y.call 53 a l=some r:=
 AP (Y:=Y) rfl Tryz.func53 (ha▸AM5) A8s h
theorem PZ(pL pD:Int)(pN pE lists:AL){r:AA×Bool}(h:Gd pL pD pN pE lists=some r):Y.call 53 [D.agg [D.int .i64 pL,D.int .i64 pD,D.sl 27 (AJ Ac pN),D.sl 27 (AJ Ac pE)],D.sl 27 (AJ Ac lists)] []=some (D.tup [D.own 3 (AJ (D.int .i64) r.1),D.bool r.2],[]):=by
 refine c53 ?_ rfl;unfold k53;unfold Gd at h;obtain⟨O7,hl1,h⟩:=AQ h;try dsimp only at h
 have c1:=PN lists (fun a0=>Cu a0 pL pD pN pE) 82 [D.cptr [D.int .i64 pL,D.int .i64 pD,D.sl 27 (AJ Ac pN),D.sl 27 (AJ Ac pE)]] (fun a0 _ hh=>OY a0 pL pD pN pE hh) A7B hl1;cases h;simp only [↓AB,AC,↓reduceIte,Nat.reduceEqDiff,Nat.reduceLT,c1]
noncomputable def Ey(c_:AA)(c0__0 c0__1:Int)(c0__2 c0__3:AL)(c1_:AA):Option (Bool):= (Od c1_ c_).bind fun Ma=> (Gd c0__0 c0__1 c0__2 c0__3 Ma).bind fun oZ=> some oZ.2
abbrev dN:List Nat:=[8,9,10,11,12,7,12,13,14,5,13,12,6,14]
def k52:SC:= .seq (.ops [oX 4 BX 4]) (.seq (.draws [(⟨[8,1,1],dN,[8]⟩,oL 8 26 1 26),(⟨[9,2,2],dN,[9]⟩,oL 9 27 2 27),(⟨[10,0,0],dN,[10]⟩,oM 10 0 27),(⟨[11,9,10,2,0],dN,[11]⟩,oC 11 45 [(tK 9),(tK 10)] [27,27] 22),(⟨[12,8,11,1,11],dN,[12]⟩,oC 12 53 [(tK 8),(tK 11)] [26,22] 49),(⟨[7,12,12],dN,[7,12]⟩,oM 7 12 49),(⟨[13,7],dN,[13]⟩,oE 13 7 0 27),(⟨[14,7],dN,[14]⟩,oE 14 7 1 4),(⟨[5,13,12],dN,[5,13,12]⟩,oA 5 13 27),(⟨[6,14],dN,[6,14]⟩,oA 6 14 4)]) (.seq (.ops [oM 15 6 4,oA 4 15 4]) .ret))
theorem A8t:Tryz.f52.body.map (BI lends)=some k52:=by kernel_rfl
theorem AM8:BR Tryz.f52 3=true:=by kernel_rfl
theorem c52{a l:List D}{r:D×List D}(h:BU Y.env k52 (Du Ab l.length [ResultVar.tmp 4] r) (entry a l))(ha:a.length=3):Y.call 52 a l=some r:=
 AP (Y:=Y) rfl Tryz.func52 (ha▸AM8) A8t h
theorem Q8(c_:AA)(c0__0 c0__1:Int)(c0__2 c0__3:AL)(c1_:AA){r:Bool}(h:Ey c_ c0__0 c0__1 c0__2 c0__3 c1_=some r):Y.call 52 [D.sl 3 (AJ (D.int .i64) c_),D.cptr [D.int .i64 c0__0,D.int .i64 c0__1,D.sl 27 (AJ Ac c0__2),D.sl 27 (AJ Ac c0__3)],D.cptr [D.sl 3 (AJ (D.int .i64) c1_)]] []=some (D.bool r,[]):=by
 refine c52 ?_ rfl;unfold k52;unfold Ey at h;obtain⟨Ma,hl1,h⟩:=AQ h;have c1:=TD c1_ c_ hl1;obtain⟨oZ,hl2,h⟩:=AQ h;try dsimp only at h
 have c2:=PZ c0__0 c0__1 c0__2 c0__3 Ma hl2;cases h;simp only [↓AB,AC,↓reduceIte,Nat.reduceEqDiff,Nat.reduceLT,c1,c2]
noncomputable def LY(pL pD:Int)(pN pE:AL):Option (Int×Int×AL×AL×AA×Bool):= if pD=4 then if 6<pL then some (0,0,[],[],[],false) else (Gu pL pD pN pE).bind fun Nn=> (Cm Nn.1 Nn.2.1 Nn.2.2.1 Nn.2.2.2.1 Nn.2.2.2.2).bind fun Sv=> (IQ Sv).bind fun ND=> if(OQ (ND.1.length:Int) (1:Int) (8:Int))=true then (GZ (ND.1.length:Int) (2:Int) (fun a0=>Ey a0 pL pD pN pE ND.1)).bind fun RU=> some ((ND.1.length:Int),pD,ND.2,RU,ND.1,true) else some (0,0,[],[],[],false) else (Gu pL pD pN pE).bind fun Nn=> (Cm Nn.1 Nn.2.1 Nn.2.2.1 Nn.2.2.2.1 Nn.2.2.2.2).bind fun Sv=> (IQ Sv).bind fun ND=> if(OQ (ND.1.length:Int) (1:Int) (8:Int))=true then (GZ (ND.1.length:Int) (2:Int) (fun a0=>Ey a0 pL pD pN pE ND.1)).bind fun RU=> some ((ND.1.length:Int),pD,ND.2,RU,ND.1,true) else some (0,0,[],[],[],false)
abbrev aM:List Nat:=[33,34,35,36,37,38,39,34,36,37,38,34,6,7,40,2,39,2,39,3,40,5,4]
def k30:SC:= .seq (.ops [oX 1 (.box 26 (tK 0)) 0,oX 2 (.alloc 26) 0,oX 3 CG 27,oX 4 BX 4]) (.seq (.seq (.ops [oF 8 26 1 1,oL 9 3 8 3,oB 10 .eql 3 (tK 9) (iK 4) 3 4,oM 11 10 4,⟨some 12,.fieldAddr 26 (tK 1) 0,0,(some (some 11,true))⟩,⟨some 13,.load 3 (tK 12),3,(some (some 11,true))⟩,⟨some 14,.binOp .gtr 3 (tK 13) (iK 6) 3,4,(some (some 11,true))⟩,oX 15 (.pick (tK 11) (tK 14) Mq) 4]) (.cond (tK 15) (.seq (.ops [oX 16 (.build 26 #[]) 26,oS 26 2 16,oX 3 CG 27,oX 4 BX 4]) .ret) .skip)) (.seq (.ops [oL 18 26 1 26,oC 19 50 [(tK 18)] [26] 58,oC 20 51 [(tK 19)] [58] 22,oC 21 41 [(tK 20)] [22] 46,oM 17 21 46,oE 22 17 0 27,oE 23 17 1 22,oX 5 (.alloc 27) 0,oS 27 5 22,oA 6 23 22]) (.seq (.seq (.ops [oL 24 27 5 27,oN 25 24 27,oC 26 38 [(tK 25),(iK 1),(iK 8)] [3,3,3] 4,oX 27 (.unOp .not 4 (tK 26)) 4]) (.cond (tK 27) (.seq (.ops [oX 28 (.build 26 #[]) 26,oS 26 2 28,oX 3 CG 27,oX 4 BX 4]) .ret) .skip)) (.seq (.ops [oL 29 27 5 27,oN 30 29 27,oX 31 (.makeFunc (Fn.func 52) #[] #[(tK 1),(tK 5)]) 3000002,oC 32 42 [(tK 30),(iK 2),(tK 31)] [3,3,52] 22,oA 7 32 22]) (.seq (.draws [(⟨[33,5,5],aM,[33]⟩,oL 33 27 5 27),(⟨[34,33,5],aM,[34]⟩,oN 34 33 27),(⟨[35,1,1],aM,[35]⟩,oF 35 26 1 1),
 (⟨[36,35,1],aM,[36]⟩,oL 36 3 35 3),(⟨[37,6,6],aM,[37]⟩,oM 37 6 22),(⟨[38,7,7],aM,[38]⟩,oM 38 7 22),(⟨[39,34,36,37,38,34,1,6,7],aM,[39,34,36,37,38,34,6,7]⟩,oX 39 (.build 26 #[(0,(tK 34)),(1,(tK 36)),(2,(tK 37)),(3,(tK 38))]) 26),(⟨[40,5,5],aM,[40]⟩,oL 40 27 5 27),(⟨[2,39,2,39],aM,[2,39,2,39]⟩,oS 26 2 39),(⟨[3,40,5],aM,[3,40,5]⟩,oA 3 40 27),(⟨[4],aM,[4]⟩,oX 4 (.assign Gx) 4)]) .ret)))))
theorem A8u:Tryz.f30.body.map (BI lends)=some k30:=by kernel_rfl
theorem AMB:BR Tryz.f30 1=true:=by kernel_rfl
theorem c30{a l:List D}{r:D×List D}(h:BU Y.env k30 (Du Ab l.length [ResultVar.cell 2 26,ResultVar.tmp 3,ResultVar.tmp 4] r) (entry a l))(ha:a.length=1):Y.call 30 a l=some r:=
 AP (Y:=Y) rfl Tryz.func30 (ha▸AMB) A8u h
theorem YH(pL pD:Int)(pN pE:AL){r:Int×Int×AL×AL×AA×Bool}(h:LY pL pD pN pE=some r):Y.call 30 [D.agg [D.int .i64 pL,D.int .i64 pD,D.sl 27 (AJ Ac pN),D.sl 27 (AJ Ac pE)]] []=some (D.tup [D.agg [D.int .i64 r.1,D.int .i64 r.2.1,D.own 27 (AJ IX r.2.2.1),D.own 27 (AJ IX r.2.2.2.1)],D.own 3 (AJ (D.int .i64) r.2.2.2.2.1),D.bool r.2.2.2.2.2],[]):=by
 refine c30 ?_ rfl;unfold k30;unfold LY at h;rcases iS h with⟨e1,h⟩|⟨e1,h⟩
 ·rcases iS h with⟨e2,h⟩|⟨e2,h⟩
  ·cases h;simp (maxDischargeDepth:=9) only [↓AB,AC,↓reduceIte,Nat.reduceEqDiff,Nat.reduceLT,Nat.reduceAdd,decide_eq_true e1,e2]<;>(repeat' apply A7)<;>first|rfl|exact⟨_,rfl⟩|exact⟨_,_,rfl⟩|simp [AJ,AU]
  ·obtain⟨Nn,hl3,h⟩:=AQ h;have c3:=PQ pL pD pN pE hl3;obtain⟨Sv,hl4,h⟩:=AQ h;have c4:=KS Nn.1 Nn.2.1 Nn.2.2.1 Nn.2.2.2.1 Nn.2.2.2.2 hl4;obtain⟨ND,hl5,h⟩:=AQ h;have c5:=Mx Sv hl5;have c6:=Ld (ND.1.length:Int) (1:Int) (8:Int);rcases iS h with⟨e7,h⟩|⟨e7,h⟩
   ·obtain⟨RU,hl8,h⟩:=AQ h;try dsimp only at h
    have c8:=N7 (ND.1.length:Int) (2:Int) (fun a0=>Ey a0 pL pD pN pE ND.1) 52 [D.cptr [D.int .i64 pL,D.int .i64 pD,D.sl 27 (AJ Ac pN),D.sl 27 (AJ Ac pE)],D.cptr [D.sl 3 (AJ (D.int .i64) ND.1)]] (fun a0 _ hh=>Q8 a0 pL pD pN pE ND.1 hh) A2t hl8;cases h;simp (maxDischargeDepth:=9) only [↓AB,AC,↓reduceIte,Nat.reduceEqDiff,Nat.reduceLT,Nat.reduceLeDiff,Nat.reduceAdd,Nat.reduceMod,Nat.reduceDiv,Nat.reducePow,Nat.reduceSub,decide_eq_true e1,e2,c3,c4,c5,c6,e7,c8]
   ·have e7f:(OQ (ND.1.length:Int) (1:Int) (8:Int))=false:=Gf.mpr e7;cases h;simp (maxDischargeDepth:=9) only [↓AB,AC,↓reduceIte,Nat.reduceEqDiff,Nat.reduceLT,Nat.reduceAdd,decide_eq_true e1,e2,c3,c4,c5,c6,e7f]<;>(repeat' apply A7)<;>first|rfl|exact⟨_,rfl⟩|exact⟨_,_,rfl⟩|simp [AJ,AU]
 ·obtain⟨Nn,hl2,h⟩:=AQ h;have c2:=PQ pL pD pN pE hl2;obtain⟨Sv,hl3,h⟩:=AQ h;have c3:=KS Nn.1 Nn.2.1 Nn.2.2.1 Nn.2.2.2.1 Nn.2.2.2.2 hl3;obtain⟨ND,hl4,h⟩:=AQ h;have c4:=Mx Sv hl4;have c5:=Ld (ND.1.length:Int) (1:Int) (8:Int);rcases iS h with⟨e6,h⟩|⟨e6,h⟩
  ·obtain⟨RU,hl7,h⟩:=AQ h;try dsimp only at h
   have c7:=N7 (ND.1.length:Int) (2:Int) (fun a0=>Ey a0 pL pD pN pE ND.1) 52 [D.cptr [D.int .i64 pL,D.int .i64 pD,D.sl 27 (AJ Ac pN),D.sl 27 (AJ Ac pE)],D.cptr [D.sl 3 (AJ (D.int .i64) ND.1)]] (fun a0 _ hh=>Q8 a0 pL pD pN pE ND.1 hh) A2t hl7;cases h;simp (maxDischargeDepth:=9) only [↓AB,AC,↓reduceIte,Nat.reduceEqDiff,Nat.reduceLT,Nat.reduceLeDiff,Nat.reduceAdd,Nat.reduceMod,Nat.reduceDiv,Nat.reducePow,Nat.reduceSub,e1,c2,c3,c4,c5,e6,c7]
  ·have e6f:(OQ (ND.1.length:Int) (1:Int) (8:Int))=false:=Gf.mpr e6;cases h;simp (maxDischargeDepth:=9) only [↓AB,AC,↓reduceIte,Nat.reduceEqDiff,Nat.reduceLT,Nat.reduceAdd,e1,c2,c3,c4,c5,e6f]<;>(repeat' apply A7)<;>first|rfl|exact⟨_,rfl⟩|exact⟨_,_,rfl⟩|simp [AJ,AU]
def k17:SC:= .seq (.ops [oX 1 (.box 26 (tK 0)) 0,oX 2 (.alloc 26) 0,oX 3 CG 27,oX 4 BX 4]) (.seq (.seq (.ops [oL 5 26 1 26,oC 6 24 [(tK 5)] [26] 4,oX 7 (.unOp .not 4 (tK 6)) 4]) (.cond (tK 7) (.seq (.ops [oX 8 (.build 26 #[]) 26,oS 26 2 8,oX 3 CG 27,oX 4 BX 4]) .ret) .skip)) (.seq (.ops [oL 9 26 1 26,oC 10 30 [(tK 9)] [26] 28,oE 11 10 0 26,oE 12 10 1 27,oE 13 10 2 4,oS 26 2 11,oA 3 12 27,oA 4 13 4]) .ret))
theorem A8v:Tryz.f17.body.map (BI lends)=some k17:=by kernel_rfl
theorem AMD:BR Tryz.f17 1=true:=by kernel_rfl
theorem tq{a l:List D}{r:D×List D}(h:BU Y.env k17 (Du Ab l.length [ResultVar.cell 2 26,ResultVar.tmp 3,ResultVar.tmp 4] r) (entry a l))(ha:a.length=1):Y.call 17 a l=some r:=
 AP (Y:=Y) rfl Tryz.func17 (ha▸AMD) A8v h
noncomputable def WE(pL pD:Int)(pN pE:AL)(l:AA):Option (Bool):= ck (l.length<1099511627776)<| ck (pN.length<1099511627776)<| ck ((Bt l).length<1099511627776)<| some (pN.contains (Bt l))
abbrev xm:List Nat:=[5,6,7,8,9,4,9,9]
def k78:SC:= .seq (.ops [oX 2 (.box 26 (tK 0)) 0,oX 4 BX 4]) (.seq (.draws [(⟨[5,2,2],xm,[5]⟩,oF 5 26 2 2),(⟨[6,5,2],xm,[6]⟩,oL 6 22 5 22),(⟨[7,1,1],xm,[7]⟩,oM 7 1 27),(⟨[8,7,1],xm,[8]⟩,oC 8 90 [(tK 7)] [27] 27),(⟨[9,6,8,2,8],xm,[9]⟩,oC 9 86 [(tK 6),(tK 8)] [22,27] 4),(⟨[4,9,9],xm,[4,9,9]⟩,oA 4 9 4)]) .ret)
theorem A8w:Tryz.f78.body.map (BI lends)=some k78:=by kernel_rfl
theorem AMF:BR Tryz.f78 2=true:=by kernel_rfl
theorem c78{a l:List D}{r:D×List D}(h:BU Y.env k78 (Du Ab l.length [ResultVar.tmp 4] r) (entry a l))(ha:a.length=2):Y.call 78 a l=some r:=
 AP (Y:=Y) rfl Tryz.func78 (ha▸AMF) A8w h
theorem dO(pL pD:Int)(pN pE:AL)(l:AA){r:Bool}(h:WE pL pD pN pE l=some r):Y.call 78 [D.agg [D.int .i64 pL,D.int .i64 pD,D.sl 27 (AJ Ac pN),D.sl 27 (AJ Ac pE)],D.sl 3 (AJ (D.int .i64) l)] []=some (D.bool r,[]):=by
 refine c78 ?_ rfl;unfold k78;unfold WE at h;obtain⟨e1,h⟩:=DL h;have c2:=tQ l e1;obtain⟨e3,e4,h⟩:=Fy h;have c5:=Um pN (Bt l) e3 e4;cases h;simp only [↓AB,AC,↓reduceIte,Nat.reduceEqDiff,Nat.reduceLT,c2,c5]
noncomputable def GG(pL pD:Int)(pN pE:AL)(size k:Int):Option ((Int×Int)⊕(Int)):= if k<pD then some (Sum.inl (IntKind.i64.wrap (size*pL),IntKind.i64.wrap (k+1))) else some (Sum.inr size)
noncomputable def Kv(pL pD:Int)(pN pE:AL)(v:Int×Int):Option (Int):=Fv (fun v=>GG pL pD pN pE v.1 v.2) v
noncomputable def GH(pL pD:Int)(pN pE:AL)(A8:Int)(x_4:List Bool)(J3:Int)(l:AA)(rest:Int):Option ((AA×Int)⊕(AA)):= if(l.length:Int)<pD then ck (¬pL=0)<| ck (l.length+1<1099511627776)<| some (Sum.inl ((l++[(rest.tmod pL)]),IntKind.i64.wrap (rest.tdiv pL))) else some (Sum.inr l)
noncomputable def Kw(pL pD:Int)(pN pE:AL)(A8:Int)(x_4:List Bool)(J3:Int)(v:AA×Int):Option (AA):=Fv (fun v=>GH pL pD pN pE A8 x_4 J3 v.1 v.2) v
noncomputable def GI(pL pD:Int)(pN pE:AL)(A8:Int)(x_4:List Bool)(J3:Int):Option (((List Bool)×Int)⊕((List Bool))):= if J3<((List.replicate A8.toNat false).length:Int)then (Kw pL pD pN pE A8 x_4 J3 ([],J3)).bind fun Ad=> (WE pL pD pN pE Ad).bind fun Rt=> ck (0≤J3∧J3.toNat<x_4.length)<| some (Sum.inl ((x_4.set J3.toNat Rt),IntKind.i64.wrap (J3+1))) else some (Sum.inr x_4)
noncomputable def Ky(pL pD:Int)(pN pE:AL)(A8:Int)(v:(List Bool)×Int):Option ((List Bool)):=Fv (fun v=>GI pL pD pN pE A8 v.1 v.2) v
noncomputable def NE(pL pD:Int)(pN pE:AL):Option (Int×Int×AL×AL×(List Bool)):= (Kv pL pD pN pE (1,0)).bind fun A8=> ck (0≤A8∧A8<1099511627776)<| (Ky pL pD pN pE A8 ((List.replicate A8.toNat false),0)).bind fun LU=> some (pL,pD,pN,pE,LU)
def ko:SC:= .seq (.seq (.ops [oM 9 4 3,oF 10 26 1 1,oL 11 3 10 3,oB 12 .lss 3 (tK 9) (tK 11) 3 4]) (.cond (tK 12) .skip (.exit 0))) (.seq (.block 1 (.ops [oM 15 3 3,oF 16 26 1 0,oL 17 3 16 3,oB 18 .mul 3 (tK 15) (tK 17) 3 3,oA 3 18 3])) (.ops [oM 13 4 3,oB 14 .add 3 (tK 13) (iK 1) 3 3,oA 4 14 3]))
def A1Z:SC:= .loop ko
def kr:SC:= .seq (.seq (.ops [oM 30 7 27,oN 31 30 27,oF 32 26 1 1,oL 33 3 32 3,oB 34 .lss 3 (tK 31) (tK 33) 3 4]) (.cond (tK 34) .skip (.exit 4))) (.seq (.block 5 (.ops [oM 39 7 27,oM 40 8 3,oF 41 26 1 0,oL 42 3 41 3,oB 43 .rem 3 (tK 40) (tK 42) 3 3,oX 44 (.buildSlice 27 1 #[(0,(tK 43))]) 27,oX 45 (.call ⟨(.builtin .append), #[(tK 39),(tK 44)], #[27,27]⟩) 27,oA 7 45 27])) (.ops [oM 35 8 3,oF 36 26 1 0,oL 37 3 36 3,oB 38 .quo 3 (tK 35) (tK 37) 3 3,oA 8 38 3]))
def A1a:SC:= .loop kr
abbrev p8:List Nat:=[46,47,48,49,50,51,52,100000,100001,100002,100003,100004,100005,100006,100007,52,51,5,51]
def ku:SC:= .seq (.ops [oB 27 .lss 3 (tK 26) (tK 25) 3 0]) (.seq (.cond (tK 27) .skip (.exit 2)) (.seq (.block 3 (.seq (.ops [oM 28 26 3,oA 6 28 3]) (.seq (.ops [oX 7 CG 27]) (.seq (.seq (.ops [oM 29 6 3,oA 8 29 3]) (.block 4 A1a)) (.draws [(⟨[100000,100001,100002,100003,100004,100005,100006,100007,46,5,5],p8,[46]⟩,oF 46 55 5 1),(⟨[100000,100001,100002,100003,100004,100005,100006,100007,47,46,5],p8,[47]⟩,oL 47 53 46 53),(⟨[48,6,6],p8,[48]⟩,oM 48 6 3),(⟨[100000,100001,100002,100003,100004,100005,100006,100007,49,1,1],p8,[49]⟩,oL 49 26 1 26),(⟨[50,7,7],p8,[50]⟩,oM 50 7 27),(⟨[100000,100001,100002,100003,100004,100005,100006,100007,51,49,50,1,7],p8,[51]⟩,oC 51 78 [(tK 49),(tK 50)] [26,27] 4),(⟨[100000,100001,100002,100003,100004,100005,100006,100007,52,47,48,5,6],p8,[52]⟩,oI 52 53 47 48),(⟨[100000,100001,100002,100003,100004,100005,100006,100007,52,51,5,51],p8,[100000,100001,100002,100003,100004,100005,100006,100007,52,51,5,51]⟩,oS 4 52 51)]))))) (.ops [oB 53 .add 3 (tK 26) (iK 1) 3 3,oM 26 53 3])))
def A1b:SC:= .loop ku
abbrev xn:List Nat:=[19,20,21,22,19,21,1,21,5,5,22,5,22]
def k46:SC:= .seq (.ops [oX 1 (.box 26 (tK 0)) 0,oX 2 (.alloc 55) 0]) (.seq (.ops [oX 3 (.assign (iK 1)) 3]) (.seq (.seq (.ops [oX 4 (.assign (iK 0)) 3]) (.block 0 A1Z)) (.seq (.draws [(⟨[19,1,1],xn,[19]⟩,oL 19 26 1 26),(⟨[20,3,3],xn,[20]⟩,oM 20 3 3),(⟨[21,20,20,3,3],xn,[21]⟩,oX 21 (.makeSlice 53 (tK 20) (tK 20)) 53),(⟨[22,19,21,1,21],xn,[22,19,21,1,21]⟩,oX 22 (.build 55 #[(0,(tK 19)),(1,(tK 21))]) 55),(⟨[5],xn,[5]⟩,oX 5 (.alloc 55) 0),(⟨[5,22,5,22],xn,[5,22,5,22]⟩,oS 55 5 22)]) (.seq (.seq (.ops [oF 23 55 5 1,oL 24 53 23 53,oN 25 24 53,oX 26 (.move (iK 0)) 3]) (.block 2 A1b)) (.seq (.ops [oL 54 55 5 55,oS 55 2 54]) .ret)))))
theorem A8x:Tryz.f46.body.map (BI lends)=some k46:=by kernel_rfl
theorem AMH:BR Tryz.f46 1=true:=by kernel_rfl
theorem c46{a l:List D}{r:D×List D}(h:BU Y.env k46 (Du Ab l.length [ResultVar.cell 2 55] r) (entry a l))(ha:a.length=1):Y.call 46 a l=some r:=
 AP (Y:=Y) rfl Tryz.func46 (ha▸AMH) A8x h
def GJ(pL pD:Int)(pN pE:AL)(size k:Int)(s:St):Prop:=s.v 1=D.box [D.int .i64 pL,D.int .i64 pD,D.sl 27 (AJ Ac pN),D.sl 27 (AJ Ac pE)]∧s.v 2=D.box [D.int .i64 0,D.int .i64 0,D.own 27 [],D.own 27 [],D.own 4 []]∧s.v 3=D.int .i64 size∧s.v 4=D.int .i64 k
def LF(pL pD:Int)(pN pE:AL)(r:Int)(ex:Ex)(s:St):Prop:=ex= .exit 0∧s.v 1=D.box [D.int .i64 pL,D.int .i64 pD,D.sl 27 (AJ Ac pN),D.sl 27 (AJ Ac pE)]∧s.v 2=D.box [D.int .i64 0,D.int .i64 0,D.own 27 [],D.own 27 [],D.own 4 []]∧s.v 3=D.int .i64 r
theorem XD(pL pD:Int)(pN pE:AL){v:Int×Int}{s:St}{r:Int}(h:Kv pL pD pN pE v=some r)(hM:GJ pL pD pN pE v.1 v.2 s):BU Y.env A1Z (LF pL pD pN pE r) s:=by
 unfold Kv at h;refine Ap (c:=ko) (fun v=>GG pL pD pN pE v.1 v.2) (fun v s=>GJ pL pD pN pE v.1 v.2 s) (LF pL pD pN pE) ?_ h hM;clear h hM s v r;intro v s o hM h;obtain⟨size,k⟩:=v;dsimp only at h hM;unfold GG at h;unfold GJ at hM;obtain⟨m0,m1,m2,m3⟩:=hM;unfold ko;rcases iS h with⟨e1,h⟩|⟨e1,h⟩
 ·cases h;simp only [↓AB,AC,↓reduceIte,Nat.reduceEqDiff,Nat.reduceLT,m0,m1,m2,m3,e1,GJ,Dw]
 ·cases h;simp only [↓AB,AC,↓reduceIte,Nat.reduceEqDiff,Nat.reduceLT,m0,m1,m2,m3,e1,GJ,LF,Ir]
def GK(pL pD:Int)(pN pE:AL)(A8:Int)(x_4:List Bool)(J3:Int)(l:AA)(rest:Int)(s:St):Prop:=s.v 1=D.box [D.int .i64 pL,D.int .i64 pD,D.sl 27 (AJ Ac pN),D.sl 27 (AJ Ac pE)]∧s.v 2=D.box [D.int .i64 0,D.int .i64 0,D.own 27 [],D.own 27 [],D.own 4 []]∧s.v 5=D.box [D.int .i64 pL,D.int .i64 pD,D.sl 27 (AJ Ac pN),D.sl 27 (AJ Ac pE),D.own 4 (AJ D.bool x_4)]∧s.v 6=D.int .i64 J3∧s.v 7=D.own 3 (AJ (D.int .i64) l)∧s.v 8=D.int .i64 rest∧s.v 25=D.int .i64 ((List.replicate A8.toNat false).length:Int)∧s.v 26=D.int .i64 J3
def LG(pL pD:Int)(pN pE:AL)(A8:Int)(x_4:List Bool)(J3:Int)(r:AA)(ex:Ex)(s:St):Prop:=ex= .exit 4∧s.v 1=D.box [D.int .i64 pL,D.int .i64 pD,D.sl 27 (AJ Ac pN),D.sl 27 (AJ Ac pE)]∧s.v 2=D.box [D.int .i64 0,D.int .i64 0,D.own 27 [],D.own 27 [],D.own 4 []]∧s.v 5=D.box [D.int .i64 pL,D.int .i64 pD,D.sl 27 (AJ Ac pN),D.sl 27 (AJ Ac pE),D.own 4 (AJ D.bool x_4)]∧s.v 6=D.int .i64 J3∧s.v 7=D.own 3 (AJ (D.int .i64) r)∧s.v 25=D.int .i64 ((List.replicate A8.toNat false).length:Int)∧s.v 26=D.int .i64 J3
theorem XE(pL pD:Int)(pN pE:AL)(A8:Int)(x_4:List Bool)(J3:Int){v:AA×Int}{s:St}{r:AA}(h:Kw pL pD pN pE A8 x_4 J3 v=some r)(hM:GK pL pD pN pE A8 x_4 J3 v.1 v.2 s):BU Y.env A1a (LG pL pD pN pE A8 x_4 J3 r) s:=by
 unfold Kw at h;refine Ap (c:=kr) (fun v=>GH pL pD pN pE A8 x_4 J3 v.1 v.2) (fun v s=>GK pL pD pN pE A8 x_4 J3 v.1 v.2 s) (LG pL pD pN pE A8 x_4 J3) ?_ h hM;clear h hM s v r;intro v s o hM h;obtain⟨l,rest⟩:=v;dsimp only at h hM;unfold GH at h;unfold GK at hM;obtain⟨m0,m1,m2,m3,m4,m5,m6,m7⟩:=hM;unfold kr;rcases iS h with⟨e5,h⟩|⟨e5,h⟩
 ·obtain⟨e6,e7,h⟩:=Fy h;cases h;simp only [↓AB,AC,↓reduceIte,Nat.reduceEqDiff,Nat.reduceLT,Nat.reduceLeDiff,m0,m1,m2,m3,m4,m5,m6,m7,e5,e6,e7,GK,Dw]
 ·cases h;simp only [↓AB,AC,↓reduceIte,Nat.reduceEqDiff,Nat.reduceLT,m0,m1,m2,m3,m4,m6,m7,e5,GK,LG,Ir]
def GL(pL pD:Int)(pN pE:AL)(A8:Int)(x_4:List Bool)(J3:Int)(s:St):Prop:=s.v 1=D.box [D.int .i64 pL,D.int .i64 pD,D.sl 27 (AJ Ac pN),D.sl 27 (AJ Ac pE)]∧s.v 2=D.box [D.int .i64 0,D.int .i64 0,D.own 27 [],D.own 27 [],D.own 4 []]∧s.v 5=D.box [D.int .i64 pL,D.int .i64 pD,D.sl 27 (AJ Ac pN),D.sl 27 (AJ Ac pE),D.own 4 (AJ D.bool x_4)]∧s.v 25=D.int .i64 ((List.replicate A8.toNat false).length:Int)∧s.v 26=D.int .i64 J3
def LH(pL pD:Int)(pN pE:AL)(A8:Int)(r:(List Bool))(ex:Ex)(s:St):Prop:=ex= .exit 2∧s.v 2=D.box [D.int .i64 0,D.int .i64 0,D.own 27 [],D.own 27 [],D.own 4 []]∧s.v 5=D.box [D.int .i64 pL,D.int .i64 pD,D.sl 27 (AJ Ac pN),D.sl 27 (AJ Ac pE),D.own 4 (AJ D.bool r)]
theorem XF(pL pD:Int)(pN pE:AL)(A8:Int){v:(List Bool)×Int}{s:St}{r:(List Bool)}(h:Ky pL pD pN pE A8 v=some r)(hM:GL pL pD pN pE A8 v.1 v.2 s):BU Y.env A1b (LH pL pD pN pE A8 r) s:=by
 unfold Ky at h;refine Ap (c:=ku) (fun v=>GI pL pD pN pE A8 v.1 v.2) (fun v s=>GL pL pD pN pE A8 v.1 v.2 s) (LH pL pD pN pE A8) ?_ h hM;clear h hM s v r;intro v s o hM h;obtain⟨x_4,J3⟩:=v;dsimp only at h hM;unfold GI at h;unfold GL at hM;obtain⟨m0,m1,m2,m3,m4⟩:=hM;unfold ku;rcases iS h with⟨e4,h⟩|⟨e4,h⟩
 ·obtain⟨Ad,hl6,h⟩:=AQ h;try dsimp only at h
  simp only [↓AB,AC,↓reduceIte,Nat.reduceEqDiff,Nat.reduceLT,m3,m4,e4];refine AZ (XE pL pD pN pE A8 x_4 J3 hl6 ?_) ?_
  ·simp only [BC,↓reduceIte,Nat.reduceEqDiff,m0,m1,m2,m3,m4,GK]<;>(repeat' apply A7)<;>first|rfl|exact⟨_,rfl⟩|exact⟨_,_,rfl⟩|simp [AJ,AU]
  ·intro ex6 s6 hX6;unfold LG at hX6;obtain⟨rfl,n6_0,n6_1,n6_2,n6_3,n6_4,n6_5,n6_6⟩:=hX6;obtain⟨Rt,hl7,h⟩:=AQ h;have c7:=dO pL pD pN pE Ad hl7;obtain⟨e8,h⟩:=DL h;cases h;simp only [↓AB,AC,↓reduceIte,Nat.reduceEqDiff,Nat.reduceLT,n6_0,n6_1,n6_2,n6_3,n6_4,n6_5,n6_6,c7,e8.1,e8.2,GL,Dw]
 ·cases h;simp only [↓AB,AC,↓reduceIte,Nat.reduceEqDiff,Nat.reduceLT,m1,m2,m3,m4,e4,GL,LH,Ir]
theorem Rm(pL pD:Int)(pN pE:AL){r:Int×Int×AL×AL×(List Bool)}(h:NE pL pD pN pE=some r):Y.call 46 [D.agg [D.int .i64 pL,D.int .i64 pD,D.sl 27 (AJ Ac pN),D.sl 27 (AJ Ac pE)]] []=some (D.agg [D.int .i64 r.1,D.int .i64 r.2.1,D.sl 27 (AJ Ac r.2.2.1),D.sl 27 (AJ Ac r.2.2.2.1),D.own 4 (AJ D.bool r.2.2.2.2)],[]):=by
 refine c46 ?_ rfl;unfold k46;unfold NE at h;obtain⟨A8,hl2,h⟩:=AQ h;try dsimp only at h
 simp only [↓AB,AC,↓reduceIte,Nat.reduceEqDiff,Nat.reduceLT];refine AZ (XD pL pD pN pE hl2 ?_) ?_
 ·simp only [BC,↓reduceIte,Nat.reduceEqDiff,GJ]
 ·intro ex2 s2 hX2;unfold LF at hX2;obtain⟨rfl,n2_0,n2_1,n2_2⟩:=hX2;obtain⟨e3,h⟩:=DL h;obtain⟨LU,hl5,h⟩:=AQ h;try dsimp only at h
  simp only [↓AB,AC,↓reduceIte,Nat.reduceEqDiff,Nat.reduceLeDiff,n2_0,n2_2,e3.1,e3.2];refine AZ (XF pL pD pN pE A8 hl5 ?_) ?_
  ·simp only [BC,↓reduceIte,Nat.reduceEqDiff,n2_0,n2_1,GL]
  ·intro ex5 s5 hX5;unfold LH at hX5;obtain⟨rfl,n5_0,n5_1⟩:=hX5;cases h;simp only [↓AB,AC,↓reduceIte,Nat.reduceEqDiff,n5_0,n5_1]
noncomputable def Dj(t0_p t0_good:Int)(t0_2 t0_3:AL)(t0_4:List Bool)(E9 yM O8:Int):Option ((Int×Int)⊕(Int)):= if O8<t0_p then ck (0≤IntKind.i64.wrap ((IntKind.i64.wrap (E9*t0_p))+O8)∧(IntKind.i64.wrap ((IntKind.i64.wrap (E9*t0_p))+O8)).toNat<t0_4.length)<| if(t0_4.getD ((IntKind.i64.wrap ((IntKind.i64.wrap (E9*t0_p))+O8)).toNat) default)=true then ck (¬O8<0)<| some (Sum.inl (IntKind.i64.wrap (yM+(IntKind.i64.wrap (1*2 ^ (min O8.toNat (IntKind.i64.bits))))),IntKind.i64.wrap (O8+1))) else some (Sum.inl (yM,IntKind.i64.wrap (O8+1))) else some (Sum.inr yM)
noncomputable def JX(t0_p t0_good:Int)(t0_2 t0_3:AL)(t0_4:List Bool)(E9:Int)(v:Int×Int):Option (Int):=Fv (fun v=>Dj t0_p t0_good t0_2 t0_3 t0_4 E9 v.1 v.2) v
noncomputable def Dk(rec_:Int→Int→AL→AL→(List Bool)→AA→Int→Option Int)(t0_p t0_good:Int)(t0_2 t0_3:AL)(t0_4:List Bool)(Dy:AA)(E9:Int)(PK:AA)(MZ kv:Int):Option ((Int×Int)⊕(Int)):= if kv<(PK.length:Int)then ck (0≤kv∧kv.toNat<PK.length)<| if 0<MZ then ck (1≤Dy.length)<| (rec_ t0_p t0_good t0_2 t0_3 t0_4 ((Dy.take Dy.length).drop 1) (IntKind.i64.wrap ((IntKind.i64.wrap (E9*t0_p))+(PK.getD kv.toNat default)))).bind fun A1J=> some (Sum.inl (Lv .and .i64 MZ A1J,IntKind.i64.wrap (kv+1))) else some (Sum.inl (MZ,IntKind.i64.wrap (kv+1))) else some (Sum.inr MZ)
noncomputable def JY(rec_:Int→Int→AL→AL→(List Bool)→AA→Int→Option Int)(t0_p t0_good:Int)(t0_2 t0_3:AL)(t0_4:List Bool)(Dy:AA)(E9:Int)(PK:AA)(v:Int×Int):Option (Int):=Fv (fun v=>Dk rec_ t0_p t0_good t0_2 t0_3 t0_4 Dy E9 PK v.1 v.2) v
noncomputable def EO(rec_:Int→Int→AL→AL→(List Bool)→AA→Int→Option Int)(t0_p t0_good:Int)(t0_2 t0_3:AL)(t0_4:List Bool)(Dy:AA)(E9:Int):Option (Int):= if(Dy.length:Int)=0 then (JX t0_p t0_good t0_2 t0_3 t0_4 E9 (0,0)).bind fun A8=> some A8 else ck (¬t0_p<0)<| ck (0<Dy.length)<| (LW (Dy.getD 0 default)).bind fun PK=> (JY rec_ t0_p t0_good t0_2 t0_3 t0_4 Dy E9 PK (IntKind.i64.wrap ((IntKind.i64.wrap (1*2 ^ (min t0_p.toNat (IntKind.i64.bits))))-1),0)).bind fun Ad=> some Ad
noncomputable def C9:Nat→Int→Int→AL→AL→(List Bool)→AA→Int→Option Int |0=>fun _ _ _ _ _ _ _=>none |n+1=>fun t0_p t0_good t0_2 t0_3 t0_4 Dy E9=>EO (C9 n) t0_p t0_good t0_2 t0_3 t0_4 Dy E9
noncomputable def MV(t0_p t0_good:Int)(t0_2 t0_3:AL)(t0_4:List Bool)(Dy:AA)(E9:Int):Option (Int):=C9 1000000 t0_p t0_good t0_2 t0_3 t0_4 Dy E9
def kw:SC:= .seq (.seq (.ops [oM 15 8 3,oF 16 55 3 0,oF 17 26 16 0,oL 18 3 17 3,oB 19 .lss 3 (tK 15) (tK 18) 3 4]) (.cond (tK 19) .skip (.exit 0))) (.seq (.block 1 (.seq (.ops [oF 22 55 3 1,oL 23 53 22 53,oM 24 2 3,oF 25 55 3 0,oF 26 26 25 0,oL 27 3 26 3,oB 28 .mul 3 (tK 24) (tK 27) 3 3,oM 29 8 3,oB 30 .add 3 (tK 28) (tK 29) 3 3,oI 31 53 23 30,oL 32 4 31 4]) (.cond (tK 32) (.ops [oM 33 7 3,oM 34 8 3,oB 35 .shl 3 (iK 1) (tK 34) 3 3,oB 36 .add 3 (tK 33) (tK 35) 3 3,oA 7 36 3]) .skip))) (.ops [oM 20 8 3,oB 21 .add 3 (tK 20) (iK 1) 3 3,oA 8 21 3]))
def A1c:SC:= .loop kw
abbrev WF:List Nat:=[54,55,56,57,58,59,60,61,62,63,64,65,66,9,66]
def ky:SC:= .seq (.ops [oB 49 .lss 3 (tK 48) (tK 47) 3 0]) (.seq (.cond (tK 49) .skip (.exit 2)) (.seq (.block 3 (.seq (.ops [oI 50 27 46 48,oL 51 3 50 3,oA 11 51 3]) (.seq (.ops [oM 52 9 3,oB 53 .gtr 3 (tK 52) (iK 0) 3 4]) (.cond (tK 53) (.draws [(⟨[54,9,9],WF,[54]⟩,oM 54 9 3),(⟨[55,3,3],WF,[55]⟩,oL 55 55 3 55),(⟨[56,1,1],WF,[56]⟩,oM 56 1 27),(⟨[57,56,1],WF,[57]⟩,oX 57 (.slice 27 (tK 56) (some (iK 1)) none none) 27),(⟨[58,2,2],WF,[58]⟩,oM 58 2 3),(⟨[59,3,3],WF,[59]⟩,oF 59 55 3 0),(⟨[60,59,3],WF,[60]⟩,oF 60 26 59 0),(⟨[61,60,3],WF,[61]⟩,oL 61 3 60 3),(⟨[62,58,61,2,3],WF,[62]⟩,oB 62 .mul 3 (tK 58) (tK 61) 3 3),(⟨[63,11,11],WF,[63]⟩,oM 63 11 3),(⟨[64,62,63,62,11],WF,[64]⟩,oB 64 .add 3 (tK 62) (tK 63) 3 3),(⟨[65,55,57,64,3,1,64],WF,[65]⟩,oC 65 48 [(tK 55),(tK 57),(tK 64)] [55,27,3] 3),(⟨[66,54,65,9,65],WF,[66]⟩,oB 66 .and 3 (tK 54) (tK 65) 3 3),(⟨[9,66,66],WF,[9,66]⟩,oA 9 66 3)]) .skip)))) (.ops [oB 67 .add 3 (tK 48) (iK 1) 3 3,oM 48 67 3])))
def A1d:SC:= .loop ky
def k48:SC:= .seq (.ops [oX 3 (.box 55 (tK 0)) 0,oX 6 (.assign (iK 0)) 3]) (.seq (.seq (.ops [oM 12 1 27,oN 13 12 27,oB 14 .eql 3 (tK 13) (iK 0) 3 4]) (.cond (tK 14) (.seq (.ops [oX 7 (.assign (iK 0)) 3]) (.seq (.seq (.ops [oX 8 (.assign (iK 0)) 3]) (.block 0 A1c)) (.seq (.ops [oM 37 7 3,oA 6 37 3]) .ret))) .skip)) (.seq (.ops [oF 38 55 3 0,oF 39 26 38 0,oL 40 3 39 3,oB 41 .shl 3 (iK 1) (tK 40) 3 3,oB 42 .sub 3 (tK 41) (iK 1) 3 3,oA 9 42 3]) (.seq (.seq (.ops [oM 43 1 27,oX 44 (.indexAddr 27 (tK 43) (iK 0)) 0,oL 45 3 44 3,oC 46 56 [(tK 45)] [3] 27,oN 47 46 27,oX 48 (.move (iK 0)) 3]) (.block 2 A1d)) (.seq (.ops [oM 68 9 3,oA 6 68 3]) .ret))))
theorem A8y:Tryz.f48.body.map (BI lends)=some k48:=by kernel_rfl
theorem AMJ:BR Tryz.f48 3=true:=by kernel_rfl
theorem c48{a l:List D}{r:D×List D}(h:BU Y.env k48 (Du Ab l.length [ResultVar.tmp 6] r) (entry a l))(ha:a.length=3):Y.call 48 a l=some r:=
 AP (Y:=Y) rfl Tryz.func48 (ha▸AMJ) A8y h
def Cy(t0_p t0_good:Int)(t0_2 t0_3:AL)(t0_4:List Bool)(E9 yM O8:Int)(s:St):Prop:=s.v 2=D.int .i64 E9∧s.v 3=D.box [D.int .i64 t0_p,D.int .i64 t0_good,D.sl 27 (AJ Ac t0_2),D.sl 27 (AJ Ac t0_3),D.sl 4 (AJ D.bool t0_4)]∧s.v 7=D.int .i64 yM∧s.v 8=D.int .i64 O8
def Gy(t0_p t0_good:Int)(t0_2 t0_3:AL)(t0_4:List Bool)(E9 r:Int)(ex:Ex)(s:St):Prop:=ex= .exit 0∧s.v 7=D.int .i64 r
theorem TF(t0_p t0_good:Int)(t0_2 t0_3:AL)(t0_4:List Bool)(E9:Int){v:Int×Int}{s:St}{r:Int}(h:JX t0_p t0_good t0_2 t0_3 t0_4 E9 v=some r)(hM:Cy t0_p t0_good t0_2 t0_3 t0_4 E9 v.1 v.2 s):BU Y.env A1c (Gy t0_p t0_good t0_2 t0_3 t0_4 E9 r) s:=by
 unfold JX at h;refine Ap (c:=kw) (fun v=>Dj t0_p t0_good t0_2 t0_3 t0_4 E9 v.1 v.2) (fun v s=>Cy t0_p t0_good t0_2 t0_3 t0_4 E9 v.1 v.2 s) (Gy t0_p t0_good t0_2 t0_3 t0_4 E9) ?_ h hM;clear h hM s v r;intro v s o hM h;obtain⟨yM,O8⟩:=v;dsimp only at h hM;unfold Dj at h;unfold Cy at hM;obtain⟨m0,m1,m2,m3⟩:=hM;unfold kw;rcases iS h with⟨e2,h⟩|⟨e2,h⟩
 ·obtain⟨e3,h⟩:=DL h;rcases iS h with⟨e4,h⟩|⟨e4,h⟩
  ·obtain⟨e5,h⟩:=DL h;cases h;simp only [↓AB,AC,↓reduceIte,Nat.reduceEqDiff,Nat.reduceLT,m0,m1,m2,m3,e2,e3.1,e3.2,e4,e5,Cy,Dw]
  ·have e4f:(t0_4.getD ((IntKind.i64.wrap ((IntKind.i64.wrap (E9*t0_p))+O8)).toNat) default)=false:=Gf.mpr e4;cases h;simp only [↓AB,AC,↓reduceIte,Nat.reduceEqDiff,Nat.reduceLT,m0,m1,m2,m3,e2,e3.1,e3.2,e4f,Cy,Dw]
 ·cases h;simp only [↓AB,AC,↓reduceIte,Nat.reduceEqDiff,Nat.reduceLT,m1,m2,m3,e2,Cy,Gy,Ir]
def Cz(rec_:Int→Int→AL→AL→(List Bool)→AA→Int→Option Int)(t0_p t0_good:Int)(t0_2 t0_3:AL)(t0_4:List Bool)(Dy:AA)(E9:Int)(PK:AA)(MZ kv:Int)(s:St):Prop:=s.v 1=D.sl 3 (AJ (D.int .i64) Dy)∧s.v 2=D.int .i64 E9∧s.v 3=D.box [D.int .i64 t0_p,D.int .i64 t0_good,D.sl 27 (AJ Ac t0_2),D.sl 27 (AJ Ac t0_3),D.sl 4 (AJ D.bool t0_4)]∧s.v 9=D.int .i64 MZ∧s.v 46=D.own 3 (AJ (D.int .i64) PK)∧s.v 47=D.int .i64 (PK.length:Int)∧s.v 48=D.int .i64 kv
def Gz(rec_:Int→Int→AL→AL→(List Bool)→AA→Int→Option Int)(t0_p t0_good:Int)(t0_2 t0_3:AL)(t0_4:List Bool)(Dy:AA)(E9:Int)(PK:AA)(r:Int)(ex:Ex)(s:St):Prop:=ex= .exit 2∧s.v 9=D.int .i64 r
theorem TG(rec_:Int→Int→AL→AL→(List Bool)→AA→Int→Option Int)(t0_p t0_good:Int)(t0_2 t0_3:AL)(t0_4:List Bool)(Dy:AA)(E9:Int)(PK:AA)(rec_h: ∀(t0_p t0_good:Int) (t0_2 t0_3:AL) (t0_4:List Bool) (Dy:AA) (E9 r:Int),rec_ t0_p t0_good t0_2 t0_3 t0_4 Dy E9=some r→Y.call 48 [D.agg [D.int .i64 t0_p,D.int .i64 t0_good,D.sl 27 (AJ Ac t0_2),D.sl 27 (AJ Ac t0_3),D.sl 4 (AJ D.bool t0_4)],D.sl 3 (AJ (D.int .i64) Dy),D.int .i64 E9] []=some (D.int .i64 r,[])){v:Int×Int}{s:St}{r:Int}(h:JY rec_ t0_p t0_good t0_2 t0_3 t0_4 Dy E9 PK v=some r)(hM:Cz rec_ t0_p t0_good t0_2 t0_3 t0_4 Dy E9 PK v.1 v.2 s):BU Y.env A1d (Gz rec_ t0_p t0_good t0_2 t0_3 t0_4 Dy E9 PK r) s:=by
 unfold JY at h;refine Ap (c:=ky) (fun v=>Dk rec_ t0_p t0_good t0_2 t0_3 t0_4 Dy E9 PK v.1 v.2) (fun v s=>Cz rec_ t0_p t0_good t0_2 t0_3 t0_4 Dy E9 PK v.1 v.2 s) (Gz rec_ t0_p t0_good t0_2 t0_3 t0_4 Dy E9 PK) ?_ h hM;clear h hM s v r;intro v s o hM h;obtain⟨MZ,kv⟩:=v;dsimp only at h hM;unfold Dk at h;unfold Cz at hM;obtain⟨m0,m1,m2,m3,m4,m5,m6⟩:=hM;unfold ky;rcases iS h with⟨e5,h⟩|⟨e5,h⟩
 ·obtain⟨e6,h⟩:=DL h;rcases iS h with⟨e7,h⟩|⟨e7,h⟩
  ·obtain⟨e8,h⟩:=DL h;obtain⟨A1J,hl9,h⟩:=AQ h;try dsimp only at h
   have c9:=rec_h _ _ _ _ _ _ _ _ hl9;cases h;simp only [↓AB,AC,↓reduceIte,Nat.reduceEqDiff,Nat.reduceLT,Int.reduceLE,Int.reduceToNat,m0,m1,m2,m3,m4,m5,m6,e5,e6.1,e6.2,e7,e8,c9,Cz,Dw]
  ·cases h;simp only [↓AB,AC,↓reduceIte,Nat.reduceEqDiff,Nat.reduceLT,m0,m1,m2,m3,m4,m5,m6,e5,e6.1,e6.2,e7,Cz,Dw]
 ·cases h;simp only [↓AB,AC,↓reduceIte,Nat.reduceEqDiff,Nat.reduceLT,m3,m5,m6,e5,Cz,Gz,Ir]
theorem Rv(rec_:Int→Int→AL→AL→(List Bool)→AA→Int→Option Int)(t0_p t0_good:Int)(t0_2 t0_3:AL)(t0_4:List Bool)(Dy:AA)(E9:Int)(rec_h: ∀(t0_p t0_good:Int) (t0_2 t0_3:AL) (t0_4:List Bool) (Dy:AA) (E9 r:Int),rec_ t0_p t0_good t0_2 t0_3 t0_4 Dy E9=some r→Y.call 48 [D.agg [D.int .i64 t0_p,D.int .i64 t0_good,D.sl 27 (AJ Ac t0_2),D.sl 27 (AJ Ac t0_3),D.sl 4 (AJ D.bool t0_4)],D.sl 3 (AJ (D.int .i64) Dy),D.int .i64 E9] []=some (D.int .i64 r,[])){r:Int}(h:EO rec_ t0_p t0_good t0_2 t0_3 t0_4 Dy E9=some r):Y.call 48 [D.agg [D.int .i64 t0_p,D.int .i64 t0_good,D.sl 27 (AJ Ac t0_2),D.sl 27 (AJ Ac t0_3),D.sl 4 (AJ D.bool t0_4)],D.sl 3 (AJ (D.int .i64) Dy),D.int .i64 E9] []=some (D.int .i64 r,[]):=by
 refine c48 ?_ rfl;unfold k48;unfold EO at h;rcases iS h with⟨e1,h⟩|⟨e1,h⟩
 ·obtain⟨A8,hl3,h⟩:=AQ h;try dsimp only at h
  simp only [↓AB,AC,↓reduceIte,Nat.reduceEqDiff,Nat.reduceLT,decide_eq_true e1];refine AZ (TF t0_p t0_good t0_2 t0_3 t0_4 E9 hl3 ?_) ?_
  ·simp only [BC,Ce,↓reduceIte,Nat.reduceEqDiff,Nat.reduceLT,Cy]
  ·intro ex3 s3 hX3;unfold Gy at hX3;obtain⟨rfl,n3_0⟩:=hX3;cases h;simp only [↓AB,AC,↓reduceIte,Nat.reduceEqDiff,Nat.reduceLT,n3_0]
 ·obtain⟨e2,e3,h⟩:=Fy h;obtain⟨PK,hl4,h⟩:=AQ h;have c4:=OA (Dy.getD 0 default) hl4;obtain⟨Ad,hl6,h⟩:=AQ h;try dsimp only at h
  simp only [↓AB,AC,↓reduceIte,Nat.reduceEqDiff,Nat.reduceLT,e1,e2,e3,c4];refine AZ (TG rec_ t0_p t0_good t0_2 t0_3 t0_4 Dy E9 PK rec_h hl6 ?_) ?_
  ·simp only [BC,Ce,↓reduceIte,Nat.reduceEqDiff,Nat.reduceLT,Cz]
  ·intro ex6 s6 hX6;unfold Gz at hX6;obtain⟨rfl,n6_0⟩:=hX6;cases h;simp only [↓AB,AC,↓reduceIte,Nat.reduceEqDiff,Nat.reduceLT,n6_0]
theorem Rw(n:Nat): ∀(t0_p:Int) (t0_good:Int) (t0_2:AL) (t0_3:AL) (t0_4:List Bool) (Dy:AA) (E9:Int) (r:Int),C9 n t0_p t0_good t0_2 t0_3 t0_4 Dy E9=some r→Y.call 48 [D.agg [D.int .i64 t0_p,D.int .i64 t0_good,D.sl 27 (AJ Ac t0_2),D.sl 27 (AJ Ac t0_3),D.sl 4 (AJ D.bool t0_4)],D.sl 3 (AJ (D.int .i64) Dy),D.int .i64 E9] []=some (D.int .i64 r,[]):=by
 induction n with
 |zero=>intro t0_p t0_good t0_2 t0_3 t0_4 Dy E9 r h;exact absurd h (by rw [C9];exact fun e=>by cases e)
 |succ n ih=>intro t0_p t0_good t0_2 t0_3 t0_4 Dy E9 r h;rw [C9]at h;exact Rv (C9 n) t0_p t0_good t0_2 t0_3 t0_4 Dy E9 ih h
theorem OH(t0_p t0_good:Int)(t0_2 t0_3:AL)(t0_4:List Bool)(Dy:AA)(E9:Int){r:Int}(h:MV t0_p t0_good t0_2 t0_3 t0_4 Dy E9=some r):Y.call 48 [D.agg [D.int .i64 t0_p,D.int .i64 t0_good,D.sl 27 (AJ Ac t0_2),D.sl 27 (AJ Ac t0_3),D.sl 4 (AJ D.bool t0_4)],D.sl 3 (AJ (D.int .i64) Dy),D.int .i64 E9] []=some (D.int .i64 r,[]):=Rw 1000000 t0_p t0_good t0_2 t0_3 t0_4 Dy E9 r h
noncomputable def Eu(x_p x_good:Int)(x_2 x_3:AL)(x_4:List Bool)(sets:AA)(IL:Int):Option ((Int)⊕(Unit⊕Unit)):= if IL<(sets.length:Int)then ck (0≤IL∧IL.toNat<sets.length)<| ck (0≤IL)<| ck (IL.toNat≤sets.length)<| (NL ((sets.take IL.toNat).drop 0)).bind fun GY=> ck (0≤IntKind.i64.wrap (IL+1))<| ck ((IntKind.i64.wrap (IL+1)).toNat≤sets.length)<| ck (GY.length+((sets.take sets.length).drop ((IntKind.i64.wrap (IL+1)).toNat)).length<1099511627776)<| (MV x_p x_good x_2 x_3 x_4 (GY++((sets.take sets.length).drop ((IntKind.i64.wrap (IL+1)).toNat))) (0:Int)).bind fun U1=> if U1=(sets.getD IL.toNat default)then some (Sum.inl (IntKind.i64.wrap (IL+1))) else some (Sum.inr (Sum.inl ())) else some (Sum.inr (Sum.inr ()))
noncomputable def JZ(x_p x_good:Int)(x_2 x_3:AL)(x_4:List Bool)(sets:AA)(v:Int):Option (Unit⊕Unit):=Fv (fun v=>Eu x_p x_good x_2 x_3 x_4 sets v) v
noncomputable def II(x_p x_good:Int)(x_2 x_3:AL)(x_4:List Bool)(sets:AA):Option (Bool):=
 (JZ x_p x_good x_2 x_3 x_4 sets 0).bind fun A8=>
 match A8 with
 | .inl q1000_=>
  some false
 | .inr q1000_=>
  some true
abbrev dP:List Nat:=[15,16,17,18,19,20,21,22,23,18,22,18,1,7,23,23]
def kz:SC:= .seq (.ops [oB 11 .lss 3 (tK 10) (tK 9) 3 0]) (.seq (.cond (tK 11) .skip (.exit 0)) (.seq (.block 1 (.seq (.ops [oM 12 10 3,oI 13 27 8 10,oL 14 3 13 3,oA 5 12 3,oA 6 14 3]) (.seq (.draws [(⟨[15,1,1],dP,[15]⟩,oM 15 1 27),(⟨[16,5,5],dP,[16]⟩,oM 16 5 3),(⟨[17,15,16,1,5],dP,[17]⟩,oX 17 (.slice 27 (tK 15) none (some (tK 16)) none) 27),(⟨[18,17,1],dP,[18]⟩,oC 18 79 [(tK 17)] [27] 27),(⟨[19,1,1],dP,[19]⟩,oM 19 1 27),(⟨[20,5,5],dP,[20]⟩,oM 20 5 3),(⟨[21,20,5],dP,[21]⟩,oB 21 .add 3 (tK 20) (iK 1) 3 3),(⟨[22,19,21,1,21],dP,[22]⟩,oX 22 (.slice 27 (tK 19) (some (tK 21)) none none) 27),(⟨[23,18,22,18,1],dP,[23,18,22,18,1]⟩,oX 23 (.call ⟨(.builtin .append), #[(tK 18),(tK 22)], #[27,27]⟩) 27),(⟨[7,23,23],dP,[7,23,23]⟩,oA 7 23 27)]) (.seq (.ops [oL 24 55 2 55,oM 25 7 27,oC 26 48 [(tK 24),(tK 25),(iK 0)] [55,27,3] 3,oM 27 6 3,oB 28 .neq 3 (tK 26) (tK 27) 3 4]) (.cond (tK 28) (.seq (.ops [oX 4 BX 4]) .ret) .skip))))) (.ops [oB 29 .add 3 (tK 10) (iK 1) 3 3,oM 10 29 3])))
def A1e:SC:= .loop kz
def k49:SC:= .seq (.ops [oX 2 (.box 55 (tK 0)) 0,oX 4 BX 4]) (.seq (.seq (.ops [oM 8 1 27,oN 9 8 27,oX 10 (.move (iK 0)) 3]) (.block 0 A1e)) (.seq (.ops [oX 4 (.assign Gx) 4]) .ret))
theorem A8z:Tryz.f49.body.map (BI lends)=some k49:=by kernel_rfl
theorem AML:BR Tryz.f49 2=true:=by kernel_rfl
theorem c49{a l:List D}{r:D×List D}(h:BU Y.env k49 (Du Ab l.length [ResultVar.tmp 4] r) (entry a l))(ha:a.length=2):Y.call 49 a l=some r:=
 AP (Y:=Y) rfl Tryz.func49 (ha▸AML) A8z h
def D5(x_p x_good:Int)(x_2 x_3:AL)(x_4:List Bool)(sets:AA)(IL:Int)(s:St):Prop:=s.v 1=D.sl 3 (AJ (D.int .i64) sets)∧s.v 2=D.box [D.int .i64 x_p,D.int .i64 x_good,D.sl 27 (AJ Ac x_2),D.sl 27 (AJ Ac x_3),D.sl 4 (AJ D.bool x_4)]∧s.v 8=D.sl 3 (AJ (D.int .i64) sets)∧s.v 9=D.int .i64 (sets.length:Int)∧s.v 10=D.int .i64 IL
def Dl(x_p x_good:Int)(x_2 x_3:AL)(x_4:List Bool)(sets:AA)(r:Unit⊕Unit)(ex:Ex)(s:St):Prop:=match r with
 | .inl q=>ex= .ret∧s.v 4=D.bool false
 | .inr q=>ex= .exit 0
theorem TH(x_p x_good:Int)(x_2 x_3:AL)(x_4:List Bool)(sets:AA){v:Int}{s:St}{r:Unit⊕Unit}(h:JZ x_p x_good x_2 x_3 x_4 sets v=some r)(hM:D5 x_p x_good x_2 x_3 x_4 sets v s):BU Y.env A1e (Dl x_p x_good x_2 x_3 x_4 sets r) s:=by
 unfold JZ at h;refine Ap (c:=kz) (fun v=>Eu x_p x_good x_2 x_3 x_4 sets v) (fun v s=>D5 x_p x_good x_2 x_3 x_4 sets v s) (Dl x_p x_good x_2 x_3 x_4 sets) ?_ h hM;clear h hM s v r;intro IL s o hM h;unfold Eu at h;unfold D5 at hM;obtain⟨m0,m1,m2,m3,m4⟩:=hM;unfold kz;rcases iS h with⟨e1,h⟩|⟨e1,h⟩
 ·obtain⟨e2,e3,e4,h⟩:=Wm h;obtain⟨GY,hl5,h⟩:=AQ h;have c5:=OT ((sets.take IL.toNat).drop 0) hl5;obtain⟨e6,e7,e8,h⟩:=Wm h;obtain⟨U1,hl9,h⟩:=AQ h;have c9:=OH x_p x_good x_2 x_3 x_4 (GY++((sets.take sets.length).drop ((IntKind.i64.wrap (IL+1)).toNat))) (0:Int) hl9;rcases iS h with⟨e10,h⟩|⟨e10,h⟩
  ·cases h;simp only [↓AB,AC,↓reduceIte,Nat.reduceEqDiff,Nat.reduceLT,Nat.reduceLeDiff,m0,m1,m2,m3,m4,e1,e2.1,e2.2,e4,c5,e6,e7,e8,c9,decide_eq_true e10,D5,Dw]
  ·cases h;simp only [↓AB,AC,↓reduceIte,Nat.reduceEqDiff,Nat.reduceLT,Nat.reduceLeDiff,m0,m1,m2,m3,m4,e1,e2.1,e2.2,e4,c5,e6,e7,e8,c9,e10,D5,Dl,Tz]
 ·cases h;simp only [↓AB,AC,↓reduceIte,Nat.reduceLT,m3,m4,e1,D5,Dl,Ir]
theorem OI(x_p x_good:Int)(x_2 x_3:AL)(x_4:List Bool)(sets:AA){r:Bool}(h:II x_p x_good x_2 x_3 x_4 sets=some r):Y.call 49 [D.agg [D.int .i64 x_p,D.int .i64 x_good,D.sl 27 (AJ Ac x_2),D.sl 27 (AJ Ac x_3),D.sl 4 (AJ D.bool x_4)],D.sl 3 (AJ (D.int .i64) sets)] []=some (D.bool r,[]):=by
 refine c49 ?_ rfl;unfold k49;unfold II at h;obtain⟨A8,hl2,h⟩:=AQ h;try dsimp only at h
 simp only [↓AB,AC,↓reduceIte,Nat.reduceEqDiff,Nat.reduceLT];refine AZ (TH x_p x_good x_2 x_3 x_4 sets hl2 ?_) ?_
 ·simp only [BC,Ce,↓reduceIte,Nat.reduceEqDiff,Nat.reduceLT,D5]
 ·intro ex2 s2 hX2;rcases A8 with q1000_|q1000_
  ·unfold Dl at hX2;dsimp only at hX2 h;obtain⟨rfl,n2_0⟩:=hX2;cases h;simp only [↓AB,AC,↓reduceIte,n2_0]
  ·unfold Dl at hX2;dsimp only at hX2 h
   obtain rfl:=hX2
   cases h;simp only [↓AB,AC,↓reduceIte,Nat.reduceEqDiff,Nat.reduceLT]
noncomputable def JO(tL tD:Int)(tN tE:AL)(BA:Int×Int×AL×AL×(List Bool))(Fw:AL)(OB:AL)(Kb:Int)(MZ:AA)(p9:Int):Option ((AA×Int)⊕(AA)):= if p9<((Fw.getD Kb.toNat default).length:Int)then ck (0≤p9∧p9.toNat<(Fw.getD Kb.toNat default).length)<| ck (MZ.length+1<1099511627776)<| some (Sum.inl ((MZ++[IntKind.i64.wrap (((Fw.getD Kb.toNat default).getD p9.toNat default)+1)]),IntKind.i64.wrap (p9+1))) else some (Sum.inr MZ)
noncomputable def O1(tL tD:Int)(tN tE:AL)(BA:Int×Int×AL×AL×(List Bool))(Fw:AL)(OB:AL)(Kb:Int)(v:AA×Int):Option (AA):=Fv (fun v=>JO tL tD tN tE BA Fw OB Kb v.1 v.2) v
noncomputable def JP(tL tD:Int)(tN tE:AL)(BA:Int×Int×AL×AL×(List Bool))(Fw:AL)(OB:AL)(Kb:Int):Option ((AL×Int)⊕(AL)):= if Kb<(Fw.length:Int)then ck (0≤Kb∧Kb.toNat<Fw.length)<| (O1 tL tD tN tE BA Fw OB Kb ([],0)).bind fun A8=> (MV BA.1 BA.2.1 BA.2.2.1 BA.2.2.2.1 BA.2.2.2.2 A8 (0:Int)).bind fun Rt=> if Rt=0 then some (Sum.inl (OB,IntKind.i64.wrap (Kb+1))) else if 0<(A8.length:Int)then ck (0≤IntKind.i64.wrap ((A8.length:Int)-1)∧(IntKind.i64.wrap ((A8.length:Int)-1)).toNat<A8.length)<| if Rt<(A8.getD ((IntKind.i64.wrap ((A8.length:Int)-1)).toNat) default)then some (Sum.inl (OB,IntKind.i64.wrap (Kb+1))) else ck (A8.length+1<1099511627776)<| (II BA.1 BA.2.1 BA.2.2.1 BA.2.2.2.1 BA.2.2.2.2 (A8++[Rt])).bind fun tu=> if tu=true then ck (OB.length+1<1099511627776)<| some (Sum.inl ((OB++[(A8++[Rt])]),IntKind.i64.wrap (Kb+1))) else some (Sum.inl (OB,IntKind.i64.wrap (Kb+1))) else ck (A8.length+1<1099511627776)<| (II BA.1 BA.2.1 BA.2.2.1 BA.2.2.2.1 BA.2.2.2.2 (A8++[Rt])).bind fun tu=> if tu=true then ck (OB.length+1<1099511627776)<| some (Sum.inl ((OB++[(A8++[Rt])]),IntKind.i64.wrap (Kb+1))) else some (Sum.inl (OB,IntKind.i64.wrap (Kb+1))) else some (Sum.inr OB)
noncomputable def Lh(tL tD:Int)(tN tE:AL)(BA:Int×Int×AL×AL×(List Bool))(Fw:AL)(v:AL×Int):Option (AL):=Fv (fun v=>JP tL tD tN tE BA Fw v.1 v.2) v
noncomputable def O3(tL tD:Int)(tN tE:AL):Option ((Int×Int×AL×AL×AA×Bool)⊕((Int×Int×AL×AL×AA×Bool)⊕(Int×Int×AL×AL×AA×Bool))):=
 if tD=4 then
  if 6<tL then
   some (Sum.inl (0,0,[],[],[],false))
  else
   (NE tL tD tN tE).bind fun BA=>
   ck (¬tL<0)<|
   (IR (IntKind.i64.wrap ((IntKind.i64.wrap (1*2 ^ (min tL.toNat (IntKind.i64.bits))))-1)) (IntKind.i64.wrap (tD-1))).bind fun Fw=>
   (Lh tL tD tN tE BA Fw ([],0)).bind fun Ad=>
   (Nw tL tD tN tE Ad false).bind fun u6=>
   match u6 with
   | .inl q83_=>
    some (Sum.inr (Sum.inl (q83_.1,q83_.2.1,q83_.2.2.1,q83_.2.2.2.1,q83_.2.2.2.2.1,q83_.2.2.2.2.2)))
   | .inr (.inl q83_)=>
    some (Sum.inr (Sum.inr (q83_.1,q83_.2.1,q83_.2.2.1,q83_.2.2.2.1,q83_.2.2.2.2.1,q83_.2.2.2.2.2)))
   | .inr (.inr q83_)=>
    some (Sum.inl (q83_.1,q83_.2.1,q83_.2.2.1,q83_.2.2.2.1,q83_.2.2.2.2.1,q83_.2.2.2.2.2))
 else
  (NE tL tD tN tE).bind fun BA=>
  ck (¬tL<0)<|
  (IR (IntKind.i64.wrap ((IntKind.i64.wrap (1*2 ^ (min tL.toNat (IntKind.i64.bits))))-1)) (IntKind.i64.wrap (tD-1))).bind fun Fw=>
  (Lh tL tD tN tE BA Fw ([],0)).bind fun Ad=>
  (Nw tL tD tN tE Ad false).bind fun u6=>
  match u6 with
  | .inl q83_=>
   some (Sum.inr (Sum.inl (q83_.1,q83_.2.1,q83_.2.2.1,q83_.2.2.2.1,q83_.2.2.2.2.1,q83_.2.2.2.2.2)))
  | .inr (.inl q83_)=>
   some (Sum.inr (Sum.inr (q83_.1,q83_.2.1,q83_.2.2.1,q83_.2.2.2.1,q83_.2.2.2.2.1,q83_.2.2.2.2.2)))
  | .inr (.inr q83_)=>
   some (Sum.inl (q83_.1,q83_.2.1,q83_.2.2.1,q83_.2.2.2.1,q83_.2.2.2.2.1,q83_.2.2.2.2.2))
def l7:SC:= .seq (.ops [oB 40 .lss 3 (tK 39) (tK 38) 3 0]) (.seq (.cond (tK 40) .skip (.exit 2)) (.seq (.block 3 (.seq (.ops [oI 41 27 37 39,oL 42 3 41 3,oA 11 42 3]) (.ops [oM 43 9 27,oM 44 11 3,oB 45 .add 3 (tK 44) (iK 1) 3 3,oX 46 (.buildSlice 27 1 #[(0,(tK 45))]) 27,oX 47 (.call ⟨(.builtin .append), #[(tK 43),(tK 46)], #[27,27]⟩) 27,oA 9 47 27]))) (.ops [oB 48 .add 3 (tK 39) (iK 1) 3 3,oM 39 48 3])))
def A1f:SC:= .loop l7
def l8:SC:= .seq (.ops [oB 34 .lss 3 (tK 33) (tK 32) 3 0]) (.seq (.cond (tK 34) .skip (.exit 0)) (.seq (.block 1 (.seq (.ops [oI 35 22 31 33,oL 36 27 35 27,oA 8 36 27]) (.seq (.ops [oX 9 CG 27]) (.seq (.seq (.ops [oM 37 8 27,oN 38 37 27,oX 39 (.move (iK 0)) 3]) (.block 2 A1f)) (.seq (.ops [oL 49 55 5 55,oM 50 9 27,oC 51 48 [(tK 49),(tK 50),(iK 0)] [55,27,3] 3,oA 12 51 3]) (.seq (.seq (.ops [oM 52 12 3,oB 53 .eql 3 (tK 52) (iK 0) 3 4,oM 54 53 4,⟨some 55,.move (tK 9),27,(some (some 54,false))⟩,⟨some 56,.call ⟨(.builtin .len), #[(tK 55)], #[27]⟩,3,(some (some 54,false))⟩,⟨some 57,.binOp .gtr 3 (tK 56) (iK 0) 3,4,(some (some 54,false))⟩,⟨some 58,.move (tK 57),4,(some (some 54,false))⟩,⟨some 59,.move (tK 12),3,(some (some 58,true))⟩,⟨some 60,.move (tK 9),27,(some (some 58,true))⟩,⟨some 61,.move (tK 9),27,(some (some 58,true))⟩,⟨some 62,.call ⟨(.builtin .len), #[(tK 61)], #[27]⟩,3,(some (some 58,true))⟩,⟨some 63,.binOp .sub 3 (tK 62) (iK 1) 3,3,(some (some 58,true))⟩,⟨some 64,.indexAddr 27 (tK 60) (tK 63),0,(some (some 58,true))⟩,⟨some 65,.load 3 (tK 64),3,(some (some 58,true))⟩,⟨some 66,.binOp .lss 3 (tK 59) (tK 65) 3,4,(some (some 58,true))⟩,⟨some 67,.pick (tK 58) (tK 66) Mq,4,(some (some 54,false))⟩,
 oX 68 (.pick (tK 54) Gx (tK 67)) 4]) (.cond (tK 68) (.exit 1) .skip)) (.seq (.ops [oM 69 9 27,oM 70 12 3,oX 71 (.buildSlice 27 1 #[(0,(tK 70))]) 27,oX 72 (.call ⟨(.builtin .append), #[(tK 69),(tK 71)], #[27,27]⟩) 27,oA 9 72 27]) (.seq (.ops [oL 73 55 5 55,oM 74 9 27,oC 75 49 [(tK 73),(tK 74)] [55,27] 4]) (.cond (tK 75) (.ops [oM 76 6 22,oM 77 9 27,oX 78 (.buildSlice 22 1 #[(0,(tK 77))]) 22,oX 79 (.call ⟨(.builtin .append), #[(tK 76),(tK 78)], #[22,22]⟩) 22,oA 6 79 22]) .skip))))))))) (.ops [oB 80 .add 3 (tK 33) (iK 1) 3 3,oM 33 80 3])))
def A1g:SC:= .loop l8
abbrev dQ:List Nat:=[24,25,26,27,28,29,30,31,32,33]
def k29:SC:= .seq (.ops [oX 1 (.box 26 (tK 0)) 0,oX 2 (.alloc 26) 0,oX 3 CG 27,oX 4 BX 4]) (.seq (.seq (.ops [oF 13 26 1 1,oL 14 3 13 3,oB 15 .eql 3 (tK 14) (iK 4) 3 4,oM 16 15 4,⟨some 17,.fieldAddr 26 (tK 1) 0,0,(some (some 16,true))⟩,⟨some 18,.load 3 (tK 17),3,(some (some 16,true))⟩,⟨some 19,.binOp .gtr 3 (tK 18) (iK 6) 3,4,(some (some 16,true))⟩,oX 20 (.pick (tK 16) (tK 19) Mq) 4]) (.cond (tK 20) (.seq (.ops [oX 21 (.build 26 #[]) 26,oS 26 2 21,oX 3 CG 27,oX 4 BX 4]) .ret) .skip)) (.seq (.ops [oL 22 26 1 26,oC 23 46 [(tK 22)] [26] 55,oX 5 (.alloc 55) 0,oS 55 5 23]) (.seq (.ops [oX 6 CG 22]) (.seq (.seq (.draws [(⟨[24,1,1],dQ,[24]⟩,oF 24 26 1 0),(⟨[25,24,1],dQ,[25]⟩,oL 25 3 24 3),(⟨[26,25,1],dQ,[26]⟩,oB 26 .shl 3 (iK 1) (tK 25) 3 3),(⟨[27,26,26],dQ,[27]⟩,oB 27 .sub 3 (tK 26) (iK 1) 3 3),(⟨[28,1,1],dQ,[28]⟩,oF 28 26 1 1),(⟨[29,28,1],dQ,[29]⟩,oL 29 3 28 3),(⟨[30,29,1],dQ,[30]⟩,oB 30 .sub 3 (tK 29) (iK 1) 3 3),(⟨[31,27,30,27,30],dQ,[31]⟩,oC 31 47 [(tK 27),(tK 30)] [3,3] 22),(⟨[32,31,31],dQ,[32]⟩,oN 32 31 22),(⟨[33],dQ,[33]⟩,oX 33 (.move (iK 0)) 3)]) (.block 0 A1g)) (.seq (.ops [oL 81 26 1 26,oM 82 6 22,oC 83 36 [(tK 81),(tK 82),Mq] [26,22,4] 28,oE 84 83 0 26,
 oE 85 83 1 27,oE 86 83 2 4,oS 26 2 84,oA 3 85 27,oA 4 86 4]) .ret)))))
theorem A90:Tryz.f29.body.map (BI lends)=some k29:=by kernel_rfl
theorem AMO:BR Tryz.f29 1=true:=by kernel_rfl
theorem c29{a l:List D}{r:D×List D}(h:BU Y.env k29 (Du Ab l.length [ResultVar.cell 2 26,ResultVar.tmp 3,ResultVar.tmp 4] r) (entry a l))(ha:a.length=1):Y.call 29 a l=some r:=
 AP (Y:=Y) rfl Tryz.func29 (ha▸AMO) A90 h
def JQ(tL tD:Int)(tN tE:AL)(BA:Int×Int×AL×AL×(List Bool))(Fw:AL)(OB:AL)(Kb:Int)(MZ:AA)(p9:Int)(s:St):Prop:=s.v 1=D.box [D.int .i64 tL,D.int .i64 tD,D.sl 27 (AJ Ac tN),D.sl 27 (AJ Ac tE)]∧s.v 2=D.box [D.int .i64 0,D.int .i64 0,D.own 27 [],D.own 27 []]∧s.v 5=D.box [D.int .i64 BA.1,D.int .i64 BA.2.1,D.sl 27 (AJ Ac BA.2.2.1),D.sl 27 (AJ Ac BA.2.2.2.1),D.own 4 (AJ D.bool BA.2.2.2.2)]∧s.v 6=D.own 27 (AJ IX OB)∧s.v 9=D.own 3 (AJ (D.int .i64) MZ)∧s.v 31=D.own 27 (AJ Ac Fw)∧s.v 32=D.int .i64 (Fw.length:Int)∧s.v 33=D.int .i64 Kb∧s.v 37=D.sl 3 (AJ (D.int .i64) (Fw.getD Kb.toNat default))∧s.v 38=D.int .i64 ((Fw.getD Kb.toNat default).length:Int)∧s.v 39=D.int .i64 p9
def Na(tL tD:Int)(tN tE:AL)(BA:Int×Int×AL×AL×(List Bool))(Fw:AL)(OB:AL)(Kb:Int)(r:AA)(ex:Ex)(s:St):Prop:=ex= .exit 2∧s.v 1=D.box [D.int .i64 tL,D.int .i64 tD,D.sl 27 (AJ Ac tN),D.sl 27 (AJ Ac tE)]∧s.v 2=D.box [D.int .i64 0,D.int .i64 0,D.own 27 [],D.own 27 []]∧s.v 5=D.box [D.int .i64 BA.1,D.int .i64 BA.2.1,D.sl 27 (AJ Ac BA.2.2.1),D.sl 27 (AJ Ac BA.2.2.2.1),D.own 4 (AJ D.bool BA.2.2.2.2)]∧s.v 6=D.own 27 (AJ IX OB)∧s.v 9=D.own 3 (AJ (D.int .i64) r)∧s.v 31=D.own 27 (AJ Ac Fw)∧s.v 32=D.int .i64 (Fw.length:Int)∧s.v 33=D.int .i64 Kb
theorem aN(tL tD:Int)(tN tE:AL)(BA:Int×Int×AL×AL×(List Bool))(Fw:AL)(OB:AL)(Kb:Int){v:AA×Int}{s:St}{r:AA}(h:O1 tL tD tN tE BA Fw OB Kb v=some r)(hM:JQ tL tD tN tE BA Fw OB Kb v.1 v.2 s):BU Y.env A1f (Na tL tD tN tE BA Fw OB Kb r) s:=by
 unfold O1 at h;refine Ap (c:=l7) (fun v=>JO tL tD tN tE BA Fw OB Kb v.1 v.2) (fun v s=>JQ tL tD tN tE BA Fw OB Kb v.1 v.2 s) (Na tL tD tN tE BA Fw OB Kb) ?_ h hM;clear h hM s v r;intro v s o hM h;obtain⟨MZ,p9⟩:=v;dsimp only at h hM;unfold JO at h;unfold JQ at hM;obtain⟨m0,m1,m2,m3,m4,m5,m6,m7,m8,m9,m10⟩:=hM;unfold l7;rcases iS h with⟨e8,h⟩|⟨e8,h⟩
 ·obtain⟨e9,e10,h⟩:=Fy h;cases h;simp only [↓AB,AC,↓reduceIte,Nat.reduceEqDiff,Nat.reduceLT,Nat.reduceLeDiff,m0,m1,m2,m3,m4,m5,m6,m7,m8,m9,m10,e8,e9.1,e9.2,e10,JQ,Dw]
 ·cases h;simp only [↓AB,AC,↓reduceIte,Nat.reduceEqDiff,Nat.reduceLT,m0,m1,m2,m3,m4,m5,m6,m7,m9,m10,e8,JQ,Na,Ir]
def Co(tL tD:Int)(tN tE:AL)(BA:Int×Int×AL×AL×(List Bool))(Fw:AL)(OB:AL)(Kb:Int)(s:St):Prop:=s.v 1=D.box [D.int .i64 tL,D.int .i64 tD,D.sl 27 (AJ Ac tN),D.sl 27 (AJ Ac tE)]∧s.v 2=D.box [D.int .i64 0,D.int .i64 0,D.own 27 [],D.own 27 []]∧s.v 5=D.box [D.int .i64 BA.1,D.int .i64 BA.2.1,D.sl 27 (AJ Ac BA.2.2.1),D.sl 27 (AJ Ac BA.2.2.2.1),D.own 4 (AJ D.bool BA.2.2.2.2)]∧s.v 6=D.own 27 (AJ IX OB)∧s.v 31=D.own 27 (AJ Ac Fw)∧s.v 32=D.int .i64 (Fw.length:Int)∧s.v 33=D.int .i64 Kb
def Kz(tL tD:Int)(tN tE:AL)(BA:Int×Int×AL×AL×(List Bool))(Fw:AL)(r:AL)(ex:Ex)(s:St):Prop:=ex= .exit 0∧s.v 1=D.box [D.int .i64 tL,D.int .i64 tD,D.sl 27 (AJ Ac tN),D.sl 27 (AJ Ac tE)]∧s.v 2=D.box [D.int .i64 0,D.int .i64 0,D.own 27 [],D.own 27 []]∧s.v 6=D.own 27 (AJ IX r)
theorem TI(tL tD:Int)(tN tE:AL)(BA:Int×Int×AL×AL×(List Bool))(Fw:AL){v:AL×Int}{s:St}{r:AL}(h:Lh tL tD tN tE BA Fw v=some r)(hM:Co tL tD tN tE BA Fw v.1 v.2 s):BU Y.env A1g (Kz tL tD tN tE BA Fw r) s:=by
 unfold Lh at h;refine Ap (c:=l8) (fun v=>JP tL tD tN tE BA Fw v.1 v.2) (fun v s=>Co tL tD tN tE BA Fw v.1 v.2 s) (Kz tL tD tN tE BA Fw) ?_ h hM;clear h hM s v r;intro v s o hM h;obtain⟨OB,Kb⟩:=v;dsimp only at h hM;unfold JP at h;unfold Co at hM;obtain⟨m0,m1,m2,m3,m4,m5,m6⟩:=hM;unfold l8;rcases iS h with⟨e6,h⟩|⟨e6,h⟩
 ·obtain⟨e7,h⟩:=DL h;obtain⟨A8,hl9,h⟩:=AQ h;try dsimp only at h
  simp only [↓AB,AC,↓reduceIte,Nat.reduceEqDiff,Nat.reduceLT,m4,m5,m6,e6,e7.1,e7.2];refine AZ (aN tL tD tN tE BA Fw OB Kb hl9 ?_) ?_
  ·simp only [BC,↓reduceIte,Nat.reduceEqDiff,m0,m1,m2,m3,m4,m5,m6,JQ]<;>(repeat' apply A7)<;>first|rfl|exact⟨_,rfl⟩|exact⟨_,_,rfl⟩|simp [AJ,AU]
  ·intro ex9 s9 hX9;unfold Na at hX9;obtain⟨rfl,n9_0,n9_1,n9_2,n9_3,n9_4,n9_5,n9_6,n9_7⟩:=hX9;obtain⟨Rt,hl10,h⟩:=AQ h;have lL:=OH BA.1 BA.2.1 BA.2.2.1 BA.2.2.2.1 BA.2.2.2.2 A8 (0:Int) hl10;rcases iS h with⟨e11,h⟩|⟨e11,h⟩
   ·cases h;simp only [↓AB,AC,↓reduceIte,Nat.reduceEqDiff,Nat.reduceLT,n9_0,n9_1,n9_2,n9_3,n9_4,n9_5,n9_6,n9_7,lL,decide_eq_true e11,Co,Dw]
   ·rcases iS h with⟨e12,h⟩|⟨e12,h⟩
    ·obtain⟨e13,h⟩:=DL h;rcases iS h with⟨e14,h⟩|⟨e14,h⟩
     ·cases h;simp only [↓AB,AC,↓reduceIte,Nat.reduceEqDiff,Nat.reduceLT,n9_0,n9_1,n9_2,n9_3,n9_4,n9_5,n9_6,n9_7,lL,e11,e12,e13.1,e13.2,e14,Co,Dw]
     ·obtain⟨e15,h⟩:=DL h;obtain⟨tu,hl16,h⟩:=AQ h;have c16:=OI BA.1 BA.2.1 BA.2.2.1 BA.2.2.2.1 BA.2.2.2.2 (A8++[Rt]) hl16;rcases iS h with⟨e17,h⟩|⟨e17,h⟩
      ·obtain⟨e18,h⟩:=DL h;cases h;simp only [↓AB,AC,↓reduceIte,Nat.reduceEqDiff,Nat.reduceLT,Nat.reduceLeDiff,n9_0,n9_1,n9_2,n9_3,n9_4,n9_5,n9_6,n9_7,lL,e11,e12,e13.1,e13.2,e14,e15,c16,e17,e18,Co,Dw]
      ·have e17f:tu=false:=Gf.mpr e17;cases h;simp only [↓AB,AC,↓reduceIte,Nat.reduceEqDiff,Nat.reduceLT,Nat.reduceLeDiff,n9_0,n9_1,n9_2,n9_3,n9_4,n9_5,n9_6,n9_7,lL,e11,e12,e13.1,e13.2,e14,e15,c16,e17f,Co,Dw]
    ·obtain⟨e13,h⟩:=DL h;obtain⟨tu,hl14,h⟩:=AQ h;have bD:=OI BA.1 BA.2.1 BA.2.2.1 BA.2.2.2.1 BA.2.2.2.2 (A8++[Rt]) hl14;rcases iS h with⟨e15,h⟩|⟨e15,h⟩
     ·obtain⟨e16,h⟩:=DL h;cases h;simp only [↓AB,AC,↓reduceIte,Nat.reduceEqDiff,Nat.reduceLT,Nat.reduceLeDiff,n9_0,n9_1,n9_2,n9_3,n9_4,n9_5,n9_6,n9_7,lL,e11,e12,e13,bD,e15,e16,Co,Dw]
     ·have e15f:tu=false:=Gf.mpr e15;cases h;simp only [↓AB,AC,↓reduceIte,Nat.reduceEqDiff,Nat.reduceLT,Nat.reduceLeDiff,n9_0,n9_1,n9_2,n9_3,n9_4,n9_5,n9_6,n9_7,lL,e11,e12,e13,bD,e15f,Co,Dw]
 ·cases h;simp only [↓AB,AC,↓reduceIte,Nat.reduceEqDiff,Nat.reduceLT,m0,m1,m3,m5,m6,e6,Co,Kz,Ir]
theorem dR(tL tD:Int)(tN tE:AL){r:(Int×Int×AL×AL×AA×Bool)⊕((Int×Int×AL×AL×AA×Bool)⊕(Int×Int×AL×AL×AA×Bool))}(h:O3 tL tD tN tE=some r):Y.call 29 [D.agg [D.int .i64 tL,D.int .i64 tD,D.sl 27 (AJ Ac tN),D.sl 27 (AJ Ac tE)]] []=some (match (generalizing:=false) r with| .inl q=>(D.tup [D.agg [D.int .i64 q.1,D.int .i64 q.2.1,D.own 27 (AJ IX q.2.2.1),D.own 27 (AJ IX q.2.2.2.1)],D.own 3 (AJ (D.int .i64) q.2.2.2.2.1),D.bool q.2.2.2.2.2],[])| .inr (.inl q)=>(D.tup [D.agg [D.int .i64 q.1,D.int .i64 q.2.1,D.own 27 (AJ Ac q.2.2.1),D.sl 27 (AJ Ac q.2.2.2.1)],D.sl 3 (AJ (D.int .i64) q.2.2.2.2.1),D.bool q.2.2.2.2.2],[])| .inr (.inr q)=>(D.tup [D.agg [D.int .i64 q.1,D.int .i64 q.2.1,D.sl 27 (AJ Ac q.2.2.1),D.own 27 (AJ Ac q.2.2.2.1)],D.sl 3 (AJ (D.int .i64) q.2.2.2.2.1),D.bool q.2.2.2.2.2],[])):=by
 refine c29 ?_ rfl;unfold k29;unfold O3 at h;rcases iS h with⟨e1,h⟩|⟨e1,h⟩
 ·rcases iS h with⟨e2,h⟩|⟨e2,h⟩
  ·cases h;simp (maxDischargeDepth:=9) only [↓AB,AC,↓reduceIte,Nat.reduceEqDiff,Nat.reduceLT,Nat.reduceAdd,decide_eq_true e1,e2]<;>(repeat' apply A7)<;>first|rfl|exact⟨_,rfl⟩|exact⟨_,_,rfl⟩|simp [AJ,AU]
  ·obtain⟨BA,hl3,h⟩:=AQ h;have c3:=Rm tL tD tN tE hl3;obtain⟨e4,h⟩:=DL h;obtain⟨Fw,hl5,h⟩:=AQ h;have c5:=N9 (IntKind.i64.wrap ((IntKind.i64.wrap (1*2 ^ (min tL.toNat (IntKind.i64.bits))))-1)) (IntKind.i64.wrap (tD-1)) hl5;obtain⟨Ad,hl7,h⟩:=AQ h;try dsimp only at h
   simp (maxDischargeDepth:=9) only [↓AB,AC,↓reduceIte,Nat.reduceEqDiff,Nat.reduceLT,Nat.reduceAdd,decide_eq_true e1,e2,c3,e4,c5];refine AZ (TI tL tD tN tE BA Fw hl7 ?_) ?_
   ·simp (maxDischargeDepth:=9) only [BC,↓reduceIte,Nat.reduceEqDiff,Co]<;>(repeat' apply A7)<;>first|rfl|exact⟨_,rfl⟩|exact⟨_,_,rfl⟩|simp [AJ,AU]
   ·intro ex7 s7 hX7;unfold Kz at hX7;obtain⟨rfl,n7_0,n7_1,n7_2⟩:=hX7;obtain⟨u6,hl8,h⟩:=AQ h;try dsimp only at h
    have c8:=QG tL tD tN tE Ad false hl8;rcases u6 with(q83_|q83_|q83_)
    ·dsimp only at h c8;by_cases e9:(q83_.2.2.1.any fun x=>(!x.isEmpty))=true
     ·skip
      cases h;simp (maxDischargeDepth:=9) only [↓AB,AC,↓reduceIte,Nat.reduceEqDiff,Nat.reduceLT,Nat.reduceAdd,n7_0,n7_1,n7_2,c8,e9]
     ·skip
      have e9f:(q83_.2.2.1.any fun x=>(!x.isEmpty))=false:=Gf.mpr e9;by_cases e10:(!q83_.2.2.2.1.isEmpty)=true
      ·skip
       cases h;simp (maxDischargeDepth:=9) only [↓AB,AC,↓reduceIte,Nat.reduceEqDiff,Nat.reduceLT,Nat.reduceAdd,n7_0,n7_1,n7_2,c8,e9f,e10]
      ·skip
       have e10f:(!q83_.2.2.2.1.isEmpty)=false:=Gf.mpr e10;by_cases e11:(!q83_.2.2.2.2.1.isEmpty)=true
       ·skip
        cases h;simp (maxDischargeDepth:=9) only [↓AB,AC,↓reduceIte,Nat.reduceEqDiff,Nat.reduceLT,Nat.reduceAdd,n7_0,n7_1,n7_2,c8,e9f,e10f,e11]
       ·skip
        have e11f:(!q83_.2.2.2.2.1.isEmpty)=false:=Gf.mpr e11;cases h;simp (maxDischargeDepth:=9) only [↓AB,AC,↓reduceIte,Nat.reduceEqDiff,Nat.reduceLT,Nat.reduceAdd,n7_0,n7_1,n7_2,c8,e9f,e10f,e11f]
    ·dsimp only at h c8;by_cases e12:(!q83_.2.2.1.isEmpty)=true
     ·skip
      cases h;simp (maxDischargeDepth:=9) only [↓AB,AC,↓reduceIte,Nat.reduceEqDiff,Nat.reduceLT,Nat.reduceAdd,n7_0,n7_1,n7_2,c8,e12]
     ·skip
      have e12f:(!q83_.2.2.1.isEmpty)=false:=Gf.mpr e12;by_cases e13:(q83_.2.2.2.1.any fun x=>(!x.isEmpty))=true
      ·skip
       cases h;simp (maxDischargeDepth:=9) only [↓AB,AC,↓reduceIte,Nat.reduceEqDiff,Nat.reduceLT,Nat.reduceAdd,n7_0,n7_1,n7_2,c8,e12f,e13]
      ·skip
       have e13f:(q83_.2.2.2.1.any fun x=>(!x.isEmpty))=false:=Gf.mpr e13;by_cases e14:(!q83_.2.2.2.2.1.isEmpty)=true
       ·skip
        cases h;simp (maxDischargeDepth:=9) only [↓AB,AC,↓reduceIte,Nat.reduceEqDiff,Nat.reduceLT,Nat.reduceAdd,n7_0,n7_1,n7_2,c8,e12f,e13f,e14]
       ·skip
        have e14f:(!q83_.2.2.2.2.1.isEmpty)=false:=Gf.mpr e14;cases h;simp (maxDischargeDepth:=9) only [↓AB,AC,↓reduceIte,Nat.reduceEqDiff,Nat.reduceLT,Nat.reduceAdd,n7_0,n7_1,n7_2,c8,e12f,e13f,e14f]
    ·dsimp only at h c8;cases h;simp (maxDischargeDepth:=9) only [↓AB,AC,↓reduceIte,Nat.reduceEqDiff,Nat.reduceLT,Nat.reduceAdd,n7_0,n7_1,n7_2,c8]
 ·obtain⟨BA,hl2,h⟩:=AQ h;have c2:=Rm tL tD tN tE hl2;obtain⟨e3,h⟩:=DL h;obtain⟨Fw,hl4,h⟩:=AQ h;have c4:=N9 (IntKind.i64.wrap ((IntKind.i64.wrap (1*2 ^ (min tL.toNat (IntKind.i64.bits))))-1)) (IntKind.i64.wrap (tD-1)) hl4;obtain⟨Ad,hl6,h⟩:=AQ h;try dsimp only at h
  simp (maxDischargeDepth:=9) only [↓AB,AC,↓reduceIte,Nat.reduceEqDiff,Nat.reduceLT,Nat.reduceAdd,e1,c2,e3,c4];refine AZ (TI tL tD tN tE BA Fw hl6 ?_) ?_
  ·simp (maxDischargeDepth:=9) only [BC,↓reduceIte,Nat.reduceEqDiff,Co]<;>(repeat' apply A7)<;>first|rfl|exact⟨_,rfl⟩|exact⟨_,_,rfl⟩|simp [AJ,AU]
  ·intro ex6 s6 hX6;unfold Kz at hX6;obtain⟨rfl,n6_0,n6_1,n6_2⟩:=hX6;obtain⟨u6,hl7,h⟩:=AQ h;try dsimp only at h
   have c7:=QG tL tD tN tE Ad false hl7;rcases u6 with(q83_|q83_|q83_)
   ·dsimp only at h c7;by_cases e8:(q83_.2.2.1.any fun x=>(!x.isEmpty))=true
    ·skip
     cases h;simp (maxDischargeDepth:=9) only [↓AB,AC,↓reduceIte,Nat.reduceEqDiff,Nat.reduceLT,Nat.reduceAdd,n6_0,n6_1,n6_2,c7,e8]
    ·skip
     have e8f:(q83_.2.2.1.any fun x=>(!x.isEmpty))=false:=Gf.mpr e8;by_cases e9:(!q83_.2.2.2.1.isEmpty)=true
     ·skip
      cases h;simp (maxDischargeDepth:=9) only [↓AB,AC,↓reduceIte,Nat.reduceEqDiff,Nat.reduceLT,Nat.reduceAdd,n6_0,n6_1,n6_2,c7,e8f,e9]
     ·skip
      have e9f:(!q83_.2.2.2.1.isEmpty)=false:=Gf.mpr e9;by_cases e10:(!q83_.2.2.2.2.1.isEmpty)=true
      ·skip
       cases h;simp (maxDischargeDepth:=9) only [↓AB,AC,↓reduceIte,Nat.reduceEqDiff,Nat.reduceLT,Nat.reduceAdd,n6_0,n6_1,n6_2,c7,e8f,e9f,e10]
      ·skip
       have e10f:(!q83_.2.2.2.2.1.isEmpty)=false:=Gf.mpr e10;cases h;simp (maxDischargeDepth:=9) only [↓AB,AC,↓reduceIte,Nat.reduceEqDiff,Nat.reduceLT,Nat.reduceAdd,n6_0,n6_1,n6_2,c7,e8f,e9f,e10f]
   ·dsimp only at h c7;by_cases e11:(!q83_.2.2.1.isEmpty)=true
    ·skip
     cases h;simp (maxDischargeDepth:=9) only [↓AB,AC,↓reduceIte,Nat.reduceEqDiff,Nat.reduceLT,Nat.reduceAdd,n6_0,n6_1,n6_2,c7,e11]
    ·skip
     have e11f:(!q83_.2.2.1.isEmpty)=false:=Gf.mpr e11;by_cases e12:(q83_.2.2.2.1.any fun x=>(!x.isEmpty))=true
     ·skip
      cases h;simp (maxDischargeDepth:=9) only [↓AB,AC,↓reduceIte,Nat.reduceEqDiff,Nat.reduceLT,Nat.reduceAdd,n6_0,n6_1,n6_2,c7,e11f,e12]
     ·skip
      have e12f:(q83_.2.2.2.1.any fun x=>(!x.isEmpty))=false:=Gf.mpr e12;by_cases e13:(!q83_.2.2.2.2.1.isEmpty)=true
      ·skip
       cases h;simp (maxDischargeDepth:=9) only [↓AB,AC,↓reduceIte,Nat.reduceEqDiff,Nat.reduceLT,Nat.reduceAdd,n6_0,n6_1,n6_2,c7,e11f,e12f,e13]
      ·skip
       have e13f:(!q83_.2.2.2.2.1.isEmpty)=false:=Gf.mpr e13;cases h;simp (maxDischargeDepth:=9) only [↓AB,AC,↓reduceIte,Nat.reduceEqDiff,Nat.reduceLT,Nat.reduceAdd,n6_0,n6_1,n6_2,c7,e11f,e12f,e13f]
   ·dsimp only at h c7;cases h;simp (maxDischargeDepth:=9) only [↓AB,AC,↓reduceIte,Nat.reduceEqDiff,Nat.reduceLT,Nat.reduceAdd,n6_0,n6_1,n6_2,c7]
end Go.Proofs.YtjhjkfoabhplfaaGreat
