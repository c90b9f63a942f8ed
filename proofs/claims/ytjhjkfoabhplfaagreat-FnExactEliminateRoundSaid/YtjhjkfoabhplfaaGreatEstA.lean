/- The edge step: lifted. Conditions: none. -/
import Derived.Test.YtjhjkfoabhplfaaGreatL6
import Derived.Test.YtjhjkfoabhplfaaGreatEsN
namespace Go.Proofs.YtjhjkfoabhplfaaGreat
open Go Dv
set_option linter.unusedSimpArgs false
set_option linter.unusedVariables false
set_option maxRecDepth 100000
set_option maxHeartbeats 4000000
noncomputable def Cs(labels:AA)(c0__0 c0__1:Int)(c0__2 c0__3:AL):Option (Bool):= (IA c0__0 c0__1 c0__2 c0__3 labels).bind fun r6_=> some r6_
def k76:SC:= .seq (.ops [oX 3 BX 4]) (.seq (.ops [oL 4 26 1 26,oM 5 0 27,oC 6 77 [(tK 4),(tK 5)] [26,27] 4,oA 3 6 4]) .ret)
theorem A8d:Tryz.f76.body.map (BI lends)=some k76:=by kernel_rfl
theorem ALg:BR Tryz.f76 2=true:=by kernel_rfl
theorem c76{a l:List D}{r:D×List D}(h:BU Y.env k76 (Du Ab l.length [ResultVar.tmp 3] r) (entry a l))(ha:a.length=2):Y.call 76 a l=some r:=
 AP (Y:=Y) rfl Tryz.func76 (ha▸ALg) A8d h
theorem OX(labels:AA)(c0__0 c0__1:Int)(c0__2 c0__3:AL){r:Bool}(h:Cs labels c0__0 c0__1 c0__2 c0__3=some r):Y.call 76 [D.sl 3 (AJ (D.int .i64) labels),D.cptr [D.int .i64 c0__0,D.int .i64 c0__1,D.sl 27 (AJ Ac c0__2),D.sl 27 (AJ Ac c0__3)]] []=some (D.bool r,[]):=by
 refine c76 ?_ rfl;unfold k76;unfold Cs at h;obtain⟨r6_,hl1,h⟩:=AQ h;try dsimp only at h
 have c1:=OG c0__0 c0__1 c0__2 c0__3 labels hl1;cases h;simp only [↓AB,AC,↓reduceIte,Nat.reduceEqDiff,Nat.reduceLT,c1]
noncomputable def Ga(pL pD:Int)(pN pE lists:AL):Option (AA×Bool):= (JG lists (fun a0=>Cs a0 pL pD pN pE)).bind fun O7=> some (O7.1,O7.2)
def k44:SC:= .seq (.ops [oX 2 (.box 26 (tK 0)) 0,oX 4 CG 27,oX 5 BX 4]) (.seq (.ops [oM 6 1 22,oX 7 (.makeFunc (Fn.func 76) #[] #[(tK 2)]) 52,oC 8 75 [(tK 6),(tK 7)] [22,52] 49,oE 9 8 0 27,oE 10 8 1 4,oA 4 9 27,oA 5 10 4]) .ret)
theorem A8e:Tryz.f44.body.map (BI lends)=some k44:=by kernel_rfl
theorem ALi:BR Tryz.f44 2=true:=by kernel_rfl
theorem c44{a l:List D}{r:D×List D}(h:BU Y.env k44 (Du Ab l.length [ResultVar.tmp 4,ResultVar.tmp 5] r) (entry a l))(ha:a.length=2):Y.call 44 a l=some r:=
 AP (Y:=Y) rfl Tryz.func44 (ha▸ALi) A8e h
theorem PY(pL pD:Int)(pN pE lists:AL){r:AA×Bool}(h:Ga pL pD pN pE lists=some r):Y.call 44 [D.agg [D.int .i64 pL,D.int .i64 pD,D.sl 27 (AJ Ac pN),D.sl 27 (AJ Ac pE)],D.sl 27 (AJ Ac lists)] []=some (D.tup [D.own 3 (AJ (D.int .i64) r.1),D.bool r.2],[]):=by
 refine c44 ?_ rfl;unfold k44;unfold Ga at h;obtain⟨O7,hl1,h⟩:=AQ h;try dsimp only at h
 have c1:=PN lists (fun a0=>Cs a0 pL pD pN pE) 76 [D.cptr [D.int .i64 pL,D.int .i64 pD,D.sl 27 (AJ Ac pN),D.sl 27 (AJ Ac pE)]] (fun a0 _ hh=>OX a0 pL pD pN pE hh) A7A hl1;cases h;simp only [↓AB,AC,↓reduceIte,Nat.reduceEqDiff,Nat.reduceLT,c1]
noncomputable def KP(c_:AA)(c0__0 c0__1:Int)(c0__2 c0__3:AL)(c1_:AA):Option (Bool):= (Od c1_ c_).bind fun Ma=> (Ga c0__0 c0__1 c0__2 c0__3 Ma).bind fun oZ=> some oZ.2
abbrev dI:List Nat:=[8,9,10,11,12,7,12,13,14,5,13,12,6,14]
def k43:SC:= .seq (.ops [oX 4 BX 4]) (.seq (.draws [(⟨[8,1,1],dI,[8]⟩,oL 8 26 1 26),(⟨[9,2,2],dI,[9]⟩,oL 9 27 2 27),(⟨[10,0,0],dI,[10]⟩,oM 10 0 27),(⟨[11,9,10,2,0],dI,[11]⟩,oC 11 45 [(tK 9),(tK 10)] [27,27] 22),(⟨[12,8,11,1,11],dI,[12]⟩,oC 12 44 [(tK 8),(tK 11)] [26,22] 49),(⟨[7,12,12],dI,[7,12]⟩,oM 7 12 49),(⟨[13,7],dI,[13]⟩,oE 13 7 0 27),(⟨[14,7],dI,[14]⟩,oE 14 7 1 4),(⟨[5,13,12],dI,[5,13,12]⟩,oA 5 13 27),(⟨[6,14],dI,[6,14]⟩,oA 6 14 4)]) (.seq (.ops [oM 15 6 4,oA 4 15 4]) .ret))
theorem A8f:Tryz.f43.body.map (BI lends)=some k43:=by kernel_rfl
theorem ALk:BR Tryz.f43 3=true:=by kernel_rfl
theorem c43{a l:List D}{r:D×List D}(h:BU Y.env k43 (Du Ab l.length [ResultVar.tmp 4] r) (entry a l))(ha:a.length=3):Y.call 43 a l=some r:=
 AP (Y:=Y) rfl Tryz.func43 (ha▸ALk) A8f h
theorem WC(c_:AA)(c0__0 c0__1:Int)(c0__2 c0__3:AL)(c1_:AA){r:Bool}(h:KP c_ c0__0 c0__1 c0__2 c0__3 c1_=some r):Y.call 43 [D.sl 3 (AJ (D.int .i64) c_),D.cptr [D.int .i64 c0__0,D.int .i64 c0__1,D.sl 27 (AJ Ac c0__2),D.sl 27 (AJ Ac c0__3)],D.cptr [D.sl 3 (AJ (D.int .i64) c1_)]] []=some (D.bool r,[]):=by
 refine c43 ?_ rfl;unfold k43;unfold KP at h;obtain⟨Ma,hl1,h⟩:=AQ h;have c1:=TD c1_ c_ hl1;obtain⟨oZ,hl2,h⟩:=AQ h;try dsimp only at h
 have c2:=PY c0__0 c0__1 c0__2 c0__3 Ma hl2;cases h;simp only [↓AB,AC,↓reduceIte,Nat.reduceEqDiff,Nat.reduceLT,c1,c2]
noncomputable def GD(pL pD:Int)(pN pE full:AL)(set_:Int):Option ((AL×Int)⊕(AL)):= ck (¬pL<0)<| if set_<(IntKind.i64.wrap (1*2 ^ (min pL.toNat (IntKind.i64.bits))))then (Qs pL pD pN pE set_).bind fun Sv=> if Sv=0 then some (Sum.inl (full,IntKind.i64.wrap (set_+1))) else (Qs pL pD pN pE Sv).bind fun U1=> if U1=set_ then ck (full.length+1<1099511627776)<| some (Sum.inl ((full++[[set_,Sv]]),IntKind.i64.wrap (set_+1))) else some (Sum.inl (full,IntKind.i64.wrap (set_+1))) else some (Sum.inr full)
noncomputable def Ku(pL pD:Int)(pN pE:AL)(v:AL×Int):Option (AL):=Fv (fun v=>GD pL pD pN pE v.1 v.2) v
noncomputable def NA(pL pD:Int)(pN pE:AL):Option (Int×Int×AL×AL×AA×Bool):= (Ku pL pD pN pE ([],1)).bind fun A8=> (IQ A8).bind fun TE=> if(OQ (TE.1.length:Int) (1:Int) (8:Int))=true then (GZ (TE.1.length:Int) pD (fun a0=>KP a0 pL pD pN pE TE.1)).bind fun Rt=> some ((TE.1.length:Int),pD,Rt,TE.2,TE.1,true) else some (0,0,[],[],[],false)
def kP:SC:= .seq (.seq (.ops [oM 11 6 3,oF 12 26 1 0,oL 13 3 12 3,oB 14 .shl 3 (iK 1) (tK 13) 3 3,oB 15 .lss 3 (tK 11) (tK 14) 3 4]) (.cond (tK 15) .skip (.exit 0))) (.seq (.block 1 (.seq (.ops [oL 18 26 1 26,oM 19 6 3,oC 20 40 [(tK 18),(tK 19)] [26,3] 3,oA 7 20 3]) (.seq (.ops [oM 21 7 3,oB 22 .neq 3 (tK 21) (iK 0) 3 4,oM 23 22 4,⟨some 24,.load 26 (tK 1),26,(some (some 23,true))⟩,⟨some 25,.move (tK 7),3,(some (some 23,true))⟩,⟨some 26,.call ⟨(.value (.func 40)), #[(tK 24),(tK 25)], #[26,3]⟩,3,(some (some 23,true))⟩,⟨some 27,.move (tK 6),3,(some (some 23,true))⟩,⟨some 28,.binOp .eql 3 (tK 26) (tK 27) 3,4,(some (some 23,true))⟩,oX 29 (.pick (tK 23) (tK 28) Mq) 4]) (.cond (tK 29) (.ops [oM 30 5 22,oM 31 6 3,oM 32 7 3,oX 33 (.buildSlice 27 2 #[(0,(tK 31)),(1,(tK 32))]) 27,oX 34 (.buildSlice 22 1 #[(0,(tK 33))]) 22,oX 35 (.call ⟨(.builtin .append), #[(tK 30),(tK 34)], #[22,22]⟩) 22,oA 5 35 22]) .skip)))) (.ops [oM 16 6 3,oB 17 .add 3 (tK 16) (iK 1) 3 3,oA 6 17 3]))
def A1N:SC:= .loop kP
abbrev aH:List Nat:=[52,53,54,55,56,57,58,53,55,56,57,53,10,9,59,2,58,2,58,3,59,8,4]
def k25:SC:= .seq (.ops [oX 1 (.box 26 (tK 0)) 0,oX 2 (.alloc 26) 0,oX 3 CG 27,oX 4 BX 4]) (.seq (.ops [oX 5 CG 22]) (.seq (.seq (.ops [oX 6 (.assign (iK 1)) 3]) (.block 0 A1N)) (.seq (.ops [oM 37 5 22,oC 38 41 [(tK 37)] [22] 46,oM 36 38 46,oE 39 36 0 27,oE 40 36 1 22,oX 8 (.alloc 27) 0,oS 27 8 39,oA 9 40 22]) (.seq (.seq (.ops [oL 41 27 8 27,oN 42 41 27,oC 43 38 [(tK 42),(iK 1),(iK 8)] [3,3,3] 4,oX 44 (.unOp .not 4 (tK 43)) 4]) (.cond (tK 44) (.seq (.ops [oX 45 (.build 26 #[]) 26,oS 26 2 45,oX 3 CG 27,oX 4 BX 4]) .ret) .skip)) (.seq (.ops [oL 46 27 8 27,oN 47 46 27,oF 48 26 1 1,oL 49 3 48 3,oX 50 (.makeFunc (Fn.func 43) #[] #[(tK 1),(tK 8)]) 3000002,oC 51 42 [(tK 47),(tK 49),(tK 50)] [3,3,52] 22,oA 10 51 22]) (.seq (.draws [(⟨[52,8,8],aH,[52]⟩,oL 52 27 8 27),(⟨[53,52,8],aH,[53]⟩,oN 53 52 27),(⟨[54,1,1],aH,[54]⟩,oF 54 26 1 1),(⟨[55,54,1],aH,[55]⟩,oL 55 3 54 3),(⟨[56,10,10],aH,[56]⟩,oM 56 10 22),(⟨[57,9,9],aH,[57]⟩,oM 57 9 22),(⟨[58,53,55,56,57,53,1,10,9],aH,[58,53,55,56,57,53,10,9]⟩,oX 58 (.build 26 #[(0,(tK 53)),(1,(tK 55)),(2,(tK 56)),(3,(tK 57))]) 26),(⟨[59,8,8],aH,[59]⟩,oL 59 27 8 27),(⟨[2,58,2,58],aH,[2,58,2,58]⟩,oS 26 2 58),(⟨[3,59,8],aH,[3,59,8]⟩,oA 3 59 27),
 (⟨[4],aH,[4]⟩,oX 4 (.assign Gx) 4)]) .ret))))))
theorem A8g:Tryz.f25.body.map (BI lends)=some k25:=by kernel_rfl
theorem ALm:BR Tryz.f25 1=true:=by kernel_rfl
theorem c25{a l:List D}{r:D×List D}(h:BU Y.env k25 (Du Ab l.length [ResultVar.cell 2 26,ResultVar.tmp 3,ResultVar.tmp 4] r) (entry a l))(ha:a.length=1):Y.call 25 a l=some r:=
 AP (Y:=Y) rfl Tryz.func25 (ha▸ALm) A8g h
def Dp(pL pD:Int)(pN pE full:AL)(set_:Int)(s:St):Prop:=s.v 1=D.box [D.int .i64 pL,D.int .i64 pD,D.sl 27 (AJ Ac pN),D.sl 27 (AJ Ac pE)]∧s.v 2=D.box [D.int .i64 0,D.int .i64 0,D.own 27 [],D.own 27 []]∧s.v 5=D.own 27 (AJ IX full)∧s.v 6=D.int .i64 set_
def LD(pL pD:Int)(pN pE:AL)(r:AL)(ex:Ex)(s:St):Prop:=ex= .exit 0∧s.v 1=D.box [D.int .i64 pL,D.int .i64 pD,D.sl 27 (AJ Ac pN),D.sl 27 (AJ Ac pE)]∧s.v 2=D.box [D.int .i64 0,D.int .i64 0,D.own 27 [],D.own 27 []]∧s.v 5=D.own 27 (AJ IX r)
theorem XB(pL pD:Int)(pN pE:AL){v:AL×Int}{s:St}{r:AL}(h:Ku pL pD pN pE v=some r)(hM:Dp pL pD pN pE v.1 v.2 s):BU Y.env A1N (LD pL pD pN pE r) s:=by
 unfold Ku at h;refine Ap (c:=kP) (fun v=>GD pL pD pN pE v.1 v.2) (fun v s=>Dp pL pD pN pE v.1 v.2 s) (LD pL pD pN pE) ?_ h hM;clear h hM s v r;intro v s o hM h;obtain⟨full,set_⟩:=v;dsimp only at h hM;unfold GD at h;unfold Dp at hM;obtain⟨m0,m1,m2,m3⟩:=hM;unfold kP;obtain⟨e1,h⟩:=DL h;rcases iS h with⟨e2,h⟩|⟨e2,h⟩
 ·obtain⟨Sv,hl3,h⟩:=AQ h;have c3:=UH pL pD pN pE set_ hl3;rcases iS h with⟨e4,h⟩|⟨e4,h⟩
  ·cases h;simp only [↓AB,AC,↓reduceIte,Nat.reduceEqDiff,Nat.reduceLT,m0,m1,m2,m3,e1,e2,c3,decide_eq_true e4,Dp,Dw]
  ·obtain⟨U1,hl5,h⟩:=AQ h;have c5:=UH pL pD pN pE Sv hl5;rcases iS h with⟨e6,h⟩|⟨e6,h⟩
   ·obtain⟨e7,h⟩:=DL h;cases h;simp only [↓AB,AC,↓reduceIte,Nat.reduceEqDiff,Nat.reduceLT,Nat.reduceLeDiff,m0,m1,m2,m3,e1,e2,c3,e4,c5,decide_eq_true e6,e7,Dp,Dw]<;>(repeat' apply A7)<;>first|rfl|exact⟨_,rfl⟩|exact⟨_,_,rfl⟩|simp [AJ]
   ·cases h;simp only [↓AB,AC,↓reduceIte,Nat.reduceEqDiff,Nat.reduceLT,m0,m1,m2,m3,e1,e2,c3,e4,c5,e6,Dp,Dw]
 ·cases h;simp only [↓AB,AC,↓reduceIte,Nat.reduceEqDiff,Nat.reduceLT,m0,m1,m2,m3,e1,e2,Dp,LD,Ir]
theorem YD(pL pD:Int)(pN pE:AL){r:Int×Int×AL×AL×AA×Bool}(h:NA pL pD pN pE=some r):Y.call 25 [D.agg [D.int .i64 pL,D.int .i64 pD,D.sl 27 (AJ Ac pN),D.sl 27 (AJ Ac pE)]] []=some (D.tup [D.agg [D.int .i64 r.1,D.int .i64 r.2.1,D.own 27 (AJ IX r.2.2.1),D.own 27 (AJ IX r.2.2.2.1)],D.own 3 (AJ (D.int .i64) r.2.2.2.2.1),D.bool r.2.2.2.2.2],[]):=by
 refine c25 ?_ rfl;unfold k25;unfold NA at h;obtain⟨A8,hl3,h⟩:=AQ h;try dsimp only at h
 simp (maxDischargeDepth:=9) only [↓AB,AC,↓reduceIte,Nat.reduceEqDiff,Nat.reduceLT];refine AZ (XB pL pD pN pE hl3 ?_) ?_
 ·simp (maxDischargeDepth:=9) only [BC,↓reduceIte,Nat.reduceEqDiff,Dp]<;>(repeat' apply A7)<;>first|rfl|exact⟨_,rfl⟩|exact⟨_,_,rfl⟩|simp [AJ,AU]
 ·intro ex3 s3 hX3;unfold LD at hX3;obtain⟨rfl,n3_0,n3_1,n3_2⟩:=hX3;obtain⟨TE,hl4,h⟩:=AQ h;have c4:=Mx A8 hl4;have c5:=Ld (TE.1.length:Int) (1:Int) (8:Int);rcases iS h with⟨e6,h⟩|⟨e6,h⟩
  ·obtain⟨Rt,hl7,h⟩:=AQ h;try dsimp only at h
   have c7:=N7 (TE.1.length:Int) pD (fun a0=>KP a0 pL pD pN pE TE.1) 43 [D.cptr [D.int .i64 pL,D.int .i64 pD,D.sl 27 (AJ Ac pN),D.sl 27 (AJ Ac pE)],D.cptr [D.sl 3 (AJ (D.int .i64) TE.1)]] (fun a0 _ hh=>WC a0 pL pD pN pE TE.1 hh) A77 hl7;cases h;simp (maxDischargeDepth:=9) only [↓AB,AC,↓reduceIte,Nat.reduceEqDiff,Nat.reduceLT,Nat.reduceLeDiff,Nat.reduceAdd,Nat.reduceMod,Nat.reduceDiv,Nat.reducePow,Nat.reduceSub,n3_0,n3_1,n3_2,c4,c5,e6,c7]
  ·have e6f:(OQ (TE.1.length:Int) (1:Int) (8:Int))=false:=Gf.mpr e6;cases h;simp (maxDischargeDepth:=9) only [↓AB,AC,↓reduceIte,Nat.reduceEqDiff,Nat.reduceLT,Nat.reduceAdd,n3_1,n3_2,c4,c5,e6f]<;>(repeat' apply A7)<;>first|rfl|exact⟨_,rfl⟩|exact⟨_,_,rfl⟩|simp [AJ,AU]
noncomputable def Uq(pL pD:Int)(pN pE:AL):Option (Int×Int×AL×AL×AA×Bool):= ck (Ah pN)<| ck (Ah pE)<| if(LM pL pD pN pE)=true then (NA pL pD pN pE).bind fun Mr=> some (Mr.1,Mr.2.1,Mr.2.2.1,Mr.2.2.2.1,Mr.2.2.2.2.1,Mr.2.2.2.2.2) else some (0,0,[],[],[],false)
def k9:SC:= .seq (.ops [oX 1 (.box 26 (tK 0)) 0,oX 2 (.alloc 26) 0,oX 3 CG 27,oX 4 BX 4]) (.seq (.seq (.ops [oL 5 26 1 26,oC 6 24 [(tK 5)] [26] 4,oX 7 (.unOp .not 4 (tK 6)) 4]) (.cond (tK 7) (.seq (.ops [oX 8 (.build 26 #[]) 26,oS 26 2 8,oX 3 CG 27,oX 4 BX 4]) .ret) .skip)) (.seq (.ops [oL 9 26 1 26,oC 10 25 [(tK 9)] [26] 28,oE 11 10 0 26,oE 12 10 1 27,oE 13 10 2 4,oS 26 2 11,oA 3 12 27,oA 4 13 4]) .ret))
theorem AFF:Tryz.f9.body.map (BI lends)=some k9:=by kernel_rfl
theorem ok9:BR Tryz.f9 1=true:=by kernel_rfl
theorem c9{a l:List D}{r:D×List D}(h:BU Y.env k9 (Du Ab l.length [ResultVar.cell 2 26,ResultVar.tmp 3,ResultVar.tmp 4] r) (entry a l))(ha:a.length=1):Y.call 9 a l=some r:=
 AP (Y:=Y) rfl Tryz.func9 (ha▸ok9) AFF h
noncomputable def JL(pL pD:Int)(pN pE:AL)(set_ out b:Int)(LQ:AA)(all:Bool)(dJ:Int):Option ((Bool×Int)⊕(Bool)):= if dJ<(LQ.length:Int)then ck (0≤dJ∧dJ.toNat<LQ.length)<| if all=true then ck (Ah pE)<| some (Sum.inl ((RQ pE (LQ.getD dJ.toNat default) b),IntKind.i64.wrap (dJ+1))) else some (Sum.inl (false,IntKind.i64.wrap (dJ+1))) else some (Sum.inr all)
noncomputable def Ny(pL pD:Int)(pN pE:AL)(set_ out b:Int)(LQ:AA)(v:Bool×Int):Option (Bool):=Fv (fun v=>JL pL pD pN pE set_ out b LQ v.1 v.2) v
noncomputable def JM(pL pD:Int)(pN pE:AL)(set_ out b:Int):Option ((Int×Int)⊕(Int)):= if b<pL then (LW set_).bind fun LQ=> (Ny pL pD pN pE set_ out b LQ (true,0)).bind fun A8=> if A8=true then ck (¬b<0)<| some (Sum.inl (IntKind.i64.wrap (out+(IntKind.i64.wrap (1*2 ^ (min b.toNat (IntKind.i64.bits))))),IntKind.i64.wrap (b+1))) else some (Sum.inl (out,IntKind.i64.wrap (b+1))) else some (Sum.inr out)
noncomputable def Q7(pL pD:Int)(pN pE:AL)(set_:Int)(v:Int×Int):Option (Int):=Fv (fun v=>JM pL pD pN pE set_ v.1 v.2) v
noncomputable def Qv(pL pD:Int)(pN pE:AL)(set_:Int):Option (Int):= (Q7 pL pD pN pE set_ (0,0)).bind fun Ad=> some Ad
def kQ:SC:= .seq (.ops [oB 20 .lss 3 (tK 19) (tK 18) 3 0]) (.seq (.cond (tK 20) .skip (.exit 2)) (.seq (.block 3 (.seq (.ops [oI 21 27 17 19,oL 22 3 21 3,oA 9 22 3]) (.ops [oM 23 7 4,oM 24 23 4,⟨some 25,.load 26 (tK 2),26,(some (some 24,true))⟩,⟨some 26,.move (tK 9),3,(some (some 24,true))⟩,⟨some 27,.move (tK 6),3,(some (some 24,true))⟩,⟨some 28,.call ⟨(.value (.func 57)), #[(tK 25),(tK 26),(tK 27)], #[26,3,3]⟩,4,(some (some 24,true))⟩,oX 29 (.pick (tK 24) (tK 28) Mq) 4,oA 7 29 4]))) (.ops [oB 30 .add 3 (tK 19) (iK 1) 3 3,oM 19 30 3])))
def A1O:SC:= .loop kQ
def kR:SC:= .seq (.seq (.ops [oM 10 6 3,oF 11 26 2 0,oL 12 3 11 3,oB 13 .lss 3 (tK 10) (tK 12) 3 4]) (.cond (tK 13) .skip (.exit 0))) (.seq (.block 1 (.seq (.ops [oX 7 (.assign Gx) 4]) (.seq (.seq (.ops [oM 16 1 3,oC 17 56 [(tK 16)] [3] 27,oN 18 17 27,oX 19 (.move (iK 0)) 3]) (.block 2 A1O)) (.seq (.ops [oM 31 7 4]) (.cond (tK 31) (.ops [oM 32 5 3,oM 33 6 3,oB 34 .shl 3 (iK 1) (tK 33) 3 3,oB 35 .add 3 (tK 32) (tK 34) 3 3,oA 5 35 3]) .skip))))) (.ops [oM 14 6 3,oB 15 .add 3 (tK 14) (iK 1) 3 3,oA 6 15 3]))
def A1P:SC:= .loop kR
def k35:SC:= .seq (.ops [oX 2 (.box 26 (tK 0)) 0,oX 4 (.assign (iK 0)) 3]) (.seq (.ops [oX 5 (.assign (iK 0)) 3]) (.seq (.seq (.ops [oX 6 (.assign (iK 0)) 3]) (.block 0 A1P)) (.seq (.ops [oM 36 5 3,oA 4 36 3]) .ret)))
theorem A8h:Tryz.f35.body.map (BI lends)=some k35:=by kernel_rfl
theorem ALo:BR Tryz.f35 2=true:=by kernel_rfl
theorem xh{a l:List D}{r:D×List D}(h:BU Y.env k35 (Du Ab l.length [ResultVar.tmp 4] r) (entry a l))(ha:a.length=2):Y.call 35 a l=some r:=
 AP (Y:=Y) rfl Tryz.func35 (ha▸ALo) A8h h
def Gs(pL pD:Int)(pN pE:AL)(set_ out b:Int)(LQ:AA)(all:Bool)(dJ:Int)(s:St):Prop:=s.v 1=D.int .i64 set_∧s.v 2=D.box [D.int .i64 pL,D.int .i64 pD,D.sl 27 (AJ Ac pN),D.sl 27 (AJ Ac pE)]∧s.v 5=D.int .i64 out∧s.v 6=D.int .i64 b∧s.v 7=D.bool all∧s.v 17=D.own 3 (AJ (D.int .i64) LQ)∧s.v 18=D.int .i64 (LQ.length:Int)∧s.v 19=D.int .i64 dJ
def NW(pL pD:Int)(pN pE:AL)(set_ out b:Int)(LQ:AA)(r:Bool)(ex:Ex)(s:St):Prop:=ex= .exit 2∧s.v 1=D.int .i64 set_∧s.v 2=D.box [D.int .i64 pL,D.int .i64 pD,D.sl 27 (AJ Ac pN),D.sl 27 (AJ Ac pE)]∧s.v 5=D.int .i64 out∧s.v 6=D.int .i64 b∧s.v 7=D.bool r
theorem aI(pL pD:Int)(pN pE:AL)(set_ out b:Int)(LQ:AA){v:Bool×Int}{s:St}{r:Bool}(h:Ny pL pD pN pE set_ out b LQ v=some r)(hM:Gs pL pD pN pE set_ out b LQ v.1 v.2 s):BU Y.env A1O (NW pL pD pN pE set_ out b LQ r) s:=by
 unfold Ny at h;refine Ap (c:=kQ) (fun v=>JL pL pD pN pE set_ out b LQ v.1 v.2) (fun v s=>Gs pL pD pN pE set_ out b LQ v.1 v.2 s) (NW pL pD pN pE set_ out b LQ) ?_ h hM;clear h hM s v r;intro v s o hM h;obtain⟨all,dJ⟩:=v;dsimp only at h hM;unfold JL at h;unfold Gs at hM;obtain⟨m0,m1,m2,m3,m4,m5,m6,m7⟩:=hM;unfold kQ;rcases iS h with⟨e3,h⟩|⟨e3,h⟩
 ·obtain⟨e4,h⟩:=DL h;rcases iS h with⟨e5,h⟩|⟨e5,h⟩
  ·obtain⟨e6,h⟩:=DL h;have c7:=ol pL pD pN pE (LQ.getD dJ.toNat default) b e6;cases h;simp only [↓AB,AC,↓reduceIte,Nat.reduceEqDiff,Nat.reduceLT,m0,m1,m2,m3,m4,m5,m6,m7,e3,e4.1,e4.2,e5,c7,Gs,Dw]
  ·have e5f:all=false:=Gf.mpr e5;cases h;simp only [↓AB,AC,↓reduceIte,Nat.reduceEqDiff,Nat.reduceLT,m0,m1,m2,m3,m4,m5,m6,m7,e3,e4.1,e4.2,e5f,Gs,Dw]
 ·cases h;simp only [↓AB,AC,↓reduceIte,Nat.reduceEqDiff,Nat.reduceLT,m0,m1,m2,m3,m4,m6,m7,e3,Gs,NW,Ir]
def Gt(pL pD:Int)(pN pE:AL)(set_ out b:Int)(s:St):Prop:=s.v 1=D.int .i64 set_∧s.v 2=D.box [D.int .i64 pL,D.int .i64 pD,D.sl 27 (AJ Ac pN),D.sl 27 (AJ Ac pE)]∧s.v 5=D.int .i64 out∧s.v 6=D.int .i64 b
def NY(pL pD:Int)(pN pE:AL)(set_ r:Int)(ex:Ex)(s:St):Prop:=ex= .exit 0∧s.v 5=D.int .i64 r
theorem aJ(pL pD:Int)(pN pE:AL)(set_:Int){v:Int×Int}{s:St}{r:Int}(h:Q7 pL pD pN pE set_ v=some r)(hM:Gt pL pD pN pE set_ v.1 v.2 s):BU Y.env A1P (NY pL pD pN pE set_ r) s:=by
 unfold Q7 at h;refine Ap (c:=kR) (fun v=>JM pL pD pN pE set_ v.1 v.2) (fun v s=>Gt pL pD pN pE set_ v.1 v.2 s) (NY pL pD pN pE set_) ?_ h hM;clear h hM s v r;intro v s o hM h;obtain⟨out,b⟩:=v;dsimp only at h hM;unfold JM at h;unfold Gt at hM;obtain⟨m0,m1,m2,m3⟩:=hM;unfold kR;rcases iS h with⟨e1,h⟩|⟨e1,h⟩
 ·obtain⟨LQ,hl2,h⟩:=AQ h;have c2:=OA set_ hl2;obtain⟨A8,hl4,h⟩:=AQ h;try dsimp only at h
  simp only [↓AB,AC,↓reduceIte,Nat.reduceEqDiff,Nat.reduceLT,m0,m1,m3,e1,c2];refine AZ (aI pL pD pN pE set_ out b LQ hl4 ?_) ?_
  ·simp only [BC,↓reduceIte,Nat.reduceEqDiff,m0,m1,m2,m3,Gs]
  ·intro ex4 s4 hX4;unfold NW at hX4;obtain⟨rfl,n4_0,n4_1,n4_2,n4_3,n4_4⟩:=hX4;rcases iS h with⟨e5,h⟩|⟨e5,h⟩
   ·obtain⟨e6,h⟩:=DL h;cases h;simp only [↓AB,AC,↓reduceIte,Nat.reduceEqDiff,Nat.reduceLT,n4_0,n4_1,n4_2,n4_3,n4_4,e5,e6,Gt,Dw]
   ·have e5f:A8=false:=Gf.mpr e5;cases h;simp only [↓AB,AC,↓reduceIte,Nat.reduceEqDiff,Nat.reduceLT,n4_0,n4_1,n4_2,n4_3,n4_4,e5f,Gt,Dw]
 ·cases h;simp only [↓AB,AC,↓reduceIte,Nat.reduceEqDiff,Nat.reduceLT,m1,m2,m3,e1,Gt,NY,Ir]
theorem UJ(pL pD:Int)(pN pE:AL)(set_:Int){r:Int}(h:Qv pL pD pN pE set_=some r):Y.call 35 [D.agg [D.int .i64 pL,D.int .i64 pD,D.sl 27 (AJ Ac pN),D.sl 27 (AJ Ac pE)],D.int .i64 set_] []=some (D.int .i64 r,[]):=by
 refine xh ?_ rfl;unfold k35;unfold Qv at h;obtain⟨Ad,hl2,h⟩:=AQ h;try dsimp only at h
 simp only [↓AB,AC,↓reduceIte,Nat.reduceEqDiff,Nat.reduceLT];refine AZ (aJ pL pD pN pE set_ hl2 ?_) ?_
 ·simp only [BC,Ce,↓reduceIte,Nat.reduceEqDiff,Nat.reduceLT,Gt]
 ·intro ex2 s2 hX2;unfold NY at hX2;obtain⟨rfl,n2_0⟩:=hX2;cases h;simp only [↓AB,AC,↓reduceIte,Nat.reduceEqDiff,Nat.reduceLT,n2_0]
noncomputable def JN(pL pD:Int)(pN pE full:AL)(set_:Int):Option ((AL×Int)⊕(AL)):= ck (¬pL<0)<| if set_<(IntKind.i64.wrap (1*2 ^ (min pL.toNat (IntKind.i64.bits))))then (Qv pL pD pN pE set_).bind fun LQ=> if 0<LQ then (Qv pL pD pN pE LQ).bind fun BA=> if BA=set_ then ck (full.length+1<1099511627776)<| some (Sum.inl ((full++[[set_,LQ]]),IntKind.i64.wrap (set_+1))) else some (Sum.inl (full,IntKind.i64.wrap (set_+1))) else some (Sum.inl (full,IntKind.i64.wrap (set_+1))) else some (Sum.inr full)
noncomputable def Nz(pL pD:Int)(pN pE:AL)(v:AL×Int):Option (AL):=Fv (fun v=>JN pL pD pN pE v.1 v.2) v
noncomputable def Qw(pL pD:Int)(pN pE:AL):Option ((Int×Int×AL×AL×AA×Bool)⊕((Int×Int×AL×AL×AA×Bool)⊕(Int×Int×AL×AL×AA×Bool))):=
 (Nz pL pD pN pE ([],1)).bind fun A8=>
 (Nw pL pD pN pE A8 true).bind fun A8i=>
 match A8i with
 | .inl q35_=>
  some (Sum.inl (q35_.1,q35_.2.1,q35_.2.2.1,q35_.2.2.2.1,q35_.2.2.2.2.1,q35_.2.2.2.2.2))
 | .inr (.inl q35_)=>
  some (Sum.inr (Sum.inl (q35_.1,q35_.2.1,q35_.2.2.1,q35_.2.2.2.1,q35_.2.2.2.2.1,q35_.2.2.2.2.2)))
 | .inr (.inr q35_)=>
  some (Sum.inr (Sum.inr (q35_.1,q35_.2.1,q35_.2.2.1,q35_.2.2.2.1,q35_.2.2.2.2.1,q35_.2.2.2.2.2)))
def kS:SC:= .seq (.seq (.ops [oM 8 6 3,oF 9 26 1 0,oL 10 3 9 3,oB 11 .shl 3 (iK 1) (tK 10) 3 3,oB 12 .lss 3 (tK 8) (tK 11) 3 4]) (.cond (tK 12) .skip (.exit 0))) (.seq (.block 1 (.seq (.ops [oL 15 26 1 26,oM 16 6 3,oC 17 35 [(tK 15),(tK 16)] [26,3] 3,oA 7 17 3]) (.seq (.ops [oM 18 7 3,oB 19 .gtr 3 (tK 18) (iK 0) 3 4,oM 20 19 4,⟨some 21,.load 26 (tK 1),26,(some (some 20,true))⟩,⟨some 22,.move (tK 7),3,(some (some 20,true))⟩,⟨some 23,.call ⟨(.value (.func 35)), #[(tK 21),(tK 22)], #[26,3]⟩,3,(some (some 20,true))⟩,⟨some 24,.move (tK 6),3,(some (some 20,true))⟩,⟨some 25,.binOp .eql 3 (tK 23) (tK 24) 3,4,(some (some 20,true))⟩,oX 26 (.pick (tK 20) (tK 25) Mq) 4]) (.cond (tK 26) (.ops [oM 27 5 22,oM 28 6 3,oM 29 7 3,oX 30 (.buildSlice 27 2 #[(0,(tK 28)),(1,(tK 29))]) 27,oX 31 (.buildSlice 22 1 #[(0,(tK 30))]) 22,oX 32 (.call ⟨(.builtin .append), #[(tK 27),(tK 31)], #[22,22]⟩) 22,oA 5 32 22]) .skip)))) (.ops [oM 13 6 3,oB 14 .add 3 (tK 13) (iK 1) 3 3,oA 6 14 3]))
def A1Q:SC:= .loop kS
def k22:SC:= .seq (.ops [oX 1 (.box 26 (tK 0)) 0,oX 2 (.alloc 26) 0,oX 3 CG 27,oX 4 BX 4]) (.seq (.ops [oX 5 CG 22]) (.seq (.seq (.ops [oX 6 (.assign (iK 1)) 3]) (.block 0 A1Q)) (.seq (.ops [oL 33 26 1 26,oM 34 5 22,oC 35 36 [(tK 33),(tK 34),Gx] [26,22,4] 28,oE 36 35 0 26,oE 37 35 1 27,oE 38 35 2 4,oS 26 2 36,oA 3 37 27,oA 4 38 4]) .ret)))
theorem A8j:Tryz.f22.body.map (BI lends)=some k22:=by kernel_rfl
theorem ALq:BR Tryz.f22 1=true:=by kernel_rfl
theorem c22{a l:List D}{r:D×List D}(h:BU Y.env k22 (Du Ab l.length [ResultVar.cell 2 26,ResultVar.tmp 3,ResultVar.tmp 4] r) (entry a l))(ha:a.length=1):Y.call 22 a l=some r:=
 AP (Y:=Y) rfl Tryz.func22 (ha▸ALq) A8j h
def F3(pL pD:Int)(pN pE full:AL)(set_:Int)(s:St):Prop:=s.v 1=D.box [D.int .i64 pL,D.int .i64 pD,D.sl 27 (AJ Ac pN),D.sl 27 (AJ Ac pE)]∧s.v 2=D.box [D.int .i64 0,D.int .i64 0,D.own 27 [],D.own 27 []]∧s.v 5=D.own 27 (AJ IX full)∧s.v 6=D.int .i64 set_
def NZ(pL pD:Int)(pN pE:AL)(r:AL)(ex:Ex)(s:St):Prop:=ex= .exit 0∧s.v 1=D.box [D.int .i64 pL,D.int .i64 pD,D.sl 27 (AJ Ac pN),D.sl 27 (AJ Ac pE)]∧s.v 2=D.box [D.int .i64 0,D.int .i64 0,D.own 27 [],D.own 27 []]∧s.v 5=D.own 27 (AJ IX r)
theorem aK(pL pD:Int)(pN pE:AL){v:AL×Int}{s:St}{r:AL}(h:Nz pL pD pN pE v=some r)(hM:F3 pL pD pN pE v.1 v.2 s):BU Y.env A1Q (NZ pL pD pN pE r) s:=by
 unfold Nz at h;refine Ap (c:=kS) (fun v=>JN pL pD pN pE v.1 v.2) (fun v s=>F3 pL pD pN pE v.1 v.2 s) (NZ pL pD pN pE) ?_ h hM;clear h hM s v r;intro v s o hM h;obtain⟨full,set_⟩:=v;dsimp only at h hM;unfold JN at h;unfold F3 at hM;obtain⟨m0,m1,m2,m3⟩:=hM;unfold kS;obtain⟨e1,h⟩:=DL h;rcases iS h with⟨e2,h⟩|⟨e2,h⟩
 ·obtain⟨LQ,hl3,h⟩:=AQ h;have c3:=UJ pL pD pN pE set_ hl3;rcases iS h with⟨e4,h⟩|⟨e4,h⟩
  ·obtain⟨BA,hl5,h⟩:=AQ h;have c5:=UJ pL pD pN pE LQ hl5;rcases iS h with⟨e6,h⟩|⟨e6,h⟩
   ·obtain⟨e7,h⟩:=DL h;cases h;simp only [↓AB,AC,↓reduceIte,Nat.reduceEqDiff,Nat.reduceLT,Nat.reduceLeDiff,m0,m1,m2,m3,e1,e2,c3,e4,c5,decide_eq_true e6,e7,F3,Dw]<;>(repeat' apply A7)<;>first|rfl|exact⟨_,rfl⟩|exact⟨_,_,rfl⟩|simp [AJ]
   ·cases h;simp only [↓AB,AC,↓reduceIte,Nat.reduceEqDiff,Nat.reduceLT,m0,m1,m2,m3,e1,e2,c3,e4,c5,e6,F3,Dw]
  ·cases h;simp only [↓AB,AC,↓reduceIte,Nat.reduceEqDiff,Nat.reduceLT,m0,m1,m2,m3,e1,e2,c3,e4,F3,Dw]
 ·cases h;simp only [↓AB,AC,↓reduceIte,Nat.reduceEqDiff,Nat.reduceLT,m0,m1,m2,m3,e1,e2,F3,NZ,Ir]
theorem dK(pL pD:Int)(pN pE:AL){r:(Int×Int×AL×AL×AA×Bool)⊕((Int×Int×AL×AL×AA×Bool)⊕(Int×Int×AL×AL×AA×Bool))}(h:Qw pL pD pN pE=some r):Y.call 22 [D.agg [D.int .i64 pL,D.int .i64 pD,D.sl 27 (AJ Ac pN),D.sl 27 (AJ Ac pE)]] []=some (match (generalizing:=false) r with| .inl q=>(D.tup [D.agg [D.int .i64 q.1,D.int .i64 q.2.1,D.own 27 (AJ Ac q.2.2.1),D.sl 27 (AJ Ac q.2.2.2.1)],D.sl 3 (AJ (D.int .i64) q.2.2.2.2.1),D.bool q.2.2.2.2.2],[])| .inr (.inl q)=>(D.tup [D.agg [D.int .i64 q.1,D.int .i64 q.2.1,D.sl 27 (AJ Ac q.2.2.1),D.own 27 (AJ Ac q.2.2.2.1)],D.sl 3 (AJ (D.int .i64) q.2.2.2.2.1),D.bool q.2.2.2.2.2],[])| .inr (.inr q)=>(D.tup [D.agg [D.int .i64 q.1,D.int .i64 q.2.1,D.own 27 (AJ IX q.2.2.1),D.own 27 (AJ IX q.2.2.2.1)],D.own 3 (AJ (D.int .i64) q.2.2.2.2.1),D.bool q.2.2.2.2.2],[])):=by
 refine c22 ?_ rfl;unfold k22;unfold Qw at h;obtain⟨A8,hl3,h⟩:=AQ h;try dsimp only at h
 simp (maxDischargeDepth:=9) only [↓AB,AC,↓reduceIte,Nat.reduceEqDiff,Nat.reduceLT];refine AZ (aK pL pD pN pE hl3 ?_) ?_
 ·simp (maxDischargeDepth:=9) only [BC,↓reduceIte,Nat.reduceEqDiff,F3]<;>(repeat' apply A7)<;>first|rfl|exact⟨_,rfl⟩|exact⟨_,_,rfl⟩|simp [AJ,AU]
 ·intro ex3 s3 hX3;unfold NZ at hX3;obtain⟨rfl,n3_0,n3_1,n3_2⟩:=hX3;obtain⟨A8i,hl4,h⟩:=AQ h;try dsimp only at h
  have c4:=QG pL pD pN pE A8 true hl4;rcases A8i with(q35_|q35_|q35_)
  ·dsimp only at h c4;by_cases e5:(q35_.2.2.1.any fun x=>(!x.isEmpty))=true
   ·skip
    cases h;simp (maxDischargeDepth:=9) only [↓AB,AC,↓reduceIte,Nat.reduceEqDiff,Nat.reduceLT,Nat.reduceAdd,n3_0,n3_1,n3_2,c4,e5]
   ·skip
    have e5f:(q35_.2.2.1.any fun x=>(!x.isEmpty))=false:=Gf.mpr e5;by_cases e6:(!q35_.2.2.2.1.isEmpty)=true
    ·skip
     cases h;simp (maxDischargeDepth:=9) only [↓AB,AC,↓reduceIte,Nat.reduceEqDiff,Nat.reduceLT,Nat.reduceAdd,n3_0,n3_1,n3_2,c4,e5f,e6]
    ·skip
     have e6f:(!q35_.2.2.2.1.isEmpty)=false:=Gf.mpr e6;by_cases e7:(!q35_.2.2.2.2.1.isEmpty)=true
     ·skip
      cases h;simp (maxDischargeDepth:=9) only [↓AB,AC,↓reduceIte,Nat.reduceEqDiff,Nat.reduceLT,Nat.reduceAdd,n3_0,n3_1,n3_2,c4,e5f,e6f,e7]
     ·skip
      have e7f:(!q35_.2.2.2.2.1.isEmpty)=false:=Gf.mpr e7;cases h;simp (maxDischargeDepth:=9) only [↓AB,AC,↓reduceIte,Nat.reduceEqDiff,Nat.reduceLT,Nat.reduceAdd,n3_0,n3_1,n3_2,c4,e5f,e6f,e7f]
  ·dsimp only at h c4;by_cases e8:(!q35_.2.2.1.isEmpty)=true
   ·skip
    cases h;simp (maxDischargeDepth:=9) only [↓AB,AC,↓reduceIte,Nat.reduceEqDiff,Nat.reduceLT,Nat.reduceAdd,n3_0,n3_1,n3_2,c4,e8]
   ·skip
    have e8f:(!q35_.2.2.1.isEmpty)=false:=Gf.mpr e8;by_cases e9:(q35_.2.2.2.1.any fun x=>(!x.isEmpty))=true
    ·skip
     cases h;simp (maxDischargeDepth:=9) only [↓AB,AC,↓reduceIte,Nat.reduceEqDiff,Nat.reduceLT,Nat.reduceAdd,n3_0,n3_1,n3_2,c4,e8f,e9]
    ·skip
     have e9f:(q35_.2.2.2.1.any fun x=>(!x.isEmpty))=false:=Gf.mpr e9;by_cases e10:(!q35_.2.2.2.2.1.isEmpty)=true
     ·skip
      cases h;simp (maxDischargeDepth:=9) only [↓AB,AC,↓reduceIte,Nat.reduceEqDiff,Nat.reduceLT,Nat.reduceAdd,n3_0,n3_1,n3_2,c4,e8f,e9f,e10]
     ·skip
      have e10f:(!q35_.2.2.2.2.1.isEmpty)=false:=Gf.mpr e10;cases h;simp (maxDischargeDepth:=9) only [↓AB,AC,↓reduceIte,Nat.reduceEqDiff,Nat.reduceLT,Nat.reduceAdd,n3_0,n3_1,n3_2,c4,e8f,e9f,e10f]
  ·dsimp only at h c4;cases h;simp (maxDischargeDepth:=9) only [↓AB,AC,↓reduceIte,Nat.reduceEqDiff,Nat.reduceLT,Nat.reduceAdd,n3_0,n3_1,n3_2,c4]
noncomputable def PP(pL pD:Int)(pN pE:AL):Option (Int×Int×AL×AL×AA×Bool):=
 ck (Ah pN)<|
 ck (Ah pE)<|
 if(LM pL pD pN pE)=true then
  (Qw pL pD pN pE).bind fun Mr=>
  match Mr with
  | .inl q10_=>
   some (q10_.1,q10_.2.1,q10_.2.2.1,q10_.2.2.2.1,q10_.2.2.2.2.1,q10_.2.2.2.2.2)
  | .inr (.inl q10_)=>
   some (q10_.1,q10_.2.1,q10_.2.2.1,q10_.2.2.2.1,q10_.2.2.2.2.1,q10_.2.2.2.2.2)
  | .inr (.inr q10_)=>
   some (q10_.1,q10_.2.1,q10_.2.2.1,q10_.2.2.2.1,q10_.2.2.2.2.1,q10_.2.2.2.2.2)
 else
  some (0,0,[],[],[],false)
def k7:SC:= .seq (.ops [oX 1 (.box 26 (tK 0)) 0,oX 2 (.alloc 26) 0,oX 3 CG 27,oX 4 BX 4]) (.seq (.seq (.ops [oL 5 26 1 26,oC 6 21 [(tK 5)] [26] 4,oX 7 (.unOp .not 4 (tK 6)) 4]) (.cond (tK 7) (.seq (.ops [oX 8 (.build 26 #[]) 26,⟨none,(.store 26 (tK 2) (tK 8)),900011,none⟩,oX 3 CG 1000027,oX 4 BX 4]) .ret) .skip)) (.seq (.ops [oL 9 26 1 26,oC 10 22 [(tK 9)] [26] 28,oE 11 10 0 26,oE 12 10 1 27,oE 13 10 2 4,⟨none,(.store 26 (tK 2) (tK 11)),900011,none⟩,oA 3 12 900003,oA 4 13 4]) .ret))
theorem AFG:Tryz.f7.body.map (BI lends)=some k7:=by kernel_rfl
theorem ok7:BR Tryz.f7 1=true:=by kernel_rfl
theorem c7{a l:List D}{r:D×List D}(h:BU Y.env k7 (Du Ab l.length [ResultVar.cell 2 26,ResultVar.tmp 3,ResultVar.tmp 4] r) (entry a l))(ha:a.length=1):Y.call 7 a l=some r:=
 AP (Y:=Y) rfl Tryz.func7 (ha▸ok7) AFG h
theorem YE(pL pD:Int)(pN pE:AL){r:Int×Int×AL×AL×AA×Bool}(h:PP pL pD pN pE=some r):Y.call 7 [D.agg [D.int .i64 pL,D.int .i64 pD,D.sl 27 (AJ Ac pN),D.sl 27 (AJ Ac pE)]] []=some (D.tup [D.agg [D.int .i64 r.1,D.int .i64 r.2.1,D.sl 27 (AJ Ac r.2.2.1),D.sl 27 (AJ Ac r.2.2.2.1)],D.sl 3 (AJ (D.int .i64) r.2.2.2.2.1),D.bool r.2.2.2.2.2],[]):=by
 refine c7 ?_ rfl;unfold k7;unfold PP at h;obtain⟨e1,e2,h⟩:=Fy h;have c3:=oU pL pD pN pE e1 e2;rcases iS h with⟨e4,h⟩|⟨e4,h⟩
 ·obtain⟨Mr,hl5,h⟩:=AQ h;try dsimp only at h
  have c5:=dK pL pD pN pE hl5;rcases Mr with(q10_|q10_|q10_)
  ·dsimp only at h c5;cases h;simp only [↓AB,AC,↓reduceIte,Nat.reduceEqDiff,Nat.reduceLT,Nat.reduceAdd,c3,e4,c5]<;>(repeat' apply A7)<;>first|rfl|exact⟨_,rfl⟩|exact⟨_,_,rfl⟩|simp [AJ,AU]
  ·dsimp only at h c5;cases h;simp only [↓AB,AC,↓reduceIte,Nat.reduceEqDiff,Nat.reduceLT,Nat.reduceAdd,c3,e4,c5]<;>(repeat' apply A7)<;>first|rfl|exact⟨_,rfl⟩|exact⟨_,_,rfl⟩|simp [AJ,AU]
  ·dsimp only at h c5;cases h;simp only [↓AB,AC,↓reduceIte,Nat.reduceEqDiff,Nat.reduceLT,Nat.reduceAdd,c3,e4,c5]<;>(repeat' apply A7)<;>first|rfl|exact⟨_,rfl⟩|exact⟨_,_,rfl⟩|simp [AJ,AU]
 ·have e4f:(LM pL pD pN pE)=false:=Gf.mpr e4;cases h;simp only [↓AB,AC,↓reduceIte,Nat.reduceEqDiff,Nat.reduceLT,Nat.reduceAdd,Nat.reduceSub,c3,e4f]<;>(repeat' apply A7)<;>first|rfl|exact⟨_,rfl⟩|exact⟨_,_,rfl⟩|simp [AJ,AU]
end Go.Proofs.YtjhjkfoabhplfaaGreat
