/- The edge step: lifted. Conditions: none. -/
import Derived.Test.YtjhjkfoabhplfaaGreatL6
import Derived.Test.YtjhjkfoabhplfaaGreatEsA
namespace Go.Proofs.YtjhjkfoabhplfaaGreat
open Go Dv
set_option linter.unusedSimpArgs false
set_option linter.unusedVariables false
set_option maxRecDepth 100000
set_option maxHeartbeats 4000000
noncomputable def Jm(pL pD:Int)(pN pE:List (List Int))(labels:List Int):Option (Bool):= ck (Ai pN)<| ck (labels.length<1099511627776)<| ck (QF pN=true)<| some (pN.contains (DI labels))
def k77:SC:= .seq (.ops [oX 2 (.box 26 (tK 0)) 0,oX 4 (.assign (.const (.bool false))) 4]) (.seq (.ops [oF 5 26 2 2,oL 6 22 5 22,oM 7 1 27,oC 8 108 [(tK 6),(tK 7)] [22,27] 4,oA 4 8 4]) .ret)
theorem A4B:Tryz.f77.body.map (BO lends)=some k77:=by kernel_rfl
theorem AK4:Bi Tryz.f77 2=true:=by kernel_rfl
theorem c77{a l:List D}{r:D×List D}(h:Bf Y.env k77 (EG AV l.length [ResultVar.tmp 4] r) (entry a l))(ha:a.length=2):Y.call 77 a l=some r:=
 AL (Y:=Y) rfl Tryz.func77 (ha▸AK4) A4B h
theorem Pd(pL pD:Int)(pN pE:List (List Int))(labels:List Int){r:Bool}(h:Jm pL pD pN pE labels=some r):Y.call 77 [D.agg [D.int .i64 pL,D.int .i64 pD,D.sl 27 (AB (fun x=>D.sl 3 (AB (D.int .i64) x)) pN),D.sl 27 (AB (fun x=>D.sl 3 (AB (D.int .i64) x)) pE)],D.sl 3 (AB (D.int .i64) labels)] []=some (D.bool r,[]):=by
 refine c77 ?_ rfl;unfold k77;unfold Jm at h;obtain⟨e1,h⟩:=Av h;obtain⟨e2,h⟩:=Av h;obtain⟨e3,h⟩:=Av h;have c4:=Jt pN labels e1 e2 e3;cases h;simp (maxDischargeDepth:=9) only [↓AC,A7,BM,AA,AJ,↓reduceIte,Nat.reduceEqDiff,Nat.reduceLT,Nat.reduceAdd,c4]
noncomputable def Ci(labels:List Int)(c0__0 c0__1:Int)(c0__2 c0__3:List (List Int)):Option (Bool):= (Jm c0__0 c0__1 c0__2 c0__3 labels).bind fun Cv=> some Cv
def k76:SC:= .seq (.ops [oX 3 (.assign (.const (.bool false))) 4]) (.seq (.ops [oL 4 26 1 26,oM 5 0 27,oC 6 77 [(tK 4),(tK 5)] [26,27] 4,oA 3 6 4]) .ret)
theorem A4C:Tryz.f76.body.map (BO lends)=some k76:=by kernel_rfl
theorem AK6:Bi Tryz.f76 2=true:=by kernel_rfl
theorem c76{a l:List D}{r:D×List D}(h:Bf Y.env k76 (EG AV l.length [ResultVar.tmp 3] r) (entry a l))(ha:a.length=2):Y.call 76 a l=some r:=
 AL (Y:=Y) rfl Tryz.func76 (ha▸AK6) A4C h
theorem LM(labels:List Int)(c0__0 c0__1:Int)(c0__2 c0__3:List (List Int)){r:Bool}(h:Ci labels c0__0 c0__1 c0__2 c0__3=some r):Y.call 76 [D.sl 3 (AB (D.int .i64) labels),D.cptr [D.int .i64 c0__0,D.int .i64 c0__1,D.sl 27 (AB (fun x=>D.sl 3 (AB (D.int .i64) x)) c0__2),D.sl 27 (AB (fun x=>D.sl 3 (AB (D.int .i64) x)) c0__3)]] []=some (D.bool r,[]):=by
 refine c76 ?_ rfl;unfold k76;unfold Ci at h;obtain⟨Cv,hl1,h⟩:=AU h;try dsimp only at h
 have c1:=Pd c0__0 c0__1 c0__2 c0__3 labels hl1;cases h;simp (maxDischargeDepth:=9) only [↓AC,A7,BM,AA,AJ,↓reduceIte,Nat.reduceEqDiff,Nat.reduceLT,Nat.reduceAdd,c1]
noncomputable def FC(pL pD:Int)(pN pE lists:List (List Int)):Option ((List Int)×Bool):= (J4 lists (fun a0=>Ci a0 pL pD pN pE)).bind fun Cv=> some (Cv.1,Cv.2)
def k44:SC:= .seq (.ops [oX 2 (.box 26 (tK 0)) 0,oX 4 (.assign (.const (.slice none 0 0))) 27,oX 5 (.assign (.const (.bool false))) 4]) (.seq (.ops [oM 6 1 22,oX 7 (.makeFunc (Fn.func 76) #[] #[(tK 2)]) 52,oC 8 75 [(tK 6),(tK 7)] [22,52] 49,oE 9 8 0 27,oE 10 8 1 4,oA 4 9 27,oA 5 10 4]) .ret)
theorem A4D:Tryz.f44.body.map (BO lends)=some k44:=by kernel_rfl
theorem AK8:Bi Tryz.f44 2=true:=by kernel_rfl
theorem nS{a l:List D}{r:D×List D}(h:Bf Y.env k44 (EG AV l.length [ResultVar.tmp 4,ResultVar.tmp 5] r) (entry a l))(ha:a.length=2):Y.call 44 a l=some r:=
 AL (Y:=Y) rfl Tryz.func44 (ha▸AK8) A4D h
theorem MF(pL pD:Int)(pN pE lists:List (List Int)){r:(List Int)×Bool}(h:FC pL pD pN pE lists=some r):Y.call 44 [D.agg [D.int .i64 pL,D.int .i64 pD,D.sl 27 (AB (fun x=>D.sl 3 (AB (D.int .i64) x)) pN),D.sl 27 (AB (fun x=>D.sl 3 (AB (D.int .i64) x)) pE)],D.sl 27 (AB (fun x=>D.sl 3 (AB (D.int .i64) x)) lists)] []=some (D.tup [D.own 3 (AB (D.int .i64) r.1),D.bool r.2],[]):=by
 refine nS ?_ rfl;unfold k44;unfold FC at h;obtain⟨Cv,hl1,h⟩:=AU h;try dsimp only at h
 have c1:=QI lists (fun a0=>Ci a0 pL pD pN pE) 76 [D.cptr [D.int .i64 pL,D.int .i64 pD,D.sl 27 (AB (fun x=>D.sl 3 (AB (D.int .i64) x)) pN),D.sl 27 (AB (fun x=>D.sl 3 (AB (D.int .i64) x)) pE)]] (fun a0 _ hh=>LM a0 pL pD pN pE hh) A2q hl1;cases h;simp (maxDischargeDepth:=9) only [↓AC,A7,AO,BM,AA,AJ,↓reduceIte,Nat.reduceEqDiff,Nat.reduceLT,Nat.reduceAdd,c1]
noncomputable def IZ(c_:List Int)(c0__0 c0__1:Int)(c0__2 c0__3:List (List Int))(c1_:List Int):Option (Bool):= (Nf c1_ c_).bind fun Cv=> (FC c0__0 c0__1 c0__2 c0__3 Cv).bind fun Au=> some Au.2
def k43:SC:= .seq (.ops [oX 4 (.assign (.const (.bool false))) 4]) (.seq (.draws [(⟨[8,1,1],[8,9,10,11,12,7,12,13,14,5,13,12,6,14],[8]⟩,oL 8 26 1 26),(⟨[9,2,2],[8,9,10,11,12,7,12,13,14,5,13,12,6,14],[9]⟩,oL 9 27 2 27),(⟨[10,0,0],[8,9,10,11,12,7,12,13,14,5,13,12,6,14],[10]⟩,oM 10 0 27),(⟨[11,9,10,2,0],[8,9,10,11,12,7,12,13,14,5,13,12,6,14],[11]⟩,oC 11 45 [(tK 9),(tK 10)] [27,27] 22),(⟨[12,8,11,1,11],[8,9,10,11,12,7,12,13,14,5,13,12,6,14],[12]⟩,oC 12 44 [(tK 8),(tK 11)] [26,22] 49),(⟨[7,12,12],[8,9,10,11,12,7,12,13,14,5,13,12,6,14],[7,12]⟩,oM 7 12 49),(⟨[13,7],[8,9,10,11,12,7,12,13,14,5,13,12,6,14],[13]⟩,oE 13 7 0 27),(⟨[14,7],[8,9,10,11,12,7,12,13,14,5,13,12,6,14],[14]⟩,oE 14 7 1 4),(⟨[5,13,12],[8,9,10,11,12,7,12,13,14,5,13,12,6,14],[5,13,12]⟩,oA 5 13 27),(⟨[6,14],[8,9,10,11,12,7,12,13,14,5,13,12,6,14],[6,14]⟩,oA 6 14 4)]) (.seq (.ops [oM 15 6 4,oA 4 15 4]) .ret))
theorem A4E:Tryz.f43.body.map (BO lends)=some k43:=by kernel_rfl
theorem AKA:Bi Tryz.f43 3=true:=by kernel_rfl
theorem ut{a l:List D}{r:D×List D}(h:Bf Y.env k43 (EG AV l.length [ResultVar.tmp 4] r) (entry a l))(ha:a.length=3):Y.call 43 a l=some r:=
 AL (Y:=Y) rfl Tryz.func43 (ha▸AKA) A4E h
theorem Rj(c_:List Int)(c0__0 c0__1:Int)(c0__2 c0__3:List (List Int))(c1_:List Int){r:Bool}(h:IZ c_ c0__0 c0__1 c0__2 c0__3 c1_=some r):Y.call 43 [D.sl 3 (AB (D.int .i64) c_),D.cptr [D.int .i64 c0__0,D.int .i64 c0__1,D.sl 27 (AB (fun x=>D.sl 3 (AB (D.int .i64) x)) c0__2),D.sl 27 (AB (fun x=>D.sl 3 (AB (D.int .i64) x)) c0__3)],D.cptr [D.sl 3 (AB (D.int .i64) c1_)]] []=some (D.bool r,[]):=by
 refine ut ?_ rfl;unfold k43;unfold IZ at h;obtain⟨Cv,hl1,h⟩:=AU h;try dsimp only at h
 have c1:=Vt c1_ c_ hl1;obtain⟨Au,hl2,h⟩:=AU h;try dsimp only at h
 have c2:=MF c0__0 c0__1 c0__2 c0__3 Cv hl2;cases h;simp (maxDischargeDepth:=9) only [↓AC,A7,AO,BM,AA,AJ,↓reduceIte,Nat.reduceEqDiff,Nat.reduceLT,Nat.reduceAdd,Nat.reduceBEq,c1,c2]
noncomputable def Ez(pL pD:Int)(pN pE full:List (List Int))(set_:Int):Option (((List (List Int))×Int)⊕((List (List Int)))):= ck (¬pL<0)<| if set_<(IntKind.i64.wrap (1*2 ^ (min pL.toNat (IntKind.i64.bits))))then (Nb pL pD pN pE set_).bind fun D6=> if D6=0 then some (Sum.inl (full,IntKind.i64.wrap (set_+1))) else (Nb pL pD pN pE D6).bind fun Lv=> if Lv=set_ then ck (full.length+1<1099511627776)<| some (Sum.inl ((full++[[set_,D6]]),IntKind.i64.wrap (set_+1))) else some (Sum.inl (full,IntKind.i64.wrap (set_+1))) else some (Sum.inr full)
noncomputable def J5(pL pD:Int)(pN pE:List (List Int))(v:(List (List Int))×Int):Option ((List (List Int))):=Gb (fun v=>Ez pL pD pN pE v.1 v.2) v
noncomputable def OC(pL pD:Int)(pN pE:List (List Int)):Option (Int×Int×(List (List Int))×(List (List Int))×(List Int)×Bool):= (J5 pL pD pN pE ([],1)).bind fun D6=> (Kl D6).bind fun DF=> if(Ms (DF.1.length:Int) (1:Int) (8:Int))=true then (JL (DF.1.length:Int) pD (fun a0=>IZ a0 pL pD pN pE DF.1)).bind fun Za=> some ((DF.1.length:Int),pD,Za,DF.2,DF.1,true) else some (0,0,[],[],[],false)
def Zy:SC:= .seq (.seq (.ops [oM 11 6 3,oF 12 26 1 0,oL 13 3 12 3,oB 14 .shl 3 (iK 1) (tK 13) 3 3,oB 15 .lss 3 (tK 11) (tK 14) 3 4]) (.cond (tK 15) .skip (.exit 0))) (.seq (.block 1 (.seq (.ops [oL 18 26 1 26,oM 19 6 3,oC 20 40 [(tK 18),(tK 19)] [26,3] 3,oA 7 20 3]) (.seq (.ops [oM 21 7 3,oB 22 .neq 3 (tK 21) (iK 0) 3 4,oM 23 22 4,⟨some 24,.load 26 (tK 1),26,(some (some 23,true))⟩,⟨some 25,.move (tK 7),3,(some (some 23,true))⟩,⟨some 26,.call ⟨(.value (.func 40)), #[(tK 24),(tK 25)], #[26,3]⟩,3,(some (some 23,true))⟩,⟨some 27,.move (tK 6),3,(some (some 23,true))⟩,⟨some 28,.binOp .eql 3 (tK 26) (tK 27) 3,4,(some (some 23,true))⟩,oX 29 (.pick (tK 23) (tK 28) (.const (.bool false))) 4]) (.cond (tK 29) (.ops [oM 30 5 22,oM 31 6 3,oM 32 7 3,oX 33 (.buildSlice 27 2 #[(0,(tK 31)),(1,(tK 32))]) 27,oX 34 (.buildSlice 22 1 #[(0,(tK 33))]) 22,oX 35 (.call ⟨(.builtin .append), #[(tK 30),(tK 34)], #[22,22]⟩) 22,oA 5 35 22]) .skip)))) (.ops [oM 16 6 3,oB 17 .add 3 (tK 16) (iK 1) 3 3,oA 6 17 3]))
def uu:SC:= .loop Zy
def k25:SC:= .seq (.ops [oX 1 (.box 26 (tK 0)) 0,oX 2 (.alloc 26) 0,oX 3 (.assign (.const (.slice none 0 0))) 27,oX 4 (.assign (.const (.bool false))) 4]) (.seq (.ops [oX 5 (.assign (.const (.slice none 0 0))) 22]) (.seq (.seq (.ops [oX 6 (.assign (iK 1)) 3]) (.block 0 uu)) (.seq (.ops [oM 37 5 22,oC 38 41 [(tK 37)] [22] 46,oM 36 38 46,oE 39 36 0 27,oE 40 36 1 22,oX 8 (.alloc 27) 0,oS 27 8 39,oA 9 40 22]) (.seq (.seq (.ops [oL 41 27 8 27,oN 42 41 27,oC 43 38 [(tK 42),(iK 1),(iK 8)] [3,3,3] 4,oX 44 (.unOp .not 4 (tK 43)) 4]) (.cond (tK 44) (.seq (.ops [oX 45 (.build 26 #[]) 26,oS 26 2 45,oX 3 (.assign (.const (.slice none 0 0))) 27,oX 4 (.assign (.const (.bool false))) 4]) .ret) .skip)) (.seq (.ops [oL 46 27 8 27,oN 47 46 27,oF 48 26 1 1,oL 49 3 48 3,oX 50 (.makeFunc (Fn.func 43) #[] #[(tK 1),(tK 8)]) 3000002,oC 51 42 [(tK 47),(tK 49),(tK 50)] [3,3,52] 22,oA 10 51 22]) (.seq (.draws [(⟨[52,8,8],[52,53,54,55,56,57,58,53,55,56,57,53,10,9,59,2,58,2,58,3,59,8,4],[52]⟩,oL 52 27 8 27),(⟨[53,52,8],[52,53,54,55,56,57,58,53,55,56,57,53,10,9,59,2,58,2,58,3,59,8,4],[53]⟩,oN 53 52 27),(⟨[54,1,1],[52,53,54,55,56,57,58,53,55,56,57,53,10,9,59,2,58,2,58,3,59,8,4],[54]⟩,oF 54 26 1 1),
 (⟨[55,54,1],[52,53,54,55,56,57,58,53,55,56,57,53,10,9,59,2,58,2,58,3,59,8,4],[55]⟩,oL 55 3 54 3),(⟨[56,10,10],[52,53,54,55,56,57,58,53,55,56,57,53,10,9,59,2,58,2,58,3,59,8,4],[56]⟩,oM 56 10 22),(⟨[57,9,9],[52,53,54,55,56,57,58,53,55,56,57,53,10,9,59,2,58,2,58,3,59,8,4],[57]⟩,oM 57 9 22),(⟨[58,53,55,56,57,53,1,10,9],[52,53,54,55,56,57,58,53,55,56,57,53,10,9,59,2,58,2,58,3,59,8,4],[58,53,55,56,57,53,10,9]⟩,oX 58 (.build 26 #[(0,(tK 53)),(1,(tK 55)),(2,(tK 56)),(3,(tK 57))]) 26),(⟨[59,8,8],[52,53,54,55,56,57,58,53,55,56,57,53,10,9,59,2,58,2,58,3,59,8,4],[59]⟩,oL 59 27 8 27),(⟨[2,58,2,58],[52,53,54,55,56,57,58,53,55,56,57,53,10,9,59,2,58,2,58,3,59,8,4],[2,58,2,58]⟩,oS 26 2 58),(⟨[3,59,8],[52,53,54,55,56,57,58,53,55,56,57,53,10,9,59,2,58,2,58,3,59,8,4],[3,59,8]⟩,oA 3 59 27),(⟨[4],[52,53,54,55,56,57,58,53,55,56,57,53,10,9,59,2,58,2,58,3,59,8,4],[4]⟩,oX 4 (.assign (.const (.bool true))) 4)]) .ret))))))
theorem A4F:Tryz.f25.body.map (BO lends)=some k25:=by kernel_rfl
theorem AKC:Bi Tryz.f25 1=true:=by kernel_rfl
theorem nT{a l:List D}{r:D×List D}(h:Bf Y.env k25 (EG AV l.length [ResultVar.cell 2 26,ResultVar.tmp 3,ResultVar.tmp 4] r) (entry a l))(ha:a.length=1):Y.call 25 a l=some r:=
 AL (Y:=Y) rfl Tryz.func25 (ha▸AKC) A4F h
def DT(pL pD:Int)(pN pE full:List (List Int))(set_:Int)(s:St):Prop:=s.v 1=D.box [D.int .i64 pL,D.int .i64 pD,D.sl 27 (AB (fun x=>D.sl 3 (AB (D.int .i64) x)) pN),D.sl 27 (AB (fun x=>D.sl 3 (AB (D.int .i64) x)) pE)]∧s.v 2=D.box [D.int .i64 0,D.int .i64 0,D.own 27 [],D.own 27 []]∧s.v 5=D.own 27 (AB (fun x=>D.own 3 (AB (D.int .i64) x)) full)∧s.v 6=D.int .i64 set_
def JD(pL pD:Int)(pN pE:List (List Int))(r:(List (List Int)))(ex:Ex)(s:St):Prop:=ex= .exit 0∧s.v 1=D.box [D.int .i64 pL,D.int .i64 pD,D.sl 27 (AB (fun x=>D.sl 3 (AB (D.int .i64) x)) pN),D.sl 27 (AB (fun x=>D.sl 3 (AB (D.int .i64) x)) pE)]∧s.v 2=D.box [D.int .i64 0,D.int .i64 0,D.own 27 [],D.own 27 []]∧s.v 5=D.own 27 (AB (fun x=>D.own 3 (AB (D.int .i64) x)) r)
theorem Sv(pL pD:Int)(pN pE:List (List Int)){v:(List (List Int))×Int}{s:St}{r:(List (List Int))}(h:J5 pL pD pN pE v=some r)(hM:DT pL pD pN pE v.1 v.2 s):Bf Y.env uu (JD pL pD pN pE r) s:=by
 unfold J5 at h;refine BA (c:=Zy) (fun v=>Ez pL pD pN pE v.1 v.2) (fun v s=>DT pL pD pN pE v.1 v.2 s) (JD pL pD pN pE) ?_ h hM;clear h hM s v r;intro v s o hM h;obtain⟨full,set_⟩:=v;dsimp only at h hM;unfold Ez at h;unfold DT at hM;obtain⟨m0,m1,m2,m3⟩:=hM;unfold Zy;obtain⟨e1,h⟩:=Av h;by_cases e2:set_<(IntKind.i64.wrap (1*2 ^ (min pL.toNat (IntKind.i64.bits))))
 ·rw [if_pos e2]at h;obtain⟨D6,hl3,h⟩:=AU h;try dsimp only at h
  have c3:=Pj pL pD pN pE set_ hl3;by_cases e4:D6=0
  ·rw [if_pos e4]at h;cases h;simp (maxDischargeDepth:=9) only [↓AC,A7,BM,AA,AJ,↓reduceIte,Nat.reduceEqDiff,Nat.reduceLT,Nat.reduceAdd,m0,m1,m2,m3,e1,e2,c3,decide_eq_true e4,DT,FD]
  ·rw [if_neg e4]at h;obtain⟨Lv,hl5,h⟩:=AU h;try dsimp only at h
   have c5:=Pj pL pD pN pE D6 hl5;by_cases e6:Lv=set_
   ·rw [if_pos e6]at h;obtain⟨e7,h⟩:=Av h;cases h;simp (maxDischargeDepth:=9) only [↓AC,A7,AO,BM,AA,AJ,↓reduceIte,Nat.reduceEqDiff,Nat.reduceLT,Nat.reduceLeDiff,Nat.reduceAdd,m0,m1,m2,m3,e1,e2,c3,e4,c5,decide_eq_true e6,e7,DT,FD]<;>(repeat' apply And.intro)<;>first | rfl | exact⟨_,rfl⟩ | exact⟨_,_,rfl⟩ | simp [AB]
   ·rw [if_neg e6]at h;cases h;simp (maxDischargeDepth:=9) only [↓AC,A7,BM,AA,AJ,↓reduceIte,Nat.reduceEqDiff,Nat.reduceLT,Nat.reduceAdd,m0,m1,m2,m3,e1,e2,c3,e4,c5,e6,DT,FD]
 ·rw [if_neg e2]at h;cases h;simp (maxDischargeDepth:=9) only [↓AC,A7,AA,AJ,↓reduceIte,Nat.reduceEqDiff,Nat.reduceLT,m0,m1,m2,m3,e1,e2,DT,JD,JH]
theorem U6(pL pD:Int)(pN pE:List (List Int)){r:Int×Int×(List (List Int))×(List (List Int))×(List Int)×Bool}(h:OC pL pD pN pE=some r):Y.call 25 [D.agg [D.int .i64 pL,D.int .i64 pD,D.sl 27 (AB (fun x=>D.sl 3 (AB (D.int .i64) x)) pN),D.sl 27 (AB (fun x=>D.sl 3 (AB (D.int .i64) x)) pE)]] []=some (D.tup [D.agg [D.int .i64 r.1,D.int .i64 r.2.1,D.own 27 (AB (fun x=>D.own 3 (AB (D.int .i64) x)) r.2.2.1),D.own 27 (AB (fun x=>D.own 3 (AB (D.int .i64) x)) r.2.2.2.1)],D.own 3 (AB (D.int .i64) r.2.2.2.2.1),D.bool r.2.2.2.2.2],[]):=by
 refine nT ?_ rfl;unfold k25;unfold OC at h;obtain⟨D6,hl3,h⟩:=AU h;try dsimp only at h
 simp (maxDischargeDepth:=9) only [↓AC,A7,AA,AJ,↓reduceIte,Nat.reduceEqDiff,Nat.reduceLT];refine Ag (Sv pL pD pN pE hl3 ?_) ?_
 ·simp (maxDischargeDepth:=9) only [A7,↓reduceIte,Nat.reduceEqDiff,DT]<;>(repeat' apply And.intro)<;>first | rfl | exact⟨_,rfl⟩ | exact⟨_,_,rfl⟩ | simp [AB,Aa]
 ·intro ex3 s3 hX3;unfold JD at hX3;obtain⟨rfl,n3_0,n3_1,n3_2⟩:=hX3;obtain⟨DF,hl4,h⟩:=AU h;try dsimp only at h
  have c4:=Si D6 hl4;have c5:=Ma (DF.1.length:Int) (1:Int) (8:Int);by_cases e6:(Ms (DF.1.length:Int) (1:Int) (8:Int))=true
  ·rw [if_pos e6]at h;obtain⟨Za,hl7,h⟩:=AU h;try dsimp only at h
   have c7:=Sk (DF.1.length:Int) pD (fun a0=>IZ a0 pL pD pN pE DF.1) 43 [D.cptr [D.int .i64 pL,D.int .i64 pD,D.sl 27 (AB (fun x=>D.sl 3 (AB (D.int .i64) x)) pN),D.sl 27 (AB (fun x=>D.sl 3 (AB (D.int .i64) x)) pE)],D.cptr [D.sl 3 (AB (D.int .i64) DF.1)]] (fun a0 _ hh=>Rj a0 pL pD pN pE DF.1 hh) A2n hl7;cases h;simp (maxDischargeDepth:=9) only [↓AC,A7,AO,BM,AA,AJ,↓reduceIte,Nat.reduceEqDiff,Nat.reduceLT,Nat.reduceLeDiff,Nat.reduceAdd,Nat.reduceMod,Nat.reduceDiv,Nat.reducePow,Nat.reduceSub,Nat.reduceBEq,n3_0,n3_1,n3_2,c4,c5,e6,c7]
  ·rw [if_neg e6]at h;have e6f:(Ms (DF.1.length:Int) (1:Int) (8:Int))=false:=Bool.eq_false_iff.mpr e6;cases h;simp (maxDischargeDepth:=9) only [↓AC,A7,AO,BM,AA,AJ,↓reduceIte,Nat.reduceEqDiff,Nat.reduceLT,Nat.reduceAdd,n3_1,n3_2,c4,c5,e6f]<;>(repeat' apply And.intro)<;>first | rfl | exact⟨_,rfl⟩ | exact⟨_,_,rfl⟩ | simp [AB,Aa]
noncomputable def En(pL pD:Int)(pN pE:List (List Int)):Option (Int×Int×(List (List Int))×(List (List Int))×(List Int)×Bool):= ck (Ai pN)<| ck (Ai pE)<| if(JF pL pD pN pE)=true then (OC pL pD pN pE).bind fun Lv=> some (Lv.1,Lv.2.1,Lv.2.2.1,Lv.2.2.2.1,Lv.2.2.2.2.1,Lv.2.2.2.2.2) else some (0,0,[],[],[],false)
def k9:SC:= .seq (.ops [oX 1 (.box 26 (tK 0)) 0,oX 2 (.alloc 26) 0,oX 3 (.assign (.const (.slice none 0 0))) 27,oX 4 (.assign (.const (.bool false))) 4]) (.seq (.seq (.ops [oL 5 26 1 26,oC 6 24 [(tK 5)] [26] 4,oX 7 (.unOp .not 4 (tK 6)) 4]) (.cond (tK 7) (.seq (.ops [oX 8 (.build 26 #[]) 26,oS 26 2 8,oX 3 (.assign (.const (.slice none 0 0))) 27,oX 4 (.assign (.const (.bool false))) 4]) .ret) .skip)) (.seq (.ops [oL 9 26 1 26,oC 10 25 [(tK 9)] [26] 28,oE 11 10 0 26,oE 12 10 1 27,oE 13 10 2 4,oS 26 2 11,oA 3 12 27,oA 4 13 4]) .ret))
theorem AC6:Tryz.f9.body.map (BO lends)=some k9:=by kernel_rfl
theorem ok9:Bi Tryz.f9 1=true:=by kernel_rfl
theorem c9{a l:List D}{r:D×List D}(h:Bf Y.env k9 (EG AV l.length [ResultVar.cell 2 26,ResultVar.tmp 3,ResultVar.tmp 4] r) (entry a l))(ha:a.length=1):Y.call 9 a l=some r:=
 AL (Y:=Y) rfl Tryz.func9 (ha▸ok9) AC6 h
theorem U7(pL pD:Int)(pN pE:List (List Int)){r:Int×Int×(List (List Int))×(List (List Int))×(List Int)×Bool}(h:En pL pD pN pE=some r):Y.call 9 [D.agg [D.int .i64 pL,D.int .i64 pD,D.sl 27 (AB (fun x=>D.sl 3 (AB (D.int .i64) x)) pN),D.sl 27 (AB (fun x=>D.sl 3 (AB (D.int .i64) x)) pE)]] []=some (D.tup [D.agg [D.int .i64 r.1,D.int .i64 r.2.1,D.own 27 (AB (fun x=>D.own 3 (AB (D.int .i64) x)) r.2.2.1),D.own 27 (AB (fun x=>D.own 3 (AB (D.int .i64) x)) r.2.2.2.1)],D.own 3 (AB (D.int .i64) r.2.2.2.2.1),D.bool r.2.2.2.2.2],[]):=by
 refine c9 ?_ rfl;unfold k9;unfold En at h;obtain⟨e1,h⟩:=Av h;obtain⟨e2,h⟩:=Av h;have c3:=Vh pL pD pN pE e1 e2;by_cases e4:(JF pL pD pN pE)=true
 ·rw [if_pos e4]at h;obtain⟨Lv,hl5,h⟩:=AU h;try dsimp only at h
  have c5:=U6 pL pD pN pE hl5;cases h;simp (maxDischargeDepth:=9) only [↓AC,A7,AO,BM,AA,AJ,↓reduceIte,Nat.reduceEqDiff,Nat.reduceLT,Nat.reduceAdd,c3,e4,c5]
 ·rw [if_neg e4]at h;have e4f:(JF pL pD pN pE)=false:=Bool.eq_false_iff.mpr e4;cases h;simp (maxDischargeDepth:=9) only [↓AC,A7,BM,AA,AJ,↓reduceIte,Nat.reduceEqDiff,Nat.reduceLT,Nat.reduceAdd,c3,e4f]<;>(repeat' apply And.intro)<;>first | rfl | exact⟨_,rfl⟩ | exact⟨_,_,rfl⟩ | simp [AB,Aa]
noncomputable def Gz(pL pD:Int)(pN pE:List (List Int))(set_ out b:Int)(Au:(List Int))(all:Bool)(W9:Int):Option ((Bool×Int)⊕(Bool)):= if W9<(Au.length:Int)then ck (0≤W9∧W9.toNat<Au.length)<| if all=true then ck (Ai pE)<| some (Sum.inl ((P8 pE (Au.getD W9.toNat default) b),IntKind.i64.wrap (W9+1))) else some (Sum.inl (false,IntKind.i64.wrap (W9+1))) else some (Sum.inr all)
noncomputable def Kv(pL pD:Int)(pN pE:List (List Int))(set_ out b:Int)(Au:(List Int))(v:Bool×Int):Option (Bool):=Gb (fun v=>Gz pL pD pN pE set_ out b Au v.1 v.2) v
noncomputable def H5(pL pD:Int)(pN pE:List (List Int))(set_ out b:Int):Option ((Int×Int)⊕(Int)):= if b<pL then (K8 set_).bind fun Au=> (Kv pL pD pN pE set_ out b Au (true,0)).bind fun DF=> if DF=true then ck (¬b<0)<| some (Sum.inl (IntKind.i64.wrap (out+(IntKind.i64.wrap (1*2 ^ (min b.toNat (IntKind.i64.bits))))),IntKind.i64.wrap (b+1))) else some (Sum.inl (out,IntKind.i64.wrap (b+1))) else some (Sum.inr out)
noncomputable def Mj(pL pD:Int)(pN pE:List (List Int))(set_:Int)(v:Int×Int):Option (Int):=Gb (fun v=>H5 pL pD pN pE set_ v.1 v.2) v
noncomputable def Nh(pL pD:Int)(pN pE:List (List Int))(set_:Int):Option (Int):= (Mj pL pD pN pE set_ (0,0)).bind fun Au=> some Au
def Zz:SC:= .seq (.ops [oB 20 .lss 3 (tK 19) (tK 18) 3 0]) (.seq (.cond (tK 20) .skip (.exit 2)) (.seq (.block 3 (.seq (.ops [oI 21 27 17 19,oL 22 3 21 3,oA 9 22 3]) (.ops [oM 23 7 4,oM 24 23 4,⟨some 25,.load 26 (tK 2),26,(some (some 24,true))⟩,⟨some 26,.move (tK 9),3,(some (some 24,true))⟩,⟨some 27,.move (tK 6),3,(some (some 24,true))⟩,⟨some 28,.call ⟨(.value (.func 57)), #[(tK 25),(tK 26),(tK 27)], #[26,3,3]⟩,4,(some (some 24,true))⟩,oX 29 (.pick (tK 24) (tK 28) (.const (.bool false))) 4,oA 7 29 4]))) (.ops [oB 30 .add 3 (tK 19) (iK 1) 3 3,oM 19 30 3])))
def uw:SC:= .loop Zz
def aA:SC:= .seq (.seq (.ops [oM 10 6 3,oF 11 26 2 0,oL 12 3 11 3,oB 13 .lss 3 (tK 10) (tK 12) 3 4]) (.cond (tK 13) .skip (.exit 0))) (.seq (.block 1 (.seq (.ops [oX 7 (.assign (.const (.bool true))) 4]) (.seq (.seq (.ops [oM 16 1 3,oC 17 56 [(tK 16)] [3] 27,oN 18 17 27,oX 19 (.move (iK 0)) 3]) (.block 2 uw)) (.seq (.ops [oM 31 7 4]) (.cond (tK 31) (.ops [oM 32 5 3,oM 33 6 3,oB 34 .shl 3 (iK 1) (tK 33) 3 3,oB 35 .add 3 (tK 32) (tK 34) 3 3,oA 5 35 3]) .skip))))) (.ops [oM 14 6 3,oB 15 .add 3 (tK 14) (iK 1) 3 3,oA 6 15 3]))
def uy:SC:= .loop aA
def k35:SC:= .seq (.ops [oX 2 (.box 26 (tK 0)) 0,oX 4 (.assign (iK 0)) 3]) (.seq (.ops [oX 5 (.assign (iK 0)) 3]) (.seq (.seq (.ops [oX 6 (.assign (iK 0)) 3]) (.block 0 uy)) (.seq (.ops [oM 36 5 3,oA 4 36 3]) .ret)))
theorem A4G:Tryz.f35.body.map (BO lends)=some k35:=by kernel_rfl
theorem AKE:Bi Tryz.f35 2=true:=by kernel_rfl
theorem c35{a l:List D}{r:D×List D}(h:Bf Y.env k35 (EG AV l.length [ResultVar.tmp 4] r) (entry a l))(ha:a.length=2):Y.call 35 a l=some r:=
 AL (Y:=Y) rfl Tryz.func35 (ha▸AKE) A4G h
def FQ(pL pD:Int)(pN pE:List (List Int))(set_ out b:Int)(Au:(List Int))(all:Bool)(W9:Int)(s:St):Prop:=s.v 1=D.int .i64 set_∧s.v 2=D.box [D.int .i64 pL,D.int .i64 pD,D.sl 27 (AB (fun x=>D.sl 3 (AB (D.int .i64) x)) pN),D.sl 27 (AB (fun x=>D.sl 3 (AB (D.int .i64) x)) pE)]∧s.v 5=D.int .i64 out∧s.v 6=D.int .i64 b∧s.v 7=D.bool all∧s.v 17=D.own 3 (AB (D.int .i64) Au)∧s.v 18=D.int .i64 (Au.length:Int)∧s.v 19=D.int .i64 W9
def KS(pL pD:Int)(pN pE:List (List Int))(set_ out b:Int)(Au:(List Int))(r:Bool)(ex:Ex)(s:St):Prop:=ex= .exit 2∧s.v 1=D.int .i64 set_∧s.v 2=D.box [D.int .i64 pL,D.int .i64 pD,D.sl 27 (AB (fun x=>D.sl 3 (AB (D.int .i64) x)) pN),D.sl 27 (AB (fun x=>D.sl 3 (AB (D.int .i64) x)) pE)]∧s.v 5=D.int .i64 out∧s.v 6=D.int .i64 b∧s.v 7=D.bool r
theorem WA(pL pD:Int)(pN pE:List (List Int))(set_ out b:Int)(Au:(List Int)){v:Bool×Int}{s:St}{r:Bool}(h:Kv pL pD pN pE set_ out b Au v=some r)(hM:FQ pL pD pN pE set_ out b Au v.1 v.2 s):Bf Y.env uw (KS pL pD pN pE set_ out b Au r) s:=by
 unfold Kv at h;refine BA (c:=Zz) (fun v=>Gz pL pD pN pE set_ out b Au v.1 v.2) (fun v s=>FQ pL pD pN pE set_ out b Au v.1 v.2 s) (KS pL pD pN pE set_ out b Au) ?_ h hM;clear h hM s v r;intro v s o hM h;obtain⟨all,W9⟩:=v;dsimp only at h hM;unfold Gz at h;unfold FQ at hM;obtain⟨m0,m1,m2,m3,m4,m5,m6,m7⟩:=hM;unfold Zz;by_cases e3:W9<(Au.length:Int)
 ·rw [if_pos e3]at h;obtain⟨e4,h⟩:=Av h;by_cases e5:all=true
  ·rw [if_pos e5]at h;obtain⟨e6,h⟩:=Av h;have c7:=eX pL pD pN pE (Au.getD W9.toNat default) b e6;cases h;simp (maxDischargeDepth:=9) only [↓AC,A7,AO,BM,AA,AJ,↓reduceIte,Nat.reduceEqDiff,Nat.reduceLT,Nat.reduceAdd,m0,m1,m2,m3,m4,m5,m6,m7,e3,e4.1,e4.2,e5,c7,FQ,FD]
  ·rw [if_neg e5]at h;have e5f:all=false:=Bool.eq_false_iff.mpr e5;cases h;simp (maxDischargeDepth:=9) only [↓AC,A7,AO,AA,AJ,↓reduceIte,Nat.reduceEqDiff,Nat.reduceLT,m0,m1,m2,m3,m4,m5,m6,m7,e3,e4.1,e4.2,e5f,FQ,FD]
 ·rw [if_neg e3]at h;cases h;simp (maxDischargeDepth:=9) only [↓AC,A7,AJ,↓reduceIte,Nat.reduceEqDiff,Nat.reduceLT,m0,m1,m2,m3,m4,m6,m7,e3,FQ,KS,JH]
def FR(pL pD:Int)(pN pE:List (List Int))(set_ out b:Int)(s:St):Prop:=s.v 1=D.int .i64 set_∧s.v 2=D.box [D.int .i64 pL,D.int .i64 pD,D.sl 27 (AB (fun x=>D.sl 3 (AB (D.int .i64) x)) pN),D.sl 27 (AB (fun x=>D.sl 3 (AB (D.int .i64) x)) pE)]∧s.v 5=D.int .i64 out∧s.v 6=D.int .i64 b
def KT(pL pD:Int)(pN pE:List (List Int))(set_ r:Int)(ex:Ex)(s:St):Prop:=ex= .exit 0∧s.v 5=D.int .i64 r
theorem WB(pL pD:Int)(pN pE:List (List Int))(set_:Int){v:Int×Int}{s:St}{r:Int}(h:Mj pL pD pN pE set_ v=some r)(hM:FR pL pD pN pE set_ v.1 v.2 s):Bf Y.env uy (KT pL pD pN pE set_ r) s:=by
 unfold Mj at h;refine BA (c:=aA) (fun v=>H5 pL pD pN pE set_ v.1 v.2) (fun v s=>FR pL pD pN pE set_ v.1 v.2 s) (KT pL pD pN pE set_) ?_ h hM;clear h hM s v r;intro v s o hM h;obtain⟨out,b⟩:=v;dsimp only at h hM;unfold H5 at h;unfold FR at hM;obtain⟨m0,m1,m2,m3⟩:=hM;unfold aA;by_cases e1:b<pL
 ·rw [if_pos e1]at h;obtain⟨Au,hl2,h⟩:=AU h;try dsimp only at h
  have c2:=OJ set_ hl2;obtain⟨DF,hl4,h⟩:=AU h;try dsimp only at h
  simp (maxDischargeDepth:=9) only [↓AC,A7,AO,BM,AA,AJ,↓reduceIte,Nat.reduceEqDiff,Nat.reduceLT,Nat.reduceAdd,m0,m1,m3,e1,c2];refine Ag (WA pL pD pN pE set_ out b Au hl4 ?_) ?_
  ·simp (maxDischargeDepth:=9) only [A7,↓reduceIte,Nat.reduceEqDiff,m0,m1,m2,m3,FQ]
  ·intro ex4 s4 hX4;unfold KS at hX4;obtain⟨rfl,n4_0,n4_1,n4_2,n4_3,n4_4⟩:=hX4;by_cases e5:DF=true
   ·rw [if_pos e5]at h;obtain⟨e6,h⟩:=Av h;cases h;simp (maxDischargeDepth:=9) only [↓AC,A7,AJ,↓reduceIte,Nat.reduceEqDiff,Nat.reduceLT,n4_0,n4_1,n4_2,n4_3,n4_4,e5,e6,FR,FD]
   ·rw [if_neg e5]at h;have e5f:DF=false:=Bool.eq_false_iff.mpr e5;cases h;simp (maxDischargeDepth:=9) only [↓AC,A7,AJ,↓reduceIte,Nat.reduceEqDiff,Nat.reduceLT,n4_0,n4_1,n4_2,n4_3,n4_4,e5f,FR,FD]
 ·rw [if_neg e1]at h;cases h;simp (maxDischargeDepth:=9) only [↓AC,A7,AA,AJ,↓reduceIte,Nat.reduceEqDiff,Nat.reduceLT,m1,m2,m3,e1,FR,KT,JH]
theorem Pn(pL pD:Int)(pN pE:List (List Int))(set_:Int){r:Int}(h:Nh pL pD pN pE set_=some r):Y.call 35 [D.agg [D.int .i64 pL,D.int .i64 pD,D.sl 27 (AB (fun x=>D.sl 3 (AB (D.int .i64) x)) pN),D.sl 27 (AB (fun x=>D.sl 3 (AB (D.int .i64) x)) pE)],D.int .i64 set_] []=some (D.int .i64 r,[]):=by
 refine c35 ?_ rfl;unfold k35;unfold Nh at h;obtain⟨Au,hl2,h⟩:=AU h;try dsimp only at h
 simp (maxDischargeDepth:=9) only [↓AC,A7,AA,AJ,↓reduceIte,Nat.reduceEqDiff,Nat.reduceLT];refine Ag (WB pL pD pN pE set_ hl2 ?_) ?_
 ·simp (maxDischargeDepth:=9) only [A7,AA,↓reduceIte,Nat.reduceEqDiff,Nat.reduceLT,FR]
 ·intro ex2 s2 hX2;unfold KT at hX2;obtain⟨rfl,n2_0⟩:=hX2;cases h;simp (maxDischargeDepth:=9) only [↓AC,A7,AA,↓reduceIte,Nat.reduceEqDiff,Nat.reduceLT,n2_0]
noncomputable def H6(pL pD:Int)(pN pE full:List (List Int))(set_:Int):Option (((List (List Int))×Int)⊕((List (List Int)))):= ck (¬pL<0)<| if set_<(IntKind.i64.wrap (1*2 ^ (min pL.toNat (IntKind.i64.bits))))then (Nh pL pD pN pE set_).bind fun D6=> if 0<D6 then (Nh pL pD pN pE D6).bind fun Lv=> if Lv=set_ then ck (full.length+1<1099511627776)<| some (Sum.inl ((full++[[set_,D6]]),IntKind.i64.wrap (set_+1))) else some (Sum.inl (full,IntKind.i64.wrap (set_+1))) else some (Sum.inl (full,IntKind.i64.wrap (set_+1))) else some (Sum.inr full)
noncomputable def Kw(pL pD:Int)(pN pE:List (List Int))(v:(List (List Int))×Int):Option ((List (List Int))):=Gb (fun v=>H6 pL pD pN pE v.1 v.2) v
noncomputable def Rk(pL pD:Int)(pN pE:List (List Int)):Option ((Int×Int×(List (List Int))×(List (List Int))×(List Int)×Bool)⊕((Int×Int×(List (List Int))×(List (List Int))×(List Int)×Bool)⊕(Int×Int×(List (List Int))×(List (List Int))×(List Int)×Bool))):=
 (Kw pL pD pN pE ([],1)).bind fun D6=>
 (Ri pL pD pN pE D6 true).bind fun DF=>
 match DF with
 | .inl q4_=>
  some (Sum.inl (q4_.1,q4_.2.1,q4_.2.2.1,q4_.2.2.2.1,q4_.2.2.2.2.1,q4_.2.2.2.2.2))
 | .inr (.inl q4_)=>
  some (Sum.inr (Sum.inl (q4_.1,q4_.2.1,q4_.2.2.1,q4_.2.2.2.1,q4_.2.2.2.2.1,q4_.2.2.2.2.2)))
 | .inr (.inr q4_)=>
  some (Sum.inr (Sum.inr (q4_.1,q4_.2.1,q4_.2.2.1,q4_.2.2.2.1,q4_.2.2.2.2.1,q4_.2.2.2.2.2)))
def aB:SC:= .seq (.seq (.ops [oM 8 6 3,oF 9 26 1 0,oL 10 3 9 3,oB 11 .shl 3 (iK 1) (tK 10) 3 3,oB 12 .lss 3 (tK 8) (tK 11) 3 4]) (.cond (tK 12) .skip (.exit 0))) (.seq (.block 1 (.seq (.ops [oL 15 26 1 26,oM 16 6 3,oC 17 35 [(tK 15),(tK 16)] [26,3] 3,oA 7 17 3]) (.seq (.ops [oM 18 7 3,oB 19 .gtr 3 (tK 18) (iK 0) 3 4,oM 20 19 4,⟨some 21,.load 26 (tK 1),26,(some (some 20,true))⟩,⟨some 22,.move (tK 7),3,(some (some 20,true))⟩,⟨some 23,.call ⟨(.value (.func 35)), #[(tK 21),(tK 22)], #[26,3]⟩,3,(some (some 20,true))⟩,⟨some 24,.move (tK 6),3,(some (some 20,true))⟩,⟨some 25,.binOp .eql 3 (tK 23) (tK 24) 3,4,(some (some 20,true))⟩,oX 26 (.pick (tK 20) (tK 25) (.const (.bool false))) 4]) (.cond (tK 26) (.ops [oM 27 5 22,oM 28 6 3,oM 29 7 3,oX 30 (.buildSlice 27 2 #[(0,(tK 28)),(1,(tK 29))]) 27,oX 31 (.buildSlice 22 1 #[(0,(tK 30))]) 22,oX 32 (.call ⟨(.builtin .append), #[(tK 27),(tK 31)], #[22,22]⟩) 22,oA 5 32 22]) .skip)))) (.ops [oM 13 6 3,oB 14 .add 3 (tK 13) (iK 1) 3 3,oA 6 14 3]))
def uz:SC:= .loop aB
def k22:SC:= .seq (.ops [oX 1 (.box 26 (tK 0)) 0,oX 2 (.alloc 26) 0,oX 3 (.assign (.const (.slice none 0 0))) 27,oX 4 (.assign (.const (.bool false))) 4]) (.seq (.ops [oX 5 (.assign (.const (.slice none 0 0))) 22]) (.seq (.seq (.ops [oX 6 (.assign (iK 1)) 3]) (.block 0 uz)) (.seq (.ops [oL 33 26 1 26,oM 34 5 22,oC 35 36 [(tK 33),(tK 34),(.const (.bool true))] [26,22,4] 28,oE 36 35 0 26,oE 37 35 1 27,oE 38 35 2 4,oS 26 2 36,oA 3 37 27,oA 4 38 4]) .ret)))
theorem A4H:Tryz.f22.body.map (BO lends)=some k22:=by kernel_rfl
theorem AKG:Bi Tryz.f22 1=true:=by kernel_rfl
theorem fH{a l:List D}{r:D×List D}(h:Bf Y.env k22 (EG AV l.length [ResultVar.cell 2 26,ResultVar.tmp 3,ResultVar.tmp 4] r) (entry a l))(ha:a.length=1):Y.call 22 a l=some r:=
 AL (Y:=Y) rfl Tryz.func22 (ha▸AKG) A4H h
def EF(pL pD:Int)(pN pE full:List (List Int))(set_:Int)(s:St):Prop:=s.v 1=D.box [D.int .i64 pL,D.int .i64 pD,D.sl 27 (AB (fun x=>D.sl 3 (AB (D.int .i64) x)) pN),D.sl 27 (AB (fun x=>D.sl 3 (AB (D.int .i64) x)) pE)]∧s.v 2=D.box [D.int .i64 0,D.int .i64 0,D.own 27 [],D.own 27 []]∧s.v 5=D.own 27 (AB (fun x=>D.own 3 (AB (D.int .i64) x)) full)∧s.v 6=D.int .i64 set_
def KU(pL pD:Int)(pN pE:List (List Int))(r:(List (List Int)))(ex:Ex)(s:St):Prop:=ex= .exit 0∧s.v 1=D.box [D.int .i64 pL,D.int .i64 pD,D.sl 27 (AB (fun x=>D.sl 3 (AB (D.int .i64) x)) pN),D.sl 27 (AB (fun x=>D.sl 3 (AB (D.int .i64) x)) pE)]∧s.v 2=D.box [D.int .i64 0,D.int .i64 0,D.own 27 [],D.own 27 []]∧s.v 5=D.own 27 (AB (fun x=>D.own 3 (AB (D.int .i64) x)) r)
theorem WC(pL pD:Int)(pN pE:List (List Int)){v:(List (List Int))×Int}{s:St}{r:(List (List Int))}(h:Kw pL pD pN pE v=some r)(hM:EF pL pD pN pE v.1 v.2 s):Bf Y.env uz (KU pL pD pN pE r) s:=by
 unfold Kw at h;refine BA (c:=aB) (fun v=>H6 pL pD pN pE v.1 v.2) (fun v s=>EF pL pD pN pE v.1 v.2 s) (KU pL pD pN pE) ?_ h hM;clear h hM s v r;intro v s o hM h;obtain⟨full,set_⟩:=v;dsimp only at h hM;unfold H6 at h;unfold EF at hM;obtain⟨m0,m1,m2,m3⟩:=hM;unfold aB;obtain⟨e1,h⟩:=Av h;by_cases e2:set_<(IntKind.i64.wrap (1*2 ^ (min pL.toNat (IntKind.i64.bits))))
 ·rw [if_pos e2]at h;obtain⟨D6,hl3,h⟩:=AU h;try dsimp only at h
  have c3:=Pn pL pD pN pE set_ hl3;by_cases e4:0<D6
  ·rw [if_pos e4]at h;obtain⟨Lv,hl5,h⟩:=AU h;try dsimp only at h
   have c5:=Pn pL pD pN pE D6 hl5;by_cases e6:Lv=set_
   ·rw [if_pos e6]at h;obtain⟨e7,h⟩:=Av h;cases h;simp (maxDischargeDepth:=9) only [↓AC,A7,AO,BM,AA,AJ,↓reduceIte,Nat.reduceEqDiff,Nat.reduceLT,Nat.reduceLeDiff,Nat.reduceAdd,m0,m1,m2,m3,e1,e2,c3,e4,c5,decide_eq_true e6,e7,EF,FD]<;>(repeat' apply And.intro)<;>first | rfl | exact⟨_,rfl⟩ | exact⟨_,_,rfl⟩ | simp [AB]
   ·rw [if_neg e6]at h;cases h;simp (maxDischargeDepth:=9) only [↓AC,A7,BM,AA,AJ,↓reduceIte,Nat.reduceEqDiff,Nat.reduceLT,Nat.reduceAdd,m0,m1,m2,m3,e1,e2,c3,e4,c5,e6,EF,FD]
  ·rw [if_neg e4]at h;cases h;simp (maxDischargeDepth:=9) only [↓AC,A7,BM,AA,AJ,↓reduceIte,Nat.reduceEqDiff,Nat.reduceLT,Nat.reduceAdd,m0,m1,m2,m3,e1,e2,c3,e4,EF,FD]
 ·rw [if_neg e2]at h;cases h;simp (maxDischargeDepth:=9) only [↓AC,A7,AA,AJ,↓reduceIte,Nat.reduceEqDiff,Nat.reduceLT,m0,m1,m2,m3,e1,e2,EF,KU,JH]
theorem XG(pL pD:Int)(pN pE:List (List Int)){r:(Int×Int×(List (List Int))×(List (List Int))×(List Int)×Bool)⊕((Int×Int×(List (List Int))×(List (List Int))×(List Int)×Bool)⊕(Int×Int×(List (List Int))×(List (List Int))×(List Int)×Bool))}(h:Rk pL pD pN pE=some r):Y.call 22 [D.agg [D.int .i64 pL,D.int .i64 pD,D.sl 27 (AB (fun x=>D.sl 3 (AB (D.int .i64) x)) pN),D.sl 27 (AB (fun x=>D.sl 3 (AB (D.int .i64) x)) pE)]] []=some (match (generalizing:=false) r with | .inl q=>(D.tup [D.agg [D.int .i64 q.1,D.int .i64 q.2.1,D.own 27 (AB (fun x=>D.sl 3 (AB (D.int .i64) x)) q.2.2.1),D.sl 27 (AB (fun x=>D.sl 3 (AB (D.int .i64) x)) q.2.2.2.1)],D.sl 3 (AB (D.int .i64) q.2.2.2.2.1),D.bool q.2.2.2.2.2],[]) | .inr (.inl q)=>(D.tup [D.agg [D.int .i64 q.1,D.int .i64 q.2.1,D.sl 27 (AB (fun x=>D.sl 3 (AB (D.int .i64) x)) q.2.2.1),D.own 27 (AB (fun x=>D.sl 3 (AB (D.int .i64) x)) q.2.2.2.1)],D.sl 3 (AB (D.int .i64) q.2.2.2.2.1),D.bool q.2.2.2.2.2],[]) | .inr (.inr q)=>(D.tup [D.agg [D.int .i64 q.1,D.int .i64 q.2.1,D.own 27 (AB (fun x=>D.own 3 (AB (D.int .i64) x)) q.2.2.1),D.own 27 (AB (fun x=>D.own 3 (AB (D.int .i64) x)) q.2.2.2.1)],D.own 3 (AB (D.int .i64) q.2.2.2.2.1),D.bool q.2.2.2.2.2],[])):=by
 refine fH ?_ rfl;unfold k22;unfold Rk at h;obtain⟨D6,hl3,h⟩:=AU h;try dsimp only at h
 simp (maxDischargeDepth:=9) only [↓AC,A7,AA,AJ,↓reduceIte,Nat.reduceEqDiff,Nat.reduceLT];refine Ag (WC pL pD pN pE hl3 ?_) ?_
 ·simp (maxDischargeDepth:=9) only [A7,↓reduceIte,Nat.reduceEqDiff,EF]<;>(repeat' apply And.intro)<;>first | rfl | exact⟨_,rfl⟩ | exact⟨_,_,rfl⟩ | simp [AB,Aa]
 ·intro ex3 s3 hX3;unfold KU at hX3;obtain⟨rfl,n3_0,n3_1,n3_2⟩:=hX3;obtain⟨DF,hl4,h⟩:=AU h;try dsimp only at h
  have c4:=XF pL pD pN pE D6 true hl4;rcases DF with(q4_ | q4_ | q4_)
  ·dsimp only at h c4;by_cases e5:(q4_.2.2.1.any fun x=>(!x.isEmpty))=true
   ·skip
    cases h;simp (maxDischargeDepth:=9) only [↓AC,A7,AO,BM,AA,AJ,↓reduceIte,Nat.reduceEqDiff,Nat.reduceLT,Nat.reduceAdd,n3_0,n3_1,n3_2,c4,e5]
   ·skip
    have e5f:(q4_.2.2.1.any fun x=>(!x.isEmpty))=false:=Bool.eq_false_iff.mpr e5;by_cases e6:(!q4_.2.2.2.1.isEmpty)=true
    ·skip
     cases h;simp (maxDischargeDepth:=9) only [↓AC,A7,AO,BM,AA,AJ,↓reduceIte,Nat.reduceEqDiff,Nat.reduceLT,Nat.reduceAdd,n3_0,n3_1,n3_2,c4,e5f,e6]
    ·skip
     have e6f:(!q4_.2.2.2.1.isEmpty)=false:=Bool.eq_false_iff.mpr e6;by_cases e7:(!q4_.2.2.2.2.1.isEmpty)=true
     ·skip
      cases h;simp (maxDischargeDepth:=9) only [↓AC,A7,AO,BM,AA,AJ,↓reduceIte,Nat.reduceEqDiff,Nat.reduceLT,Nat.reduceAdd,n3_0,n3_1,n3_2,c4,e5f,e6f,e7]
     ·skip
      have e7f:(!q4_.2.2.2.2.1.isEmpty)=false:=Bool.eq_false_iff.mpr e7;cases h;simp (maxDischargeDepth:=9) only [↓AC,A7,AO,BM,AA,AJ,↓reduceIte,Nat.reduceEqDiff,Nat.reduceLT,Nat.reduceAdd,n3_0,n3_1,n3_2,c4,e5f,e6f,e7f]
  ·dsimp only at h c4;by_cases e8:(!q4_.2.2.1.isEmpty)=true
   ·skip
    cases h;simp (maxDischargeDepth:=9) only [↓AC,A7,AO,BM,AA,AJ,↓reduceIte,Nat.reduceEqDiff,Nat.reduceLT,Nat.reduceAdd,n3_0,n3_1,n3_2,c4,e8]
   ·skip
    have e8f:(!q4_.2.2.1.isEmpty)=false:=Bool.eq_false_iff.mpr e8;by_cases e9:(q4_.2.2.2.1.any fun x=>(!x.isEmpty))=true
    ·skip
     cases h;simp (maxDischargeDepth:=9) only [↓AC,A7,AO,BM,AA,AJ,↓reduceIte,Nat.reduceEqDiff,Nat.reduceLT,Nat.reduceAdd,n3_0,n3_1,n3_2,c4,e8f,e9]
    ·skip
     have e9f:(q4_.2.2.2.1.any fun x=>(!x.isEmpty))=false:=Bool.eq_false_iff.mpr e9;by_cases e10:(!q4_.2.2.2.2.1.isEmpty)=true
     ·skip
      cases h;simp (maxDischargeDepth:=9) only [↓AC,A7,AO,BM,AA,AJ,↓reduceIte,Nat.reduceEqDiff,Nat.reduceLT,Nat.reduceAdd,n3_0,n3_1,n3_2,c4,e8f,e9f,e10]
     ·skip
      have e10f:(!q4_.2.2.2.2.1.isEmpty)=false:=Bool.eq_false_iff.mpr e10;cases h;simp (maxDischargeDepth:=9) only [↓AC,A7,AO,BM,AA,AJ,↓reduceIte,Nat.reduceEqDiff,Nat.reduceLT,Nat.reduceAdd,n3_0,n3_1,n3_2,c4,e8f,e9f,e10f]
  ·dsimp only at h c4;cases h;simp (maxDischargeDepth:=9) only [↓AC,A7,AO,BM,AA,AJ,↓reduceIte,Nat.reduceEqDiff,Nat.reduceLT,Nat.reduceAdd,n3_0,n3_1,n3_2,c4]
noncomputable def FT(pL pD:Int)(pN pE:List (List Int)):Option ((Int×Int×(List (List Int))×(List (List Int))×(List Int)×Bool)⊕((Int×Int×(List (List Int))×(List (List Int))×(List Int)×Bool)⊕(Int×Int×(List (List Int))×(List (List Int))×(List Int)×Bool))):=
 ck (Ai pN)<|
 ck (Ai pE)<|
 if(JF pL pD pN pE)=true then
  (Rk pL pD pN pE).bind fun Lv=>
  match Lv with
  | .inl q5_=>
   some (Sum.inl (q5_.1,q5_.2.1,q5_.2.2.1,q5_.2.2.2.1,q5_.2.2.2.2.1,q5_.2.2.2.2.2))
  | .inr (.inl q5_)=>
   some (Sum.inr (Sum.inl (q5_.1,q5_.2.1,q5_.2.2.1,q5_.2.2.2.1,q5_.2.2.2.2.1,q5_.2.2.2.2.2)))
  | .inr (.inr q5_)=>
   some (Sum.inr (Sum.inr (q5_.1,q5_.2.1,q5_.2.2.1,q5_.2.2.2.1,q5_.2.2.2.2.1,q5_.2.2.2.2.2)))
 else
  some (Sum.inr (Sum.inr (0,0,[],[],[],false)))
def k7:SC:= .seq (.ops [oX 1 (.box 26 (tK 0)) 0,oX 2 (.alloc 26) 0,oX 3 (.assign (.const (.slice none 0 0))) 27,oX 4 (.assign (.const (.bool false))) 4]) (.seq (.seq (.ops [oL 5 26 1 26,oC 6 21 [(tK 5)] [26] 4,oX 7 (.unOp .not 4 (tK 6)) 4]) (.cond (tK 7) (.seq (.ops [oX 8 (.build 26 #[]) 26,oS 26 2 8,oX 3 (.assign (.const (.slice none 0 0))) 27,oX 4 (.assign (.const (.bool false))) 4]) .ret) .skip)) (.seq (.ops [oL 9 26 1 26,oC 10 22 [(tK 9)] [26] 28,oE 11 10 0 26,oE 12 10 1 27,oE 13 10 2 4,oS 26 2 11,oA 3 12 27,oA 4 13 4]) .ret))
theorem AC7:Tryz.f7.body.map (BO lends)=some k7:=by kernel_rfl
theorem ok7:Bi Tryz.f7 1=true:=by kernel_rfl
theorem c7{a l:List D}{r:D×List D}(h:Bf Y.env k7 (EG AV l.length [ResultVar.cell 2 26,ResultVar.tmp 3,ResultVar.tmp 4] r) (entry a l))(ha:a.length=1):Y.call 7 a l=some r:=
 AL (Y:=Y) rfl Tryz.func7 (ha▸ok7) AC7 h
theorem U8(pL pD:Int)(pN pE:List (List Int)){r:(Int×Int×(List (List Int))×(List (List Int))×(List Int)×Bool)⊕((Int×Int×(List (List Int))×(List (List Int))×(List Int)×Bool)⊕(Int×Int×(List (List Int))×(List (List Int))×(List Int)×Bool))}(h:FT pL pD pN pE=some r):Y.call 7 [D.agg [D.int .i64 pL,D.int .i64 pD,D.sl 27 (AB (fun x=>D.sl 3 (AB (D.int .i64) x)) pN),D.sl 27 (AB (fun x=>D.sl 3 (AB (D.int .i64) x)) pE)]] []=some (match (generalizing:=false) r with | .inl q=>(D.tup [D.agg [D.int .i64 q.1,D.int .i64 q.2.1,D.own 27 (AB (fun x=>D.sl 3 (AB (D.int .i64) x)) q.2.2.1),D.sl 27 (AB (fun x=>D.sl 3 (AB (D.int .i64) x)) q.2.2.2.1)],D.sl 3 (AB (D.int .i64) q.2.2.2.2.1),D.bool q.2.2.2.2.2],[]) | .inr (.inl q)=>(D.tup [D.agg [D.int .i64 q.1,D.int .i64 q.2.1,D.sl 27 (AB (fun x=>D.sl 3 (AB (D.int .i64) x)) q.2.2.1),D.own 27 (AB (fun x=>D.sl 3 (AB (D.int .i64) x)) q.2.2.2.1)],D.sl 3 (AB (D.int .i64) q.2.2.2.2.1),D.bool q.2.2.2.2.2],[]) | .inr (.inr q)=>(D.tup [D.agg [D.int .i64 q.1,D.int .i64 q.2.1,D.own 27 (AB (fun x=>D.own 3 (AB (D.int .i64) x)) q.2.2.1),D.own 27 (AB (fun x=>D.own 3 (AB (D.int .i64) x)) q.2.2.2.1)],D.own 3 (AB (D.int .i64) q.2.2.2.2.1),D.bool q.2.2.2.2.2],[])):=by
 refine c7 ?_ rfl;unfold k7;unfold FT at h;obtain⟨e1,h⟩:=Av h;obtain⟨e2,h⟩:=Av h;have c3:=eP pL pD pN pE e1 e2;by_cases e4:(JF pL pD pN pE)=true
 ·rw [if_pos e4]at h;obtain⟨Lv,hl5,h⟩:=AU h;try dsimp only at h
  have c5:=XG pL pD pN pE hl5;rcases Lv with(q5_ | q5_ | q5_)
  ·dsimp only at h c5;cases h;simp (maxDischargeDepth:=9) only [↓AC,A7,AO,BM,AA,AJ,↓reduceIte,Nat.reduceEqDiff,Nat.reduceLT,Nat.reduceAdd,c3,e4,c5]
  ·dsimp only at h c5;cases h;simp (maxDischargeDepth:=9) only [↓AC,A7,AO,BM,AA,AJ,↓reduceIte,Nat.reduceEqDiff,Nat.reduceLT,Nat.reduceAdd,c3,e4,c5]
  ·dsimp only at h c5;cases h;simp (maxDischargeDepth:=9) only [↓AC,A7,AO,BM,AA,AJ,↓reduceIte,Nat.reduceEqDiff,Nat.reduceLT,Nat.reduceAdd,c3,e4,c5]
 ·rw [if_neg e4]at h;have e4f:(JF pL pD pN pE)=false:=Bool.eq_false_iff.mpr e4;cases h;simp (maxDischargeDepth:=9) only [↓AC,A7,BM,AA,AJ,↓reduceIte,Nat.reduceEqDiff,Nat.reduceLT,Nat.reduceAdd,c3,e4f]<;>(repeat' apply And.intro)<;>first | rfl | exact⟨_,rfl⟩ | exact⟨_,_,rfl⟩ | simp [AB,Aa]
end Go.Proofs.YtjhjkfoabhplfaaGreat
