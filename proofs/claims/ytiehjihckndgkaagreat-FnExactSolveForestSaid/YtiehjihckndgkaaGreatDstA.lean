/- Functions of the program as plain functions, and what they compute. Conditions: those in each lemma. -/
import Derived.Test.YtiehjihckndgkaaGreatL6
import Derived.Test.YtiehjihckndgkaaGreatNet
import Derived.Test.YtiehjihckndgkaaGreatRep
open Dv.D renaming int → bc,sl → bk,own → br,box → b8,cptr → b9,bool → bp,agg → bw
open Inhabited renaming default → be
open Nat renaming reduceEqDiff → bj,reduceLT → bh,reduceAdd → bx,reduceLeDiff → b5,reduceBEq → ca,reduceSub → cb
open Go.IntKind renaming i64 → bm,u64 → bO
open Sum renaming inl → bo,inr → bl
open Go.ResultVar renaming tmp → bt
open List renaming replicate → ap
noncomputable section
namespace Go.Proofs.YtiehjihckndgkaaGreat
open Go Dv
set_option linter.unusedSimpArgs false
set_option linter.unusedVariables false
set_option maxRecDepth 100000
set_option maxHeartbeats 4000000
def k41:SC:= .seq (.ops [oX 3 (.box 34 (tK 0)) 0,oX 4 (.box 38 (tK 1)) 0,oX 6 BR 4]) (.seq (.ops [oL 7 38 4 38,oM 8 2 22,oC 9 68 [(tK 7),(tK 8)] [38,22] 4,oM 10 9 4,⟨some 11,.move (tK 2),22,(some (some 10,true))⟩,⟨some 12,.makeFunc (Fn.func 70) #[] #[(tK 3)],90,(some (some 10,true))⟩,⟨some 13,.call ⟨(.value (.func 69)), #[(tK 11),(tK 12)], #[22,90]⟩,4,(some (some 10,true))⟩,⟨some 14,.unOp .not 4 (tK 13),4,(some (some 10,true))⟩,oX 15 (.pick (tK 10) (tK 14) Lm) 4,oA 6 15 4]) .ret)
theorem AE3:Tryz.f41.body.map (BQ lends)=some k41:=by kernel_rfl
theorem ARp:BV Tryz.f41 3=true:=by kernel_rfl
theorem c41{a l:List D}{r:D×List D}(h:BU Y.env k41 (fin Ai l.length [bt 6] r) (entry a l))(ha:a.length=3):Y.call 41 a l=some r:=
 AY (Y:=Y) rfl Tryz.func41 (ha▸ARp) AE3 h
def FB(l out:AV)(Q6:Int):Option ((AV×Int)⊕(AV)):= if Q6<(l.length:Int)then ck (0≤Q6∧Q6.toNat<l.length)<| ck ((l.getD Q6.toNat be).length<1099511627776)<| ck (0≤Q6∧Q6.toNat<out.length)<| some (bo ((out.set Q6.toNat (l.getD Q6.toNat be)),bm.wrap (Q6+1))) else some (bl out)
def Mm(l:AV)(v:AV×Int):Option (AV):=E9 (fun v=>FB l v.1 v.2) v
def OQ(l:AV):Option (AV):= ck (0≤(l.length:Int)∧(l.length:Int)<1099511627776)<| (Mm l ((ap l.length ([]:AU)),0)).bind fun AX=> some AX
def qP:SC:= .seq (.ops [oB 11 .lss 3 (tK 10) (tK 9) 3 0]) (.seq (.cond (tK 11) .skip (.exit 0)) (.seq (.block 1 (.seq (.ops [oM 12 10 3,oA 4 12 3]) (.ops [oM 13 3 22,oM 14 4 3,oM 15 0 22,oM 16 4 3,oI 17 22 15 16,oL 18 26 17 26,oC 19 99 [(tK 18)] [26] 26,oI 20 22 13 14,oS 26 20 19]))) (.ops [oB 21 .add 3 (tK 10) (iK 1) 3 3,oM 10 21 3])))
def A4y:SC:= .loop qP
def k72:SC:= .seq (.ops [oX 2 Gt 22]) (.seq (.ops [oM 5 0 22,oN 6 5 22,oX 7 (.makeSlice 22 (tK 6) (tK 6)) 22,oA 3 7 22]) (.seq (.seq (.ops [oM 8 0 22,oN 9 8 22,oX 10 (.move (iK 0)) 3]) (.block 0 A4y)) (.seq (.ops [oM 22 3 22,oA 2 22 22]) .ret)))
theorem AE4:Tryz.f72.body.map (BQ lends)=some k72:=by kernel_rfl
theorem ARr:BV Tryz.f72 1=true:=by kernel_rfl
theorem c72{a l:List D}{r:D×List D}(h:BU Y.env k72 (fin Ai l.length [bt 2] r) (entry a l))(ha:a.length=1):Y.call 72 a l=some r:=
 AY (Y:=Y) rfl Tryz.func72 (ha▸ARr) AE4 h
def FC(l out:AV)(Q6:Int)(s:St):Prop:=s.v 0=bk 26 (AR Ba l)∧s.v 3=br 26 (AR Ew out)∧s.v 9=bc .i64 (l.length:Int)∧s.v 10=bc .i64 Q6
def LB(l:AV)(r:AV)(ex:Ex)(s:St):Prop:=ex= .exit 0∧s.v 3=br 26 (AR Ew r)
theorem XV(l:AV){v:AV×Int}{s:St}{r:AV}(h:Mm l v=some r)(hM:FC l v.1 v.2 s):BU Y.env A4y (LB l r) s:=by
 unfold Mm at h;refine Aw (c:=qP) (fun v=>FB l v.1 v.2) (fun v s=>FC l v.1 v.2 s) (LB l) ?_ h hM;clear h hM s v r;intro v s o hM h;obtain⟨out,Q6⟩:=v;dsimp only at h hM;unfold FB at h;unfold FC at hM;obtain⟨m0,m1,m2,m3⟩:=hM;unfold qP;rcases iS h with⟨e2,h⟩|⟨e2,h⟩
 ·obtain⟨e3,e4,h⟩:=EC h;have c5:=KX (l.getD Q6.toNat be) e4;obtain⟨e6,h⟩:=De h;cases h;simp (maxDischargeDepth:=9) only [↓AO,AP,↓reduceIte,bj,bh,bx,m0,m1,m2,m3,e2,e3.1,e3.2,c5,e6.2,FC,D6]
 ·cases h;simp (maxDischargeDepth:=9) only [↓AO,AP,↓reduceIte,bj,bh,m1,m2,m3,e2,FC,LB,GH]
theorem YT(l:AV){r:AV}(h:OQ l=some r):Y.call 72 [bk 26 (AR Ba l)] []=some (br 26 (AR Ew r),[]):=by
 refine c72 ?_ rfl;unfold k72;unfold OQ at h;obtain⟨e1,h⟩:=De h;obtain⟨AX,hl3,h⟩:=Ag h;try dsimp only at h
 simp (maxDischargeDepth:=9) only [↓AO,AP,↓reduceIte,bj,bh,b5,e1.1,e1.2];refine Ak (XV l hl3 ?_) ?_
 ·simp (maxDischargeDepth:=9) only [BL,Cv,↓reduceIte,bj,bh,FC]
 ·intro ex3 s3 hX3;unfold LB at hX3;obtain⟨rfl,n3_0⟩:=hX3;cases h;simp (maxDischargeDepth:=9) only [↓AO,AP,↓reduceIte,bj,bh,n3_0]
def CG(t0_0 t0_1:Int)(t0_2 t0_3:AV)(t0_4:Ac)(t0_5 t0_6:AU)(t0_7:AV)(Cw Di Gu Cx:Int):Option ((Int)⊕(Unit⊕Unit)):= if Cx<t0_0 then ck (0≤(BH (t0_4.getD Cw.toNat be) Di.toNat)∧(BH (t0_4.getD Cw.toNat be) Di.toNat).toNat<t0_7.length)<| ck (0≤(Bj (t0_4.getD Cw.toNat be) Di.toNat)∧(Bj (t0_4.getD Cw.toNat be) Di.toNat).toNat<(t0_7.getD ((BH (t0_4.getD Cw.toNat be) Di.toNat).toNat) be).length)<| ck (¬Cx<0)<| if(GA .and .i64 (((t0_7.getD ((BH (t0_4.getD Cw.toNat be) Di.toNat).toNat) be).getD ((Bj (t0_4.getD Cw.toNat be) Di.toNat).toNat) be).fdiv (2 ^ (min Cx.toNat (bm.bits)))) 1)=1 then ck (BK t0_3)<| ck (UD t0_3=true)<| if(K5 t0_3 Gu Cx)=true then some (bl (bo ())) else some (bo (bm.wrap (Cx+1))) else some (bo (bm.wrap (Cx+1))) else some (bl (bl ()))
def EQ(t0_0 t0_1:Int)(t0_2 t0_3:AV)(t0_4:Ac)(t0_5 t0_6:AU)(t0_7:AV)(Cw Di Gu v:Int):Option (Unit⊕Unit):=E9 (fun v=>CG t0_0 t0_1 t0_2 t0_3 t0_4 t0_5 t0_6 t0_7 Cw Di Gu v) v
def EA(t0_0 t0_1:Int)(t0_2 t0_3:AV)(t0_4:Ac)(t0_5 t0_6:AU)(t0_7:AV)(Cw Di Gu:Int):Option (Bool):=
 ck (0≤Cw∧Cw.toNat<t0_4.length)<|
 ck (0≤Di∧Di.toNat<(t0_4.getD Cw.toNat be).length)<|
 if(((BH (t0_4.getD Cw.toNat be) Di.toNat)==Cw)&&((Bj (t0_4.getD Cw.toNat be) Di.toNat)==Di))=true then
  ck (BK t0_3)<|
  ck (UD t0_3=true)<|
  some (K5 t0_3 Gu Gu)
 else
  (EQ t0_0 t0_1 t0_2 t0_3 t0_4 t0_5 t0_6 t0_7 Cw Di Gu 0).bind fun AX=>
  match AX with
  | .inl q1000_=>
   some true
  | .inr q1000_=>
   some false
abbrev Ob:List Nat:=[42,43,44,45,46,47,48,49,50,51,52,53,54,55,56,57,58,59,60,61,62,63,64,65,66]
def gF:SC:= .seq (.ops [oB 40 .lss 3 (tK 39) (tK 38) 3 4]) (.seq (.cond (tK 40) .skip (.exit 0)) (.seq (.block 1 (.seq (.ops [oM 41 39 3,oA 10 41 3]) (.seq (.draws [(⟨[42,0,0],Ob,[42]⟩,oM 42 0 91),(⟨[43,42,0],Ob,[43]⟩,oX 43 (.nilCheck (tK 42)) 0),(⟨[44,43,0],Ob,[44]⟩,oF 44 93 43 2),(⟨[45,44,0],Ob,[45]⟩,oL 45 22 44 22),(⟨[46,9,9],Ob,[46]⟩,oF 46 87 9 0),(⟨[47,46,9],Ob,[47]⟩,oL 47 3 46 3),(⟨[48,45,47,0,9],Ob,[48]⟩,oI 48 22 45 47),(⟨[49,48,0],Ob,[49]⟩,oL 49 26 48 26),(⟨[50,9,9],Ob,[50]⟩,oF 50 87 9 1),(⟨[51,50,9],Ob,[51]⟩,oL 51 3 50 3),(⟨[52,49,51,0,9],Ob,[52]⟩,oI 52 26 49 51),(⟨[53,52,0],Ob,[53]⟩,oL 53 3 52 3),(⟨[54,10,10],Ob,[54]⟩,oM 54 10 3),(⟨[55,53,54,0,10],Ob,[55]⟩,oB 55 .shr 3 (tK 53) (tK 54) 3 3),(⟨[56,55,55],Ob,[56]⟩,oB 56 .and 3 (tK 55) (iK 1) 3 3),(⟨[57,56,56],Ob,[57]⟩,oB 57 .eql 3 (tK 56) (iK 1) 3 4),(⟨[58,57,57],Ob,[58]⟩,oM 58 57 4),(⟨[59,0,0,58],Ob,[59]⟩,⟨some 59,.move (tK 0),91,(some (some 58,true))⟩),(⟨[60,59,0,58],Ob,[60]⟩,⟨some 60,.nilCheck (tK 59),0,(some (some 58,true))⟩),(⟨[61,60,0,58],Ob,[61]⟩,⟨some 61,.fieldAddr 93 (tK 60) 0,0,(some (some 58,true))⟩),(⟨[62,61,0,58],Ob,[62]⟩,⟨some 62,.load 34 (tK 61),34,(some (some 58,true))⟩),(⟨[63,3,3,58],Ob,[63]⟩,⟨some 63,.move (tK 3),3,(some (some 58,true))⟩),
 (⟨[64,10,10,58],Ob,[64]⟩,⟨some 64,.move (tK 10),3,(some (some 58,true))⟩),(⟨[65,62,63,64,0,3,10,58],Ob,[65]⟩,⟨some 65,.call ⟨(.value (.func 88)), #[(tK 62),(tK 63),(tK 64)], #[34,3,3]⟩,4,(some (some 58,true))⟩),(⟨[66,58,65,57,65],Ob,[66]⟩,oX 66 (.pick (tK 58) (tK 65) Lm) 4)]) (.cond (tK 66) (.seq (.ops [oX 8 (.assign Ck) 4]) .ret) .skip)))) (.ops [oB 67 .add 3 (tK 39) (iK 1) 3 3,oM 39 67 3])))
def A0V:SC:= .loop gF
def AE5:SC:= .seq (.ops [oX 8 BR 4]) (.seq (.ops [oM 11 0 91,oX 12 (.nilCheck (tK 11)) 0,oF 13 93 12 1,oF 14 38 13 0,oL 15 36 14 36,oM 16 1 3,oI 17 36 15 16,oL 18 79 17 79,oM 19 2 3,oI 20 79 18 19,oL 21 87 20 87,oX 9 (.alloc 87) 0,oS 87 9 21]) (.seq (.seq (.ops [oL 22 87 9 87,oM 23 1 3,oM 24 2 3,oX 25 (.build 87 #[(0,(tK 23)),(1,(tK 24))]) 87,oB 26 .eql 87 (tK 22) (tK 25) 87 4]) (.cond (tK 26) (.seq (.ops [oM 27 0 91,oX 28 (.nilCheck (tK 27)) 0,oF 29 93 28 0,oL 30 34 29 34,oM 31 3 3,oM 32 3 3,oC 33 88 [(tK 30),(tK 31),(tK 32)] [34,3,3] 4,oA 8 33 4]) .ret) .skip)) (.seq (.seq (.ops [oM 34 0 91,oX 35 (.nilCheck (tK 34)) 0,oF 36 93 35 0,oF 37 34 36 0,oL 38 3 37 3,oX 39 (.move (iK 0)) 3]) (.block 0 A0V)) (.seq (.ops [oX 8 BR 4]) .ret))))
theorem A7a:Tryz.f105.body.map (BQ lends)=some AE5:=by kernel_rfl
theorem ALV:BV Tryz.f105 4=true:=by kernel_rfl
theorem ARs{a l:List D}{r:D×List D}(h:BU Y.env AE5 (fin Ai l.length [bt 8] r) (entry a l))(ha:a.length=4):Y.call 105 a l=some r:=
 AY (Y:=Y) rfl Tryz.func105 (ha▸ALV) A7a h
def Bi(t0_0 t0_1:Int)(t0_2 t0_3:AV)(t0_4:Ac)(t0_5 t0_6:AU)(t0_7:AV)(Cw Di Gu Cx:Int)(s:St):Prop:=s.v 0=b9 [bc .i64 t0_0,bc .i64 t0_1,bk 26 (AR Ba t0_2),bk 26 (AR Ba t0_3),bk 79 (AR (fun x=>bk 87 (Aj .i64 .i64 x)) t0_4),bk 3 (AR (bc .i64) t0_5),bk 3 (AR (bc .i64) t0_6),bk 26 (AR Ba t0_7)]∧s.v 3=bc .i64 Gu∧s.v 9=b8 [bc .i64 (BH (t0_4.getD Cw.toNat be) Di.toNat),bc .i64 (Bj (t0_4.getD Cw.toNat be) Di.toNat)]∧s.v 38=bc .i64 t0_0∧s.v 39=bc .i64 Cx
def CJ(t0_0 t0_1:Int)(t0_2 t0_3:AV)(t0_4:Ac)(t0_5 t0_6:AU)(t0_7:AV)(Cw Di Gu:Int)(r:Unit⊕Unit)(ex:Ex)(s:St):Prop:=match r with
 | .inl q=>ex= .ret∧s.v 8=bp true
 | .inr q=>ex= .exit 0
theorem Ox(t0_0 t0_1:Int)(t0_2 t0_3:AV)(t0_4:Ac)(t0_5 t0_6:AU)(t0_7:AV)(Cw Di Gu:Int){v:Int}{s:St}{r:Unit⊕Unit}(h:EQ t0_0 t0_1 t0_2 t0_3 t0_4 t0_5 t0_6 t0_7 Cw Di Gu v=some r)(hM:Bi t0_0 t0_1 t0_2 t0_3 t0_4 t0_5 t0_6 t0_7 Cw Di Gu v s):BU Y.env A0V (CJ t0_0 t0_1 t0_2 t0_3 t0_4 t0_5 t0_6 t0_7 Cw Di Gu r) s:=by
 unfold EQ at h;refine Aw (c:=gF) (fun v=>CG t0_0 t0_1 t0_2 t0_3 t0_4 t0_5 t0_6 t0_7 Cw Di Gu v) (fun v s=>Bi t0_0 t0_1 t0_2 t0_3 t0_4 t0_5 t0_6 t0_7 Cw Di Gu v s) (CJ t0_0 t0_1 t0_2 t0_3 t0_4 t0_5 t0_6 t0_7 Cw Di Gu) ?_ h hM;clear h hM s v r;intro Cx s o hM h;unfold CG at h;unfold Bi at hM;obtain⟨m0,m1,m2,m3,m4⟩:=hM;unfold gF;rcases iS h with⟨e4,h⟩|⟨e4,h⟩
 ·obtain⟨e5,e6,e7,h⟩:=Om h;rcases iS h with⟨e8,h⟩|⟨e8,h⟩
  ·obtain⟨e9,e10,h⟩:=EC h;have vz:=Qo t0_0 t0_1 t0_2 t0_3 Gu Cx e9 e10;rcases iS h with⟨e12,h⟩|⟨e12,h⟩
   ·cases h;simp (maxDischargeDepth:=9) only [↓AO,AP,↓reduceIte,bj,bh,b5,bx,ca,m0,m1,m2,m3,m4,e4,e5.1,e5.2,e6.1,e6.2,e7,decide_eq_true e8,vz,e12,Bi,CJ,OC]
   ·have e12f:(K5 t0_3 Gu Cx)=false:=Es.mpr e12;cases h;simp (maxDischargeDepth:=9) only [↓AO,AP,↓reduceIte,bj,bh,b5,bx,ca,m0,m1,m2,m3,m4,e4,e5.1,e5.2,e6.1,e6.2,e7,decide_eq_true e8,vz,e12f,Bi,D6]
  ·cases h;simp (maxDischargeDepth:=9) only [↓AO,AP,↓reduceIte,bj,bh,ca,m0,m1,m2,m3,m4,e4,e5.1,e5.2,e6.1,e6.2,e7,e8,Bi,D6]
 ·cases h;simp (maxDischargeDepth:=9) only [↓AO,AP,↓reduceIte,bh,m3,m4,e4,Bi,CJ,GH]
theorem Q7(t0_0 t0_1:Int)(t0_2 t0_3:AV)(t0_4:Ac)(t0_5 t0_6:AU)(t0_7:AV)(Cw Di Gu:Int){r:Bool}(h:EA t0_0 t0_1 t0_2 t0_3 t0_4 t0_5 t0_6 t0_7 Cw Di Gu=some r):Y.call 105 [b9 [bc .i64 t0_0,bc .i64 t0_1,bk 26 (AR Ba t0_2),bk 26 (AR Ba t0_3),bk 79 (AR (fun x=>bk 87 (Aj .i64 .i64 x)) t0_4),bk 3 (AR (bc .i64) t0_5),bk 3 (AR (bc .i64) t0_6),bk 26 (AR Ba t0_7)],bc .i64 Cw,bc .i64 Di,bc .i64 Gu] []=some (bp r,[]):=by
 refine ARs ?_ rfl;unfold AE5;unfold EA at h;obtain⟨e1,e2,h⟩:=EC h;rcases iS h with⟨e3,h⟩|⟨e3,h⟩
 ·obtain⟨e4,e5,h⟩:=EC h;have c6:=Qo t0_0 t0_1 t0_2 t0_3 Gu Gu e4 e5;cases h;simp (maxDischargeDepth:=9) only [↓AO,AP,↓reduceIte,bj,bh,b5,bx,e1.1,e1.2,e2.1,e2.2,e3,c6]
 ·have e3f:(((BH (t0_4.getD Cw.toNat be) Di.toNat)==Cw)&&((Bj (t0_4.getD Cw.toNat be) Di.toNat)==Di))=false:=Es.mpr e3;obtain⟨AX,hl5,h⟩:=Ag h;try dsimp only at h
  simp (maxDischargeDepth:=9) only [↓AO,AP,↓reduceIte,bj,bh,b5,bx,e1.1,e1.2,e2.1,e2.2,e3f];refine Ak (Ox t0_0 t0_1 t0_2 t0_3 t0_4 t0_5 t0_6 t0_7 Cw Di Gu hl5 ?_) ?_
  ·simp (maxDischargeDepth:=9) only [BL,Cv,↓reduceIte,bj,bh,Bi]
  ·intro ex5 s5 hX5;rcases AX with q1000_|q1000_
   ·unfold CJ at hX5;dsimp only at hX5 h;obtain⟨rfl,n5_0⟩:=hX5;cases h;simp (maxDischargeDepth:=9) only [↓AO,AP,↓reduceIte,n5_0]
   ·unfold CJ at hX5;dsimp only at hX5 h
    obtain rfl:=hX5
    cases h;simp (maxDischargeDepth:=9) only [↓AO,AP,↓reduceIte,bj,bh]
def Mo(pL pD:Int)(pN pE:AV)(labels:AU):Option (Bool):= ck (BK pN)<| ck (labels.length<1099511627776)<| ck (UD pN=true)<| some (pN.contains (JJ labels))
def AE6:SC:= .seq (.ops [oX 2 (.box 34 (tK 0)) 0,oX 4 BR 4]) (.seq (.ops [oF 5 34 2 2,oL 6 22 5 22,oM 7 1 26,oC 8 117 [(tK 6),(tK 7)] [22,26] 4,oA 4 8 4]) .ret)
theorem A7b:Tryz.f119.body.map (BQ lends)=some AE6:=by kernel_rfl
theorem ALW:BV Tryz.f119 2=true:=by kernel_rfl
theorem ARt{a l:List D}{r:D×List D}(h:BU Y.env AE6 (fin Ai l.length [bt 4] r) (entry a l))(ha:a.length=2):Y.call 119 a l=some r:=
 AY (Y:=Y) rfl Tryz.func119 (ha▸ALW) A7b h
theorem VC(pL pD:Int)(pN pE:AV)(labels:AU){r:Bool}(h:Mo pL pD pN pE labels=some r):Y.call 119 [bw [bc .i64 pL,bc .i64 pD,bk 26 (AR Ba pN),bk 26 (AR Ba pE)],bk 3 (AR (bc .i64) labels)] []=some (bp r,[]):=by
 refine ARt ?_ rfl;unfold AE6;unfold Mo at h;obtain⟨e1,e2,e3,h⟩:=Om h;have c4:=NU pN labels e1 e2 e3;cases h;simp (maxDischargeDepth:=9) only [↓AO,AP,↓reduceIte,bj,bh,bx,c4]
def CX(rec_:Int→AU→Int→Int→AV→AV→Ac→AU→AU→AV→Int→Int→Option (Bool×AU))(k c0__0 c0__1:Int)(c0__2 c0__3:AV)(c0__4:Ac)(c0__5 c0__6:AU)(c0__7:AV)(c2_ c4_ qQ:Int)(t100000_0:AU):Option ((Int×AU)⊕((AU)⊕(AU))):= if qQ<c0__0 then ck (0≤c4_∧c4_.toNat<c0__7.length)<| ck (0≤k∧k.toNat<(c0__7.getD c4_.toNat be).length)<| ck (¬qQ<0)<| if(GA .and .i64 (((c0__7.getD c4_.toNat be).getD k.toNat be).fdiv (2 ^ (min qQ.toNat (bm.bits)))) 1)=1 then ck (0≤k∧k.toNat<t100000_0.length)<| (rec_ (bm.wrap (k+1)) (t100000_0.set k.toNat qQ) c0__0 c0__1 c0__2 c0__3 c0__4 c0__5 c0__6 c0__7 c2_ c4_).bind fun A4z=> if A4z.1=true then some (bl (bo A4z.2)) else some (bo (bm.wrap (qQ+1),A4z.2)) else some (bo (bm.wrap (qQ+1),t100000_0)) else some (bl (bl t100000_0))
def Dp(rec_:Int→AU→Int→Int→AV→AV→Ac→AU→AU→AV→Int→Int→Option (Bool×AU))(k c0__0 c0__1:Int)(c0__2 c0__3:AV)(c0__4:Ac)(c0__5 c0__6:AU)(c0__7:AV)(c2_ c4_:Int)(v:Int×AU):Option ((AU)⊕(AU)):=E9 (fun v=>CX rec_ k c0__0 c0__1 c0__2 c0__3 c0__4 c0__5 c0__6 c0__7 c2_ c4_ v.1 v.2) v
def Bu(rec_:Int→AU→Int→Int→AV→AV→Ac→AU→AU→AV→Int→Int→Option (Bool×AU))(k:Int)(o0_:AU)(c0__0 c0__1:Int)(c0__2 c0__3:AV)(c0__4:Ac)(c0__5 c0__6:AU)(c0__7:AV)(c2_ c4_:Int):Option (Bool×AU):=
 if k=c0__1 then
  (Mo c0__0 c0__1 c0__2 c0__3 o0_).bind fun ALX=>
  some (ALX,o0_)
 else
  if k=c2_ then
   (rec_ (bm.wrap (k+1)) o0_ c0__0 c0__1 c0__2 c0__3 c0__4 c0__5 c0__6 c0__7 c2_ c4_).bind fun A26=>
   some (A26.1,A26.2)
  else
   (Dp rec_ k c0__0 c0__1 c0__2 c0__3 c0__4 c0__5 c0__6 c0__7 c2_ c4_ (0,o0_)).bind fun AX=>
   match AX with
   | .inl q1000_=>
    some (true,q1000_)
   | .inr q1000_=>
    some (false,q1000_)
def BN:Nat→Int→AU→Int→Int→AV→AV→Ac→AU→AU→AV→Int→Int→Option (Bool×AU) |0=>fun _ _ _ _ _ _ _ _ _ _ _ _=>none |n+1=>fun k o0_ c0__0 c0__1 c0__2 c0__3 c0__4 c0__5 c0__6 c0__7 c2_ c4_=>Bu (BN n) k o0_ c0__0 c0__1 c0__2 c0__3 c0__4 c0__5 c0__6 c0__7 c2_ c4_
def Hy(k:Int)(o0_:AU)(c0__0 c0__1:Int)(c0__2 c0__3:AV)(c0__4:Ac)(c0__5 c0__6:AU)(c0__7:AV)(c2_ c4_:Int):Option (Bool×AU):=BN 1000000 k o0_ c0__0 c0__1 c0__2 c0__3 c0__4 c0__5 c0__6 c0__7 c2_ c4_
abbrev XW:List Nat:=[39,40,41,42,43,44,45,46,47,48,49,50,51,52]
def gG:SC:= .seq (.ops [oB 37 .lss 3 (tK 36) (tK 35) 3 4]) (.seq (.cond (tK 37) .skip (.exit 1)) (.seq (.block 2 (.seq (.ops [oM 38 36 3,oA 8 38 3]) (.seq (.draws [(⟨[39,1,1],XW,[39]⟩,oL 39 91 1 91),(⟨[40,39,1],XW,[40]⟩,oX 40 (.nilCheck (tK 39)) 0),(⟨[41,40,1],XW,[41]⟩,oF 41 93 40 2),(⟨[42,41,1],XW,[42]⟩,oL 42 22 41 22),(⟨[43,5,5],XW,[43]⟩,oL 43 3 5 3),(⟨[44,42,43,1,5],XW,[44]⟩,oI 44 22 42 43),(⟨[45,44,1],XW,[45]⟩,oL 45 26 44 26),(⟨[46,0,0],XW,[46]⟩,oM 46 0 3),(⟨[47,45,46,1,0],XW,[47]⟩,oI 47 26 45 46),(⟨[48,47,1],XW,[48]⟩,oL 48 3 47 3),(⟨[49,8,8],XW,[49]⟩,oM 49 8 3),(⟨[50,48,49,1,8],XW,[50]⟩,oB 50 .shr 3 (tK 48) (tK 49) 3 3),(⟨[51,50,50],XW,[51]⟩,oB 51 .and 3 (tK 50) (iK 1) 3 3),(⟨[52,51,51],XW,[52]⟩,oB 52 .eql 3 (tK 51) (iK 1) 3 4)]) (.cond (tK 52) (.seq (.ops [oL 53 26 2 26,oM 54 0 3,oM 55 8 3,oI 56 26 53 54,oS 3 56 55]) (.seq (.ops [oL 57 105 4 105,oM 58 0 3,oB 59 .add 3 (tK 58) (iK 1) 3 3,oX 60 (.call ⟨(.value (tK 57)), #[(tK 59)], #[3]⟩) 4]) (.cond (tK 60) (.seq (.ops [oX 7 (.assign Ck) 4]) .ret) .skip))) .skip)))) (.ops [oB 61 .add 3 (tK 36) (iK 1) 3 3,oM 36 61 3])))
def A0W:SC:= .loop gG
abbrev zS:List Nat:=[17,18,19,20,21,22,7,22,22]
def AE7:SC:= .seq (.ops [oX 7 BR 4]) (.seq (.block 0 (.seq (.ops [oM 10 0 3,oL 11 91 1 91,oX 12 (.nilCheck (tK 11)) 0,oF 13 93 12 0,oF 14 34 13 1,oL 15 3 14 3,oB 16 .eql 3 (tK 10) (tK 15) 3 4,oA 9 16 4]) (.cond (tK 9) (.seq (.draws [(⟨[17,1,1],zS,[17]⟩,oL 17 91 1 91),(⟨[18,17,1],zS,[18]⟩,oX 18 (.nilCheck (tK 17)) 0),(⟨[19,18,1],zS,[19]⟩,oF 19 93 18 0),(⟨[20,19,1],zS,[20]⟩,oL 20 34 19 34),(⟨[21,2,2],zS,[21]⟩,oL 21 26 2 26),(⟨[22,20,21,1,2],zS,[22]⟩,oC 22 119 [(tK 20),(tK 21)] [34,26] 4),(⟨[7,22,22],zS,[7,22,22]⟩,oA 7 22 4)]) .ret) (.seq (.ops [oM 24 0 3,oL 25 3 3 3,oB 26 .eql 3 (tK 24) (tK 25) 3 4,oA 23 26 4]) (.cond (tK 23) (.seq (.ops [oL 27 105 4 105,oM 28 0 3,oB 29 .add 3 (tK 28) (iK 1) 3 3,oX 30 (.call ⟨(.value (tK 27)), #[(tK 29)], #[3]⟩) 4,oA 7 30 4]) .ret) .skip))))) (.seq (.seq (.ops [oL 31 91 1 91,oX 32 (.nilCheck (tK 31)) 0,oF 33 93 32 0,oF 34 34 33 0,oL 35 3 34 3,oX 36 (.move (iK 0)) 3]) (.block 1 A0W)) (.seq (.ops [oX 7 BR 4]) .ret)))
theorem A7c:Tryz.f130.body.map (BQ lends)=some AE7:=by kernel_rfl
theorem ALY:BV Tryz.f130 6=true:=by kernel_rfl
theorem ARu{a l:List D}{r:D×List D}(h:BU Y.env AE7 (fin Ai l.length [bt 7] r) (entry a l))(ha:a.length=6):Y.call 130 a l=some r:=
 AY (Y:=Y) rfl Tryz.func130 (ha▸ALY) A7c h
def Bb(rec_:Int→AU→Int→Int→AV→AV→Ac→AU→AU→AV→Int→Int→Option (Bool×AU))(k c0__0 c0__1:Int)(c0__2 c0__3:AV)(c0__4:Ac)(c0__5 c0__6:AU)(c0__7:AV)(c2_ c4_ qQ:Int)(t100000_0:AU)(s:St):Prop:=s.v 0=bc .i64 k∧s.v 1=b9 [b9 [bc .i64 c0__0,bc .i64 c0__1,bk 26 (AR Ba c0__2),bk 26 (AR Ba c0__3),bk 79 (AR (fun x=>bk 87 (Aj .i64 .i64 x)) c0__4),bk 3 (AR (bc .i64) c0__5),bk 3 (AR (bc .i64) c0__6),bk 26 (AR Ba c0__7)]]∧(∃w_,s.v 2=D.vw [100000] (s.k 100000) w_)∧(∃w_,s.v 4=D.ocl true 130 [b9 [b9 [bc .i64 c0__0,bc .i64 c0__1,bk 26 (AR Ba c0__2),bk 26 (AR Ba c0__3),bk 79 (AR (fun x=>bk 87 (Aj .i64 .i64 x)) c0__4),bk 3 (AR (bc .i64) c0__5),bk 3 (AR (bc .i64) c0__6),bk 26 (AR Ba c0__7)]],D.vw [100000] (s.k 100000) w_,b9 [bc .i64 c2_],D.undef,b9 [bc .i64 c4_]])∧s.v 5=b9 [bc .i64 c4_]∧s.v 35=bc .i64 c0__0∧s.v 36=bc .i64 qQ∧s.v 100000=b8 [br 3 (AR (bc .i64) t100000_0)]
def Bv(rec_:Int→AU→Int→Int→AV→AV→Ac→AU→AU→AV→Int→Int→Option (Bool×AU))(k c0__0 c0__1:Int)(c0__2 c0__3:AV)(c0__4:Ac)(c0__5 c0__6:AU)(c0__7:AV)(c2_ c4_:Int)(r:(AU)⊕(AU))(ex:Ex)(s:St):Prop:=match r with
 | .inl q=>ex= .ret∧s.v 7=bp true∧s.v 100000=b8 [br 3 (AR (bc .i64) q)]
 | .inr q=>ex= .exit 1∧s.v 100000=b8 [br 3 (AR (bc .i64) q)]
theorem OT(rec_:Int→AU→Int→Int→AV→AV→Ac→AU→AU→AV→Int→Int→Option (Bool×AU))(k c0__0 c0__1:Int)(c0__2 c0__3:AV)(c0__4:Ac)(c0__5 c0__6:AU)(c0__7:AV)(c2_ c4_:Int)(rec_h: ∀(k:Int) (o0_:AU) (c0__0 c0__1:Int) (c0__2 c0__3:AV) (c0__4:Ac) (c0__5 c0__6:AU) (c0__7:AV) (c2_ c4_:Int) (r:Bool×AU),rec_ k o0_ c0__0 c0__1 c0__2 c0__3 c0__4 c0__5 c0__6 c0__7 c2_ c4_=some r→Y.call 130 [bc .i64 k,b9 [b9 [bc .i64 c0__0,bc .i64 c0__1,bk 26 (AR Ba c0__2),bk 26 (AR Ba c0__3),bk 79 (AR (fun x=>bk 87 (Aj .i64 .i64 x)) c0__4),bk 3 (AR (bc .i64) c0__5),bk 3 (AR (bc .i64) c0__6),bk 26 (AR Ba c0__7)]],D.vw [100000] 0 0,b9 [bc .i64 c2_],D.ocl true 130 [b9 [b9 [bc .i64 c0__0,bc .i64 c0__1,bk 26 (AR Ba c0__2),bk 26 (AR Ba c0__3),bk 79 (AR (fun x=>bk 87 (Aj .i64 .i64 x)) c0__4),bk 3 (AR (bc .i64) c0__5),bk 3 (AR (bc .i64) c0__6),bk 26 (AR Ba c0__7)]],D.vw [100000] 0 0,b9 [bc .i64 c2_],D.undef,b9 [bc .i64 c4_]],b9 [bc .i64 c4_]] [b8 [br 3 (AR (bc .i64) o0_)]]=some (bp r.1,[b8 [br 3 (AR (bc .i64) r.2)]])){v:Int×AU}{s:St}{r:(AU)⊕(AU)}(h:Dp rec_ k c0__0 c0__1 c0__2 c0__3 c0__4 c0__5 c0__6 c0__7 c2_ c4_ v=some r)(hM:Bb rec_ k c0__0 c0__1 c0__2 c0__3 c0__4 c0__5 c0__6 c0__7 c2_ c4_ v.1 v.2 s):BU Y.env A0W (Bv rec_ k c0__0 c0__1 c0__2 c0__3 c0__4 c0__5 c0__6 c0__7 c2_ c4_ r) s:=by
 unfold Dp at h;refine Aw (c:=gG) (fun v=>CX rec_ k c0__0 c0__1 c0__2 c0__3 c0__4 c0__5 c0__6 c0__7 c2_ c4_ v.1 v.2) (fun v s=>Bb rec_ k c0__0 c0__1 c0__2 c0__3 c0__4 c0__5 c0__6 c0__7 c2_ c4_ v.1 v.2 s) (Bv rec_ k c0__0 c0__1 c0__2 c0__3 c0__4 c0__5 c0__6 c0__7 c2_ c4_) ?_ h hM;clear h hM s v r;intro v s o hM h;obtain⟨qQ,t100000_0⟩:=v;dsimp only at h hM;unfold CX at h;unfold Bb at hM;obtain⟨m0,m1,⟨w2_,m2⟩,⟨w3_,m3⟩,m4,m5,m6,m7⟩:=hM;unfold gG;rcases iS h with⟨e3,h⟩|⟨e3,h⟩
 ·obtain⟨e4,e5,e6,h⟩:=Om h;rcases iS h with⟨e7,h⟩|⟨e7,h⟩
  ·obtain⟨e8,h⟩:=De h;obtain⟨A4z,hl9,h⟩:=Ag h;have c9:=rec_h _ _ _ _ _ _ _ _ _ _ _ _ _ hl9;rcases iS h with⟨e10,h⟩|⟨e10,h⟩
   ·cases h;simp (maxDischargeDepth:=9) only [↓AO,AP,↓reduceIte,bj,bh,bx,m0,m1,m2,m3,m4,m5,m6,m7,e3,e4.1,e4.2,e5.1,e5.2,e6,decide_eq_true e7,e8.2,c9,e10,Bb,Bv,OC]
   ·have e10f:A4z.1=false:=Es.mpr e10;cases h;simp (maxDischargeDepth:=9) only [↓AO,AP,↓reduceIte,bj,bh,bx,m0,m1,m2,m3,m4,m5,m6,m7,e3,e4.1,e4.2,e5.1,e5.2,e6,decide_eq_true e7,e8.2,c9,e10f,Bb,D6]<;>(repeat' apply A7)<;>first|rfl|exact⟨_,rfl⟩|exact⟨_,_,rfl⟩|simp [AR,Ay]
  ·cases h;simp (maxDischargeDepth:=9) only [↓AO,AP,↓reduceIte,bj,bh,m0,m1,m2,m3,m4,m5,m6,m7,e3,e4.1,e4.2,e5.1,e5.2,e6,e7,Bb,D6]<;>(repeat' apply A7)<;>first|rfl|exact⟨_,rfl⟩|exact⟨_,_,rfl⟩|simp [AR,Ay]
 ·cases h;simp (maxDischargeDepth:=9) only [↓AO,AP,↓reduceIte,bj,bh,m5,m6,m7,e3,Bb,Bv,GH]
theorem Nf(rec_:Int→AU→Int→Int→AV→AV→Ac→AU→AU→AV→Int→Int→Option (Bool×AU))(k:Int)(o0_:AU)(c0__0 c0__1:Int)(c0__2 c0__3:AV)(c0__4:Ac)(c0__5 c0__6:AU)(c0__7:AV)(c2_ c4_:Int)(rec_h: ∀(k:Int) (o0_:AU) (c0__0 c0__1:Int) (c0__2 c0__3:AV) (c0__4:Ac) (c0__5 c0__6:AU) (c0__7:AV) (c2_ c4_:Int) (r:Bool×AU),rec_ k o0_ c0__0 c0__1 c0__2 c0__3 c0__4 c0__5 c0__6 c0__7 c2_ c4_=some r→Y.call 130 [bc .i64 k,b9 [b9 [bc .i64 c0__0,bc .i64 c0__1,bk 26 (AR Ba c0__2),bk 26 (AR Ba c0__3),bk 79 (AR (fun x=>bk 87 (Aj .i64 .i64 x)) c0__4),bk 3 (AR (bc .i64) c0__5),bk 3 (AR (bc .i64) c0__6),bk 26 (AR Ba c0__7)]],D.vw [100000] 0 0,b9 [bc .i64 c2_],D.ocl true 130 [b9 [b9 [bc .i64 c0__0,bc .i64 c0__1,bk 26 (AR Ba c0__2),bk 26 (AR Ba c0__3),bk 79 (AR (fun x=>bk 87 (Aj .i64 .i64 x)) c0__4),bk 3 (AR (bc .i64) c0__5),bk 3 (AR (bc .i64) c0__6),bk 26 (AR Ba c0__7)]],D.vw [100000] 0 0,b9 [bc .i64 c2_],D.undef,b9 [bc .i64 c4_]],b9 [bc .i64 c4_]] [b8 [br 3 (AR (bc .i64) o0_)]]=some (bp r.1,[b8 [br 3 (AR (bc .i64) r.2)]])){r:Bool×AU}(h:Bu rec_ k o0_ c0__0 c0__1 c0__2 c0__3 c0__4 c0__5 c0__6 c0__7 c2_ c4_=some r):Y.call 130 [bc .i64 k,b9 [b9 [bc .i64 c0__0,bc .i64 c0__1,bk 26 (AR Ba c0__2),bk 26 (AR Ba c0__3),bk 79 (AR (fun x=>bk 87 (Aj .i64 .i64 x)) c0__4),bk 3 (AR (bc .i64) c0__5),bk 3 (AR (bc .i64) c0__6),bk 26 (AR Ba c0__7)]],D.vw [100000] 0 0,b9 [bc .i64 c2_],D.ocl true 130 [b9 [b9 [bc .i64 c0__0,bc .i64 c0__1,bk 26 (AR Ba c0__2),bk 26 (AR Ba c0__3),bk 79 (AR (fun x=>bk 87 (Aj .i64 .i64 x)) c0__4),bk 3 (AR (bc .i64) c0__5),bk 3 (AR (bc .i64) c0__6),bk 26 (AR Ba c0__7)]],D.vw [100000] 0 0,b9 [bc .i64 c2_],D.undef,b9 [bc .i64 c4_]],b9 [bc .i64 c4_]] [b8 [br 3 (AR (bc .i64) o0_)]]=some (bp r.1,[b8 [br 3 (AR (bc .i64) r.2)]]):=by
 refine ARu ?_ rfl;unfold AE7;unfold Bu at h;rcases iS h with⟨e1,h⟩|⟨e1,h⟩
 ·obtain⟨ALX,hl2,h⟩:=Ag h;try dsimp only at h
  have c2:=VC c0__0 c0__1 c0__2 c0__3 o0_ hl2;cases h;simp (maxDischargeDepth:=9) only [↓AO,AP,↓reduceIte,bj,bh,b5,bx,cb,ca,decide_eq_true e1,c2]
 ·rcases iS h with⟨e2,h⟩|⟨e2,h⟩
  ·obtain⟨A26,hl3,h⟩:=Ag h;try dsimp only at h
   have c3:=rec_h _ _ _ _ _ _ _ _ _ _ _ _ _ hl3;cases h;simp (maxDischargeDepth:=9) only [↓AO,AP,↓reduceIte,bj,bh,bx,cb,e1,decide_eq_true e2,c3]
  ·obtain⟨AX,hl4,h⟩:=Ag h;try dsimp only at h
   simp (maxDischargeDepth:=9) only [↓AO,AP,↓reduceIte,bj,bh,bx,e1,e2];refine Ak (OT rec_ k c0__0 c0__1 c0__2 c0__3 c0__4 c0__5 c0__6 c0__7 c2_ c4_ rec_h hl4 ?_) ?_
   ·simp (maxDischargeDepth:=9) only [BL,Cv,↓reduceIte,bj,bh,cb,Bb]<;>(repeat' apply A7)<;>first|rfl|exact⟨_,rfl⟩|exact⟨_,_,rfl⟩|simp [AR,Ay]
   ·intro ex4 s4 hX4;rcases AX with q1000_|q1000_
    ·unfold Bv at hX4;dsimp only at hX4 h;obtain⟨rfl,n4_0,n4_1⟩:=hX4;cases h;simp (maxDischargeDepth:=9) only [↓AO,AP,↓reduceIte,n4_0,n4_1]
    ·unfold Bv at hX4;dsimp only at hX4 h;obtain⟨rfl,n4_0⟩:=hX4;cases h;simp (maxDischargeDepth:=9) only [↓AO,AP,↓reduceIte,bj,bh,n4_0]
theorem Ng(n:Nat): ∀(k:Int) (o0_:AU) (c0__0:Int) (c0__1:Int) (c0__2:AV) (c0__3:AV) (c0__4:Ac) (c0__5:AU) (c0__6:AU) (c0__7:AV) (c2_:Int) (c4_:Int) (r:Bool×AU),BN n k o0_ c0__0 c0__1 c0__2 c0__3 c0__4 c0__5 c0__6 c0__7 c2_ c4_=some r→Y.call 130 [bc .i64 k,b9 [b9 [bc .i64 c0__0,bc .i64 c0__1,bk 26 (AR Ba c0__2),bk 26 (AR Ba c0__3),bk 79 (AR (fun x=>bk 87 (Aj .i64 .i64 x)) c0__4),bk 3 (AR (bc .i64) c0__5),bk 3 (AR (bc .i64) c0__6),bk 26 (AR Ba c0__7)]],D.vw [100000] 0 0,b9 [bc .i64 c2_],D.ocl true 130 [b9 [b9 [bc .i64 c0__0,bc .i64 c0__1,bk 26 (AR Ba c0__2),bk 26 (AR Ba c0__3),bk 79 (AR (fun x=>bk 87 (Aj .i64 .i64 x)) c0__4),bk 3 (AR (bc .i64) c0__5),bk 3 (AR (bc .i64) c0__6),bk 26 (AR Ba c0__7)]],D.vw [100000] 0 0,b9 [bc .i64 c2_],D.undef,b9 [bc .i64 c4_]],b9 [bc .i64 c4_]] [b8 [br 3 (AR (bc .i64) o0_)]]=some (bp r.1,[b8 [br 3 (AR (bc .i64) r.2)]]):=by
 induction n with
 |zero=>intro k o0_ c0__0 c0__1 c0__2 c0__3 c0__4 c0__5 c0__6 c0__7 c2_ c4_ r h;exact absurd h (by rw [BN];exact fun e=>by cases e)
 |succ n ih=>intro k o0_ c0__0 c0__1 c0__2 c0__3 c0__4 c0__5 c0__6 c0__7 c2_ c4_ r h;rw [BN]at h;exact Nf (BN n) k o0_ c0__0 c0__1 c0__2 c0__3 c0__4 c0__5 c0__6 c0__7 c2_ c4_ ih h
theorem Oc(k:Int)(o0_:AU)(c0__0 c0__1:Int)(c0__2 c0__3:AV)(c0__4:Ac)(c0__5 c0__6:AU)(c0__7:AV)(c2_ c4_:Int){r:Bool×AU}(h:Hy k o0_ c0__0 c0__1 c0__2 c0__3 c0__4 c0__5 c0__6 c0__7 c2_ c4_=some r):Y.call 130 [bc .i64 k,b9 [b9 [bc .i64 c0__0,bc .i64 c0__1,bk 26 (AR Ba c0__2),bk 26 (AR Ba c0__3),bk 79 (AR (fun x=>bk 87 (Aj .i64 .i64 x)) c0__4),bk 3 (AR (bc .i64) c0__5),bk 3 (AR (bc .i64) c0__6),bk 26 (AR Ba c0__7)]],D.vw [100000] 0 0,b9 [bc .i64 c2_],D.ocl true 130 [b9 [b9 [bc .i64 c0__0,bc .i64 c0__1,bk 26 (AR Ba c0__2),bk 26 (AR Ba c0__3),bk 79 (AR (fun x=>bk 87 (Aj .i64 .i64 x)) c0__4),bk 3 (AR (bc .i64) c0__5),bk 3 (AR (bc .i64) c0__6),bk 26 (AR Ba c0__7)]],D.vw [100000] 0 0,b9 [bc .i64 c2_],D.undef,b9 [bc .i64 c4_]],b9 [bc .i64 c4_]] [b8 [br 3 (AR (bc .i64) o0_)]]=some (bp r.1,[b8 [br 3 (AR (bc .i64) r.2)]]):=Ng 1000000 k o0_ c0__0 c0__1 c0__2 c0__3 c0__4 c0__5 c0__6 c0__7 c2_ c4_ r h
def EB(m_0 m_1:Int)(m_2 m_3:AV)(m_4:Ac)(m_5 m_6:AU)(m_7:AV)(v_ i a:Int):Option (Bool):= (gRp [(-1)] m_1).bind fun zT=> ck (0≤i∧i.toNat<zT.length)<| (Hy (0:Int) (zT.set i.toNat a) m_0 m_1 m_2 m_3 m_4 m_5 m_6 m_7 i v_).bind fun Q8=> some Q8.1
def AE8:SC:= .seq (.ops [oX 4 (.box 91 (tK 0)) 0,oX 5 (.box 3 (tK 1)) 0,oX 6 (.box 3 (tK 2)) 0,oX 8 BR 4]) (.seq (.ops [oX 11 A78 26,oL 12 91 4 91,oX 13 (.nilCheck (tK 12)) 0,oF 14 93 13 0,oF 15 34 14 1,oL 16 3 15 3,oC 17 81 [(tK 11),(tK 16)] [26,3] 26,oX 9 (.alloc 26) 0,oS 26 9 17]) (.seq (.ops [oL 18 26 9 26,oL 19 3 6 3,oM 20 3 3,oI 21 26 18 19,oS 3 21 20]) (.seq (.ops [oX 10 (.alloc 105) 0]) (.seq (.ops [oX 22 (.makeFunc (Fn.func 130) #[] #[(tK 4),(tK 9),(tK 6),(tK 10),(tK 5)]) 3000010,⟨none,(.store 105 (tK 10) (tK 22)),900010,none⟩]) (.seq (.ops [oL 23 105 10 105,oX 24 (.call ⟨(.value (tK 23)), #[(iK 0)], #[3]⟩) 4,oA 8 24 4]) .ret)))))
theorem A7d:Tryz.f106.body.map (BQ lends)=some AE8:=by kernel_rfl
theorem ALZ:BV Tryz.f106 4=true:=by kernel_rfl
theorem ARv{a l:List D}{r:D×List D}(h:BU Y.env AE8 (fin Ai l.length [bt 8] r) (entry a l))(ha:a.length=4):Y.call 106 a l=some r:=
 AY (Y:=Y) rfl Tryz.func106 (ha▸ALZ) A7d h
theorem Q9(m_0 m_1:Int)(m_2 m_3:AV)(m_4:Ac)(m_5 m_6:AU)(m_7:AV)(v_ i a:Int){r:Bool}(h:EB m_0 m_1 m_2 m_3 m_4 m_5 m_6 m_7 v_ i a=some r):Y.call 106 [b9 [bc .i64 m_0,bc .i64 m_1,bk 26 (AR Ba m_2),bk 26 (AR Ba m_3),bk 79 (AR (fun x=>bk 87 (Aj .i64 .i64 x)) m_4),bk 3 (AR (bc .i64) m_5),bk 3 (AR (bc .i64) m_6),bk 26 (AR Ba m_7)],bc .i64 v_,bc .i64 i,bc .i64 a] []=some (bp r,[]):=by
 refine ARv ?_ rfl;unfold AE8;unfold EB at h;obtain⟨zT,hl1,h⟩:=Ag h;try dsimp only at h
 have c1:=XT [(-1)] m_1 hl1;simp only [JF,Um]at c1;obtain⟨e2,h⟩:=De h;obtain⟨Q8,hl3,h⟩:=Ag h;try dsimp only at h
 have c3:=Oc (0:Int) (zT.set i.toNat a) m_0 m_1 m_2 m_3 m_4 m_5 m_6 m_7 i v_ hl3;cases h;simp (maxDischargeDepth:=9) only [↓AO,AP,↓reduceIte,bj,bh,b5,bx,Nat.reduceMod,Nat.reduceDiv,Nat.reducePow,cb,Int.reduceNeg,c1,e2.1,e2.2,c3]
def DK(t0_0 t0_1:Int)(t0_2 t0_3:AV)(t0_4:Ac)(t0_5 t0_6:AU)(t0_7:AV)(Bd:Int)(t100000_7:AV)(Cf:Int)(t3_2:Bool)(UJ:Int)(t100000_72:AV):Option ((Bool×Int×AV)⊕(Bool×AV)):= if UJ<t0_0 then ck (0≤Bd∧Bd.toNat<t100000_72.length)<| ck (0≤Cf∧Cf.toNat<(t100000_72.getD Bd.toNat be).length)<| ck (¬UJ<0)<| if(GA .and .i64 (((t100000_72.getD Bd.toNat be).getD Cf.toNat be).fdiv (2 ^ (min UJ.toNat (bm.bits)))) 1)=0 then some (bo (t3_2,bm.wrap (UJ+1),t100000_72)) else (EA t0_0 t0_1 t0_2 t0_3 t0_4 t0_5 t0_6 t100000_72 Bd Cf UJ).bind fun gH=> if gH=true then if((t100000_72.getD Bd.toNat be).length:Int)=t0_1 then (EB t0_0 t0_1 t0_2 t0_3 t0_4 t0_5 t0_6 t100000_72 Bd Cf UJ).bind fun AE9=> if AE9=true then some (bo (t3_2,bm.wrap (UJ+1),t100000_72)) else some (bo (true,bm.wrap (UJ+1),(t100000_72.set Bd.toNat ((t100000_72.getD Bd.toNat be).set Cf.toNat (GA .andNot .i64 ((t100000_72.getD Bd.toNat be).getD Cf.toNat be) (bm.wrap (1*2 ^ (min UJ.toNat (bm.bits))))))))) else some (bo (t3_2,bm.wrap (UJ+1),t100000_72)) else some (bo (true,bm.wrap (UJ+1),(t100000_72.set Bd.toNat ((t100000_72.getD Bd.toNat be).set Cf.toNat (GA .andNot .i64 ((t100000_72.getD Bd.toNat be).getD Cf.toNat be) (bm.wrap (1*2 ^ (min UJ.toNat (bm.bits)))))))))
 else some (bl (t3_2,t100000_72))
def Iz(t0_0 t0_1:Int)(t0_2 t0_3:AV)(t0_4:Ac)(t0_5 t0_6:AU)(t0_7:AV)(Bd:Int)(t100000_7:AV)(Cf:Int)(v:Bool×Int×AV):Option (Bool×AV):=E9 (fun v=>DK t0_0 t0_1 t0_2 t0_3 t0_4 t0_5 t0_6 t0_7 Bd t100000_7 Cf v.1 v.2.1 v.2.2) v
def DL(t0_0 t0_1:Int)(t0_2 t0_3:AV)(t0_4:Ac)(t0_5 t0_6:AU)(t0_7:AV)(Bd:Int)(t100000_7:AV)(t3_1:Bool)(Cf:Int)(t100000_71:AV):Option ((Bool×Int×AV)⊕(Bool×AV)):= if Cf<((t100000_7.getD Bd.toNat be).length:Int)then (Iz t0_0 t0_1 t0_2 t0_3 t0_4 t0_5 t0_6 t0_7 Bd t100000_7 Cf (t3_1,0,t100000_71)).bind fun AX=> some (bo (AX.1,bm.wrap (Cf+1),AX.2)) else some (bl (t3_1,t100000_71))
def J2(t0_0 t0_1:Int)(t0_2 t0_3:AV)(t0_4:Ac)(t0_5 t0_6:AU)(t0_7:AV)(Bd:Int)(t100000_7:AV)(v:Bool×Int×AV):Option (Bool×AV):=E9 (fun v=>DL t0_0 t0_1 t0_2 t0_3 t0_4 t0_5 t0_6 t0_7 Bd t100000_7 v.1 v.2.1 v.2.2) v
def DN(t0_0 t0_1:Int)(t0_2 t0_3:AV)(t0_4:Ac)(t0_5 t0_6:AU)(t0_7:AV)(Gu:Bool)(Bd:Int)(t100000_7:AV):Option ((Bool×Int×AV)⊕(Bool×AV)):= if Bd<(t0_7.length:Int)then ck (0≤Bd∧Bd.toNat<t100000_7.length)<| (J2 t0_0 t0_1 t0_2 t0_3 t0_4 t0_5 t0_6 t0_7 Bd t100000_7 (Gu,0,t100000_7)).bind fun Ap=> some (bo (Ap.1,bm.wrap (Bd+1),Ap.2)) else some (bl (Gu,t100000_7))
def J3(t0_0 t0_1:Int)(t0_2 t0_3:AV)(t0_4:Ac)(t0_5 t0_6:AU)(t0_7:AV)(v:Bool×Int×AV):Option (Bool×AV):=E9 (fun v=>DN t0_0 t0_1 t0_2 t0_3 t0_4 t0_5 t0_6 t0_7 v.1 v.2.1 v.2.2) v
def JM(t0_0 t0_1:Int)(t0_2 t0_3:AV)(t0_4:Ac)(t0_5 t0_6:AU)(t0_7:AV):Option (Bool×Int×Int×AV×AV×Ac×AU×AU×AV):= (J3 t0_0 t0_1 t0_2 t0_3 t0_4 t0_5 t0_6 t0_7 (false,0,t0_7)).bind fun BP=> some (BP.1,t0_0,t0_1,t0_2,t0_3,t0_4,t0_5,t0_6,BP.2)
abbrev MP:List Nat:=[48,49,50,51,52,53,54,55,56,57,58,59,60,61,62,63,64,65,66,67,68,69,70,71,72,73,74,75,76,77]
abbrev Vv:List Nat:=[78,79,80,81,82,83,84,85,86,87,88,89,90,91,100000,100001,100002,100003,100004,100005,100006,100007,91,90,0,90]
def qR:SC:= .seq (.ops [oB 32 .lss 3 (tK 31) (tK 30) 3 4]) (.seq (.cond (tK 32) .skip (.exit 4)) (.seq (.block 5 (.seq (.ops [oM 33 31 3,oA 6 33 3]) (.seq (.seq (.ops [oM 34 0 91,oX 35 (.nilCheck (tK 34)) 0,oF 36 93 35 2,oL 37 22 36 22,oM 38 4 3,oI 39 22 37 38,oL 40 26 39 26,oM 41 5 3,oI 42 26 40 41,oL 43 3 42 3,oM 44 6 3,oB 45 .shr 3 (tK 43) (tK 44) 3 3,oB 46 .and 3 (tK 45) (iK 1) 3 3,oB 47 .eql 3 (tK 46) (iK 0) 3 4]) (.cond (tK 47) (.exit 5) .skip)) (.seq (.draws [(⟨[48,0,0],MP,[48]⟩,oM 48 0 91),(⟨[49,4,4],MP,[49]⟩,oM 49 4 3),(⟨[50,5,5],MP,[50]⟩,oM 50 5 3),(⟨[51,6,6],MP,[51]⟩,oM 51 6 3),(⟨[52,48,49,50,51,0,4,5,6],MP,[52]⟩,oC 52 105 [(tK 48),(tK 49),(tK 50),(tK 51)] [91,3,3,3] 4),(⟨[53,52,52],MP,[53]⟩,oX 53 (.unOp .not 4 (tK 52)) 4),(⟨[54,53,53],MP,[54]⟩,oM 54 53 4),(⟨[55,0,0,54],MP,[55]⟩,⟨some 55,.move (tK 0),91,(some (some 54,false))⟩),(⟨[56,55,0,54],MP,[56]⟩,⟨some 56,.nilCheck (tK 55),0,(some (some 54,false))⟩),(⟨[57,56,0,54],MP,[57]⟩,⟨some 57,.fieldAddr 93 (tK 56) 2,0,(some (some 54,false))⟩),(⟨[58,57,0,54],MP,[58]⟩,⟨some 58,.load 22 (tK 57),22,(some (some 54,false))⟩),(⟨[59,4,4,54],MP,[59]⟩,⟨some 59,.move (tK 4),3,(some (some 54,false))⟩),(⟨[60,58,59,0,4,54],MP,[60]⟩,⟨some 60,.indexAddr 22 (tK 58) (tK 59),0,(some (some 54,false))⟩),
 (⟨[61,60,0,54],MP,[61]⟩,⟨some 61,.load 26 (tK 60),26,(some (some 54,false))⟩),(⟨[62,61,0,54],MP,[62]⟩,⟨some 62,.call ⟨(.builtin .len), #[(tK 61)], #[26]⟩,3,(some (some 54,false))⟩),(⟨[63,0,0,54],MP,[63]⟩,⟨some 63,.move (tK 0),91,(some (some 54,false))⟩),(⟨[64,63,0,54],MP,[64]⟩,⟨some 64,.nilCheck (tK 63),0,(some (some 54,false))⟩),(⟨[65,64,0,54],MP,[65]⟩,⟨some 65,.fieldAddr 93 (tK 64) 0,0,(some (some 54,false))⟩),(⟨[66,65,0,54],MP,[66]⟩,⟨some 66,.fieldAddr 34 (tK 65) 1,0,(some (some 54,false))⟩),(⟨[67,66,0,54],MP,[67]⟩,⟨some 67,.load 3 (tK 66),3,(some (some 54,false))⟩),(⟨[68,62,67,62,0,54],MP,[68]⟩,⟨some 68,.binOp .eql 3 (tK 62) (tK 67) 3,4,(some (some 54,false))⟩),(⟨[69,68,68,54],MP,[69]⟩,⟨some 69,.move (tK 68),4,(some (some 54,false))⟩),(⟨[70,0,0,69],MP,[70]⟩,⟨some 70,.move (tK 0),91,(some (some 69,true))⟩),(⟨[71,4,4,69],MP,[71]⟩,⟨some 71,.move (tK 4),3,(some (some 69,true))⟩),(⟨[72,5,5,69],MP,[72]⟩,⟨some 72,.move (tK 5),3,(some (some 69,true))⟩),(⟨[73,6,6,69],MP,[73]⟩,⟨some 73,.move (tK 6),3,(some (some 69,true))⟩),(⟨[74,70,71,72,73,0,4,5,6,69],MP,[74]⟩,⟨some 74,.call ⟨(.value (.func 106)), #[(tK 70),(tK 71),(tK 72),(tK 73)], #[91,3,3,3]⟩,4,(some (some 69,true))⟩),
 (⟨[75,74,74,69],MP,[75]⟩,⟨some 75,.unOp .not 4 (tK 74),4,(some (some 69,true))⟩),(⟨[76,69,75,68,75,54],MP,[76]⟩,⟨some 76,.pick (tK 69) (tK 75) Lm,4,(some (some 54,false))⟩),(⟨[77,54,76,53,76],MP,[77]⟩,oX 77 (.pick (tK 54) Ck (tK 76)) 4)]) (.cond (tK 77) (.seq (.draws [(⟨[78,0,0],Vv,[78]⟩,oM 78 0 91),(⟨[100000,100001,100002,100003,100004,100005,100006,100007,79,78,0],Vv,[79]⟩,oX 79 (.nilCheck (tK 78)) 0),(⟨[100000,100001,100002,100003,100004,100005,100006,100007,80,79,0],Vv,[80]⟩,oF 80 93 79 2),(⟨[100000,100001,100002,100003,100004,100005,100006,100007,81,80,0],Vv,[81]⟩,oL 81 22 80 22),(⟨[82,4,4],Vv,[82]⟩,oM 82 4 3),(⟨[100000,100001,100002,100003,100004,100005,100006,100007,83,81,82,0,4],Vv,[83]⟩,oI 83 22 81 82),(⟨[100000,100001,100002,100003,100004,100005,100006,100007,84,83,0],Vv,[84]⟩,oL 84 26 83 26),(⟨[85,5,5],Vv,[85]⟩,oM 85 5 3),(⟨[100000,100001,100002,100003,100004,100005,100006,100007,86,84,85,0,5],Vv,[86]⟩,oI 86 26 84 85),(⟨[100000,100001,100002,100003,100004,100005,100006,100007,87,86,0],Vv,[87]⟩,oL 87 3 86 3),(⟨[88,6,6],Vv,[88]⟩,oM 88 6 3),(⟨[89,88,6],Vv,[89]⟩,oB 89 .shl 3 (iK 1) (tK 88) 3 3),(⟨[90,87,89,0,89],Vv,[90]⟩,oB 90 .andNot 3 (tK 87) (tK 89) 3 3),(⟨[100000,100001,100002,100003,100004,100005,100006,100007,91,84,85,0,5],Vv,[91]⟩,oI 91 26 84 85),
 (⟨[100000,100001,100002,100003,100004,100005,100006,100007,91,90,0,90],Vv,[100000,100001,100002,100003,100004,100005,100006,100007,91,90,0,90]⟩,oS 3 91 90)]) (.ops [oX 3 (.assign Ck) 4])) .skip))))) (.ops [oB 92 .add 3 (tK 31) (iK 1) 3 3,oM 31 92 3])))
def A50:SC:= .loop qR
def qU:SC:= .seq (.ops [oB 24 .lss 3 (tK 23) (tK 22) 3 0]) (.seq (.cond (tK 24) .skip (.exit 2)) (.seq (.block 3 (.seq (.ops [oM 25 23 3,oA 5 25 3]) (.seq (.ops [oM 26 0 91,oX 27 (.nilCheck (tK 26)) 0,oF 28 93 27 0,oF 29 34 28 0,oL 30 3 29 3,oX 31 (.move (iK 0)) 3]) (.block 4 A50)))) (.ops [oB 93 .add 3 (tK 23) (iK 1) 3 3,oM 23 93 3])))
def A51:SC:= .loop qU
def qV:SC:= .seq (.ops [oB 13 .lss 3 (tK 12) (tK 11) 3 0]) (.seq (.cond (tK 13) .skip (.exit 0)) (.seq (.block 1 (.seq (.ops [oM 14 12 3,oA 4 14 3]) (.seq (.ops [oM 15 0 91,oX 16 (.nilCheck (tK 15)) 0,oF 17 93 16 2,oL 18 22 17 22,oM 19 4 3,oI 20 22 18 19,oL 21 26 20 26,oN 22 21 26,oX 23 (.move (iK 0)) 3]) (.block 2 A51)))) (.ops [oB 94 .add 3 (tK 12) (iK 1) 3 3,oM 12 94 3])))
def A52:SC:= .loop qV
def k73:SC:= .seq (.ops [oX 2 BR 4]) (.seq (.ops [oX 3 BR 4]) (.seq (.seq (.ops [oM 7 0 91,oX 8 (.nilCheck (tK 7)) 0,oF 9 93 8 2,oL 10 22 9 22,oN 11 10 22,oX 12 (.move (iK 0)) 3]) (.block 0 A52)) (.seq (.ops [oM 95 3 4,oA 2 95 4]) .ret)))
theorem AEA:Tryz.f73.body.map (BQ lends)=some k73:=by kernel_rfl
theorem ARx:BV Tryz.f73 1=true:=by kernel_rfl
theorem c73{a l:List D}{r:D×List D}(h:BU Y.env k73 (fin Ai l.length [bt 2] r) (entry a l))(ha:a.length=1):Y.call 73 a l=some r:=
 AY (Y:=Y) rfl Tryz.func73 (ha▸ARx) AEA h
def Bq(t0_0 t0_1:Int)(t0_2 t0_3:AV)(t0_4:Ac)(t0_5 t0_6:AU)(t0_7:AV)(Bd:Int)(t100000_7:AV)(Cf:Int)(t3_2:Bool)(UJ:Int)(t100000_72:AV)(s:St):Prop:=(∃w_,s.v 0=D.vw [100000] (s.k 100000) w_)∧s.v 3=bp t3_2∧s.v 4=bc .i64 Bd∧s.v 5=bc .i64 Cf∧s.v 11=bc .i64 (t0_7.length:Int)∧s.v 12=bc .i64 Bd∧s.v 22=bc .i64 ((t100000_7.getD Bd.toNat be).length:Int)∧s.v 23=bc .i64 Cf∧s.v 30=bc .i64 t0_0∧s.v 31=bc .i64 UJ∧s.v 100000=b8 [bc .i64 t0_0,bc .i64 t0_1,bk 26 (AR Ba t0_2),bk 26 (AR Ba t0_3),bk 79 (AR (fun x=>bk 87 (Aj .i64 .i64 x)) t0_4),bk 3 (AR (bc .i64) t0_5),bk 3 (AR (bc .i64) t0_6),br 26 (AR Ew t100000_72)]
def GR(t0_0 t0_1:Int)(t0_2 t0_3:AV)(t0_4:Ac)(t0_5 t0_6:AU)(t0_7:AV)(Bd:Int)(t100000_7:AV)(Cf:Int)(r:Bool×AV)(ex:Ex)(s:St):Prop:=ex= .exit 4∧(∃w_,s.v 0=D.vw [100000] (s.k 100000) w_)∧s.v 3=bp r.1∧s.v 4=bc .i64 Bd∧s.v 11=bc .i64 (t0_7.length:Int)∧s.v 12=bc .i64 Bd∧s.v 22=bc .i64 ((t100000_7.getD Bd.toNat be).length:Int)∧s.v 23=bc .i64 Cf∧s.v 100000=b8 [bc .i64 t0_0,bc .i64 t0_1,bk 26 (AR Ba t0_2),bk 26 (AR Ba t0_3),bk 79 (AR (fun x=>bk 87 (Aj .i64 .i64 x)) t0_4),bk 3 (AR (bc .i64) t0_5),bk 3 (AR (bc .i64) t0_6),br 26 (AR Ew r.2)]
theorem TI(t0_0 t0_1:Int)(t0_2 t0_3:AV)(t0_4:Ac)(t0_5 t0_6:AU)(t0_7:AV)(Bd:Int)(t100000_7:AV)(Cf:Int){v:Bool×Int×AV}{s:St}{r:Bool×AV}(h:Iz t0_0 t0_1 t0_2 t0_3 t0_4 t0_5 t0_6 t0_7 Bd t100000_7 Cf v=some r)(hM:Bq t0_0 t0_1 t0_2 t0_3 t0_4 t0_5 t0_6 t0_7 Bd t100000_7 Cf v.1 v.2.1 v.2.2 s):BU Y.env A50 (GR t0_0 t0_1 t0_2 t0_3 t0_4 t0_5 t0_6 t0_7 Bd t100000_7 Cf r) s:=by
 unfold Iz at h;refine Aw (c:=qR) (fun v=>DK t0_0 t0_1 t0_2 t0_3 t0_4 t0_5 t0_6 t0_7 Bd t100000_7 Cf v.1 v.2.1 v.2.2) (fun v s=>Bq t0_0 t0_1 t0_2 t0_3 t0_4 t0_5 t0_6 t0_7 Bd t100000_7 Cf v.1 v.2.1 v.2.2 s) (GR t0_0 t0_1 t0_2 t0_3 t0_4 t0_5 t0_6 t0_7 Bd t100000_7 Cf) ?_ h hM;clear h hM s v r;intro v s o hM h;obtain⟨t3_2,UJ,t100000_72⟩:=v;dsimp only at h hM;unfold DK at h;unfold Bq at hM;obtain⟨⟨w0_,m0⟩,m1,m2,m3,m4,m5,m6,m7,m8,m9,m10⟩:=hM;unfold qR;rcases iS h with⟨e4,h⟩|⟨e4,h⟩
 ·obtain⟨e5,e6,e7,h⟩:=Om h;rcases iS h with⟨e8,h⟩|⟨e8,h⟩
  ·cases h;simp (maxDischargeDepth:=9) only [↓AO,AP,↓reduceIte,bj,bh,m0,m1,m2,m3,m4,m5,m6,m7,m8,m9,m10,e4,e5.1,e5.2,e6.1,e6.2,e7,decide_eq_true e8,Bq,D6]<;>(repeat' apply A7)<;>first|rfl|exact⟨_,rfl⟩|exact⟨_,_,rfl⟩|simp [AR,Ay]
  ·obtain⟨gH,hl9,h⟩:=Ag h;have c9:=Q7 t0_0 t0_1 t0_2 t0_3 t0_4 t0_5 t0_6 t100000_72 Bd Cf UJ hl9;rcases iS h with⟨e10,h⟩|⟨e10,h⟩
   ·rcases iS h with⟨e11,h⟩|⟨e11,h⟩
    ·obtain⟨AE9,hl12,h⟩:=Ag h;have c12:=Q9 t0_0 t0_1 t0_2 t0_3 t0_4 t0_5 t0_6 t100000_72 Bd Cf UJ hl12;rcases iS h with⟨e13,h⟩|⟨e13,h⟩
     ·cases h;simp (maxDischargeDepth:=9) only [↓AO,AP,↓reduceIte,bj,bh,bx,ca,m0,m1,m2,m3,m4,m5,m6,m7,m8,m9,m10,e4,e5.1,e5.2,e6.1,e6.2,e7,e8,c9,e10,decide_eq_true e11,c12,e13,Bq,D6]<;>(repeat' apply A7)<;>first|rfl|exact⟨_,rfl⟩|exact⟨_,_,rfl⟩|simp [AR,Ay]
     ·have e13f:AE9=false:=Es.mpr e13;cases h;simp (maxDischargeDepth:=9) only [↓AO,AP,↓reduceIte,bj,bh,bx,ca,m0,m2,m3,m4,m5,m6,m7,m8,m9,m10,e4,e5.1,e5.2,e6.1,e6.2,e7,e8,c9,e10,decide_eq_true e11,c12,e13f,Bq,D6]<;>(repeat' apply A7)<;>first|rfl|exact⟨_,rfl⟩|exact⟨_,_,rfl⟩|simp [AR,Ay]
    ·cases h;simp (maxDischargeDepth:=9) only [↓AO,AP,↓reduceIte,bj,bh,bx,ca,m0,m1,m2,m3,m4,m5,m6,m7,m8,m9,m10,e4,e5.1,e5.2,e6.1,e6.2,e7,e8,c9,e10,e11,Bq,D6]<;>(repeat' apply A7)<;>first|rfl|exact⟨_,rfl⟩|exact⟨_,_,rfl⟩|simp [AR,Ay]
   ·have e10f:gH=false:=Es.mpr e10;cases h;simp (maxDischargeDepth:=9) only [↓AO,AP,↓reduceIte,bj,bh,bx,ca,m0,m2,m3,m4,m5,m6,m7,m8,m9,m10,e4,e5.1,e5.2,e6.1,e6.2,e7,e8,c9,e10f,Bq,D6]<;>(repeat' apply A7)<;>first|rfl|exact⟨_,rfl⟩|exact⟨_,_,rfl⟩|simp [AR,Ay]
 ·cases h;simp (maxDischargeDepth:=9) only [↓AO,AP,↓reduceIte,bj,bh,m0,m1,m2,m4,m5,m6,m7,m8,m9,m10,e4,Bq,GR,GH]<;>(repeat' apply A7)<;>first|rfl|exact⟨_,rfl⟩|exact⟨_,_,rfl⟩|simp [AR,Ay]
def DR(t0_0 t0_1:Int)(t0_2 t0_3:AV)(t0_4:Ac)(t0_5 t0_6:AU)(t0_7:AV)(Bd:Int)(t100000_7:AV)(t3_1:Bool)(Cf:Int)(t100000_71:AV)(s:St):Prop:=(∃w_,s.v 0=D.vw [100000] (s.k 100000) w_)∧s.v 3=bp t3_1∧s.v 4=bc .i64 Bd∧s.v 11=bc .i64 (t0_7.length:Int)∧s.v 12=bc .i64 Bd∧s.v 22=bc .i64 ((t100000_7.getD Bd.toNat be).length:Int)∧s.v 23=bc .i64 Cf∧s.v 100000=b8 [bc .i64 t0_0,bc .i64 t0_1,bk 26 (AR Ba t0_2),bk 26 (AR Ba t0_3),bk 79 (AR (fun x=>bk 87 (Aj .i64 .i64 x)) t0_4),bk 3 (AR (bc .i64) t0_5),bk 3 (AR (bc .i64) t0_6),br 26 (AR Ew t100000_71)]
def GU(t0_0 t0_1:Int)(t0_2 t0_3:AV)(t0_4:Ac)(t0_5 t0_6:AU)(t0_7:AV)(Bd:Int)(t100000_7:AV)(r:Bool×AV)(ex:Ex)(s:St):Prop:=ex= .exit 2∧(∃w_,s.v 0=D.vw [100000] (s.k 100000) w_)∧s.v 3=bp r.1∧s.v 11=bc .i64 (t0_7.length:Int)∧s.v 12=bc .i64 Bd∧s.v 100000=b8 [bc .i64 t0_0,bc .i64 t0_1,bk 26 (AR Ba t0_2),bk 26 (AR Ba t0_3),bk 79 (AR (fun x=>bk 87 (Aj .i64 .i64 x)) t0_4),bk 3 (AR (bc .i64) t0_5),bk 3 (AR (bc .i64) t0_6),br 26 (AR Ew r.2)]
theorem TJ(t0_0 t0_1:Int)(t0_2 t0_3:AV)(t0_4:Ac)(t0_5 t0_6:AU)(t0_7:AV)(Bd:Int)(t100000_7:AV){v:Bool×Int×AV}{s:St}{r:Bool×AV}(h:J2 t0_0 t0_1 t0_2 t0_3 t0_4 t0_5 t0_6 t0_7 Bd t100000_7 v=some r)(hM:DR t0_0 t0_1 t0_2 t0_3 t0_4 t0_5 t0_6 t0_7 Bd t100000_7 v.1 v.2.1 v.2.2 s):BU Y.env A51 (GU t0_0 t0_1 t0_2 t0_3 t0_4 t0_5 t0_6 t0_7 Bd t100000_7 r) s:=by
 unfold J2 at h;refine Aw (c:=qU) (fun v=>DL t0_0 t0_1 t0_2 t0_3 t0_4 t0_5 t0_6 t0_7 Bd t100000_7 v.1 v.2.1 v.2.2) (fun v s=>DR t0_0 t0_1 t0_2 t0_3 t0_4 t0_5 t0_6 t0_7 Bd t100000_7 v.1 v.2.1 v.2.2 s) (GU t0_0 t0_1 t0_2 t0_3 t0_4 t0_5 t0_6 t0_7 Bd t100000_7) ?_ h hM;clear h hM s v r;intro v s o hM h;obtain⟨t3_1,Cf,t100000_71⟩:=v;dsimp only at h hM;unfold DL at h;unfold DR at hM;obtain⟨⟨w0_,m0⟩,m1,m2,m3,m4,m5,m6,m7⟩:=hM;unfold qU;rcases iS h with⟨e3,h⟩|⟨e3,h⟩
 ·obtain⟨AX,hl5,h⟩:=Ag h;try dsimp only at h
  simp (maxDischargeDepth:=9) only [↓AO,AP,↓reduceIte,bj,bh,m0,m5,m6,m7,e3];refine Ak (TI t0_0 t0_1 t0_2 t0_3 t0_4 t0_5 t0_6 t0_7 Bd t100000_7 Cf hl5 ?_) ?_
  ·simp (maxDischargeDepth:=9) only [BL,↓reduceIte,bj,m0,m1,m2,m3,m4,m5,m6,m7,Bq]<;>(repeat' apply A7)<;>first|rfl|exact⟨_,rfl⟩|exact⟨_,_,rfl⟩|simp [AR,Ay]
  ·intro ex5 s5 hX5;unfold GR at hX5;obtain⟨rfl,⟨w0_,n5_0⟩,n5_1,n5_2,n5_3,n5_4,n5_5,n5_6,n5_7⟩:=hX5;cases h;simp (maxDischargeDepth:=9) only [↓AO,AP,↓reduceIte,bj,bh,n5_0,n5_1,n5_2,n5_3,n5_4,n5_5,n5_6,n5_7,DR,D6]<;>(repeat' apply A7)<;>first|rfl|exact⟨_,rfl⟩|exact⟨_,_,rfl⟩|simp [AR,Ay]
 ·cases h;simp (maxDischargeDepth:=9) only [↓AO,AP,↓reduceIte,bj,bh,m0,m1,m3,m4,m5,m6,m7,e3,DR,GU,GH]<;>(repeat' apply A7)<;>first|rfl|exact⟨_,rfl⟩|exact⟨_,_,rfl⟩|simp [AR,Ay]
def DT(t0_0 t0_1:Int)(t0_2 t0_3:AV)(t0_4:Ac)(t0_5 t0_6:AU)(t0_7:AV)(Gu:Bool)(Bd:Int)(t100000_7:AV)(s:St):Prop:=(∃w_,s.v 0=D.vw [100000] (s.k 100000) w_)∧s.v 3=bp Gu∧s.v 11=bc .i64 (t0_7.length:Int)∧s.v 12=bc .i64 Bd∧s.v 100000=b8 [bc .i64 t0_0,bc .i64 t0_1,bk 26 (AR Ba t0_2),bk 26 (AR Ba t0_3),bk 79 (AR (fun x=>bk 87 (Aj .i64 .i64 x)) t0_4),bk 3 (AR (bc .i64) t0_5),bk 3 (AR (bc .i64) t0_6),br 26 (AR Ew t100000_7)]
def GV(t0_0 t0_1:Int)(t0_2 t0_3:AV)(t0_4:Ac)(t0_5 t0_6:AU)(t0_7:AV)(r:Bool×AV)(ex:Ex)(s:St):Prop:=ex= .exit 0∧s.v 3=bp r.1∧s.v 100000=b8 [bc .i64 t0_0,bc .i64 t0_1,bk 26 (AR Ba t0_2),bk 26 (AR Ba t0_3),bk 79 (AR (fun x=>bk 87 (Aj .i64 .i64 x)) t0_4),bk 3 (AR (bc .i64) t0_5),bk 3 (AR (bc .i64) t0_6),br 26 (AR Ew r.2)]
theorem TK(t0_0 t0_1:Int)(t0_2 t0_3:AV)(t0_4:Ac)(t0_5 t0_6:AU)(t0_7:AV){v:Bool×Int×AV}{s:St}{r:Bool×AV}(h:J3 t0_0 t0_1 t0_2 t0_3 t0_4 t0_5 t0_6 t0_7 v=some r)(hM:DT t0_0 t0_1 t0_2 t0_3 t0_4 t0_5 t0_6 t0_7 v.1 v.2.1 v.2.2 s):BU Y.env A52 (GV t0_0 t0_1 t0_2 t0_3 t0_4 t0_5 t0_6 t0_7 r) s:=by
 unfold J3 at h;refine Aw (c:=qV) (fun v=>DN t0_0 t0_1 t0_2 t0_3 t0_4 t0_5 t0_6 t0_7 v.1 v.2.1 v.2.2) (fun v s=>DT t0_0 t0_1 t0_2 t0_3 t0_4 t0_5 t0_6 t0_7 v.1 v.2.1 v.2.2 s) (GV t0_0 t0_1 t0_2 t0_3 t0_4 t0_5 t0_6 t0_7) ?_ h hM;clear h hM s v r;intro v s o hM h;obtain⟨Gu,Bd,t100000_7⟩:=v;dsimp only at h hM;unfold DN at h;unfold DT at hM;obtain⟨⟨w0_,m0⟩,m1,m2,m3,m4⟩:=hM;unfold qV;rcases iS h with⟨e1,h⟩|⟨e1,h⟩
 ·obtain⟨e2,h⟩:=De h;obtain⟨Ap,hl4,h⟩:=Ag h;try dsimp only at h
  simp (maxDischargeDepth:=9) only [↓AO,AP,↓reduceIte,bj,bh,m0,m2,m3,m4,e1,e2.1,e2.2];refine Ak (TJ t0_0 t0_1 t0_2 t0_3 t0_4 t0_5 t0_6 t0_7 Bd t100000_7 hl4 ?_) ?_
  ·simp (maxDischargeDepth:=9) only [BL,↓reduceIte,bj,m0,m1,m2,m3,m4,DR]<;>(repeat' apply A7)<;>first|rfl|exact⟨_,rfl⟩|exact⟨_,_,rfl⟩|simp [AR,Ay]
  ·intro ex4 s4 hX4;unfold GU at hX4;obtain⟨rfl,⟨w0_,n4_0⟩,n4_1,n4_2,n4_3,n4_4⟩:=hX4;cases h;simp (maxDischargeDepth:=9) only [↓AO,AP,↓reduceIte,bj,bh,n4_0,n4_1,n4_2,n4_3,n4_4,DT,D6]<;>(repeat' apply A7)<;>first|rfl|exact⟨_,rfl⟩|exact⟨_,_,rfl⟩|simp [AR,Ay]
 ·cases h;simp (maxDischargeDepth:=9) only [↓AO,AP,↓reduceIte,bj,bh,m1,m2,m3,m4,e1,DT,GV,GH]
theorem UK(t0_0 t0_1:Int)(t0_2 t0_3:AV)(t0_4:Ac)(t0_5 t0_6:AU)(t0_7:AV){r:Bool×Int×Int×AV×AV×Ac×AU×AU×AV}(h:JM t0_0 t0_1 t0_2 t0_3 t0_4 t0_5 t0_6 t0_7=some r):Y.call 73 [D.vw [100000] 0 0] [b8 [bc .i64 t0_0,bc .i64 t0_1,bk 26 (AR Ba t0_2),bk 26 (AR Ba t0_3),bk 79 (AR (fun x=>bk 87 (Aj .i64 .i64 x)) t0_4),bk 3 (AR (bc .i64) t0_5),bk 3 (AR (bc .i64) t0_6),br 26 (AR Ew t0_7)]]=some (bp r.1,[b8 [bc .i64 r.2.1,bc .i64 r.2.2.1,bk 26 (AR Ba r.2.2.2.1),bk 26 (AR Ba r.2.2.2.2.1),bk 79 (AR (fun x=>bk 87 (Aj .i64 .i64 x)) r.2.2.2.2.2.1),bk 3 (AR (bc .i64) r.2.2.2.2.2.2.1),bk 3 (AR (bc .i64) r.2.2.2.2.2.2.2.1),br 26 (AR Ew r.2.2.2.2.2.2.2.2)]]):=by
 refine c73 ?_ rfl;unfold k73;unfold JM at h;obtain⟨BP,hl2,h⟩:=Ag h;try dsimp only at h
 simp (maxDischargeDepth:=9) only [↓AO,AP,↓reduceIte,bj,bh,bx,cb];refine Ak (TK t0_0 t0_1 t0_2 t0_3 t0_4 t0_5 t0_6 t0_7 hl2 ?_) ?_
 ·simp (maxDischargeDepth:=9) only [BL,Cv,↓reduceIte,bj,bh,cb,DT]<;>(repeat' apply A7)<;>first|rfl|exact⟨_,rfl⟩|exact⟨_,_,rfl⟩|simp [AR,Ay]
 ·intro ex2 s2 hX2;unfold GV at hX2;obtain⟨rfl,n2_0,n2_1⟩:=hX2;cases h;simp (maxDischargeDepth:=9) only [↓AO,AP,↓reduceIte,bj,bh,n2_0,n2_1]
def FD(tL tD:Int)(tN tE:AV)(AB:Ac)(AL A8:AU)(Di:AV)(Fq:Int)(t8_71:AV)(Bt:Int):Option ((AV×Int)⊕(AV)):= if Bt<((Di.getD Fq.toNat be).length:Int)then ck (0≤Bt∧Bt.toNat<(Di.getD Fq.toNat be).length)<| ck (0≤Fq∧Fq.toNat<t8_71.length)<| ck (¬tL<0)<| ck (0≤Bt∧Bt.toNat<(t8_71.getD Fq.toNat be).length)<| if 0≤((Di.getD Fq.toNat be).getD Bt.toNat be)then ck (¬((Di.getD Fq.toNat be).getD Bt.toNat be)<0)<| ck (0≤Bt∧Bt.toNat<((t8_71.set Fq.toNat ((t8_71.getD Fq.toNat be).set Bt.toNat (bm.wrap ((bm.wrap (1*2 ^ (min tL.toNat (bm.bits))))-1)))).getD Fq.toNat be).length)<| some (bo (((t8_71.set Fq.toNat ((t8_71.getD Fq.toNat be).set Bt.toNat (bm.wrap ((bm.wrap (1*2 ^ (min tL.toNat (bm.bits))))-1)))).set Fq.toNat (((t8_71.set Fq.toNat ((t8_71.getD Fq.toNat be).set Bt.toNat (bm.wrap ((bm.wrap (1*2 ^ (min tL.toNat (bm.bits))))-1)))).getD Fq.toNat be).set Bt.toNat (bm.wrap (1*2 ^ (min ((Di.getD Fq.toNat be).getD Bt.toNat be).toNat (bm.bits)))))),bm.wrap (Bt+1))) else some (bo ((t8_71.set Fq.toNat ((t8_71.getD Fq.toNat be).set Bt.toNat (bm.wrap ((bm.wrap (1*2 ^ (min tL.toNat (bm.bits))))-1)))),bm.wrap (Bt+1)))
 else some (bl t8_71)
def Ka(tL tD:Int)(tN tE:AV)(AB:Ac)(AL A8:AU)(Di:AV)(Fq:Int)(v:AV×Int):Option (AV):=E9 (fun v=>FD tL tD tN tE AB AL A8 Di Fq v.1 v.2) v
def FE(tL tD:Int)(tN tE:AV)(AB:Ac)(AL A8:AU)(Di t8_7:AV)(Fq:Int):Option ((AV×Int)⊕(AV)):= if Fq<(Di.length:Int)then ck (0≤Fq∧Fq.toNat<Di.length)<| (Ka tL tD tN tE AB AL A8 Di Fq (t8_7,0)).bind fun AX=> some (bo (AX,bm.wrap (Fq+1))) else some (bl t8_7)
def Kb(tL tD:Int)(tN tE:AV)(AB:Ac)(AL A8:AU)(Di:AV)(v:AV×Int):Option (AV):=E9 (fun v=>FE tL tD tN tE AB AL A8 Di v.1 v.2) v
def Hz(t8_0 t8_1:Int)(t8_2 t8_3:AV)(t8_4:Ac)(t8_5 t8_6:AU)(t8_7:AV):Option ((Int×Int×AV×AV×Ac×AU×AU×AV)⊕(Int×Int×AV×AV×Ac×AU×AU×AV)):= (JM t8_0 t8_1 t8_2 t8_3 t8_4 t8_5 t8_6 t8_7).bind fun Sm=> if Sm.1=true then some (bo (Sm.2.1,Sm.2.2.1,Sm.2.2.2.1,Sm.2.2.2.2.1,Sm.2.2.2.2.2.1,Sm.2.2.2.2.2.2.1,Sm.2.2.2.2.2.2.2.1,Sm.2.2.2.2.2.2.2.2)) else some (bl (Sm.2.1,Sm.2.2.1,Sm.2.2.2.1,Sm.2.2.2.2.1,Sm.2.2.2.2.2.1,Sm.2.2.2.2.2.2.1,Sm.2.2.2.2.2.2.2.1,Sm.2.2.2.2.2.2.2.2))
def I1(v:Int×Int×AV×AV×Ac×AU×AU×AV):Option (Int×Int×AV×AV×Ac×AU×AU×AV):=E9 (fun v=>Hz v.1 v.2.1 v.2.2.1 v.2.2.2.1 v.2.2.2.2.1 v.2.2.2.2.2.1 v.2.2.2.2.2.2.1 v.2.2.2.2.2.2.2) v
def FF(BP:Int×Int×AV×AV×Ac×AU×AU×AV)(gI:Int):Option ((Int)⊕(Unit⊕Unit)):= if gI<(BP.2.2.2.2.2.2.2.length:Int)then ck (0≤gI∧gI.toNat<BP.2.2.2.2.2.2.2.length)<| ck ((BP.2.2.2.2.2.2.2.getD gI.toNat be).length<1099511627776)<| if((BP.2.2.2.2.2.2.2.getD gI.toNat be).contains (0:Int))=true then some (bl (bo ())) else some (bo (bm.wrap (gI+1))) else some (bl (bl ()))
def Mq(BP:Int×Int×AV×AV×Ac×AU×AU×AV)(v:Int):Option (Unit⊕Unit):=E9 (fun v=>FF BP v) v
def Ii(tL tD:Int)(tN tE:AV)(AB:Ac)(AL A8:AU)(Di:AV):Option (AV×Bool):=
 (OQ Di).bind fun zT=>
 (Kb tL tD tN tE AB AL A8 Di (zT,0)).bind fun Ap=>
 (I1 (tL,tD,tN,tE,AB,AL,A8,Ap)).bind fun BP=>
 (Mq BP 0).bind fun Od=>
 match Od with
 | .inl q1003_=>
  some ([],false)
 | .inr q1003_=>
  some (BP.2.2.2.2.2.2.2,true)
abbrev XX:List Nat:=[35,36,37,38,39,40,41,42,43,44,45,46,47,47,46,8,46]
abbrev Zt:List Nat:=[50,51,52,53,54,55,56,57,58,59,60,60,59,8,59]
def qW:SC:= .seq (.ops [oB 31 .lss 3 (tK 30) (tK 29) 3 0]) (.seq (.cond (tK 31) .skip (.exit 2)) (.seq (.block 3 (.seq (.ops [oM 32 30 3,oI 33 26 28 30,oL 34 3 33 3,oA 10 32 3,oA 11 34 3]) (.seq (.draws [(⟨[35,8,8],XX,[35]⟩,oM 35 8 91),(⟨[36,35,8],XX,[36]⟩,oX 36 (.nilCheck (tK 35)) 0),(⟨[37,36,8],XX,[37]⟩,oF 37 93 36 2),(⟨[38,37,8],XX,[38]⟩,oL 38 22 37 22),(⟨[39,9,9],XX,[39]⟩,oM 39 9 3),(⟨[40,38,39,8,9],XX,[40]⟩,oI 40 22 38 39),(⟨[41,40,8],XX,[41]⟩,oL 41 26 40 26),(⟨[42,10,10],XX,[42]⟩,oM 42 10 3),(⟨[43,3,3],XX,[43]⟩,oF 43 34 3 0),(⟨[44,43,3],XX,[44]⟩,oL 44 3 43 3),(⟨[45,44,3],XX,[45]⟩,oB 45 .shl 3 (iK 1) (tK 44) 3 3),(⟨[46,45,45],XX,[46]⟩,oB 46 .sub 3 (tK 45) (iK 1) 3 3),(⟨[47,41,42,8,10],XX,[47]⟩,oI 47 26 41 42),(⟨[47,46,8,46],XX,[47,46,8,46]⟩,oS 3 47 46)]) (.seq (.ops [oM 48 11 3,oB 49 .geq 3 (tK 48) (iK 0) 3 4]) (.cond (tK 49) (.draws [(⟨[50,8,8],Zt,[50]⟩,oM 50 8 91),(⟨[51,50,8],Zt,[51]⟩,oX 51 (.nilCheck (tK 50)) 0),(⟨[52,51,8],Zt,[52]⟩,oF 52 93 51 2),(⟨[53,52,8],Zt,[53]⟩,oL 53 22 52 22),(⟨[54,9,9],Zt,[54]⟩,oM 54 9 3),(⟨[55,53,54,8,9],Zt,[55]⟩,oI 55 22 53 54),(⟨[56,55,8],Zt,[56]⟩,oL 56 26 55 26),(⟨[57,10,10],Zt,[57]⟩,oM 57 10 3),(⟨[58,11,11],Zt,[58]⟩,oM 58 11 3),
 (⟨[59,58,11],Zt,[59]⟩,oB 59 .shl 3 (iK 1) (tK 58) 3 3),(⟨[60,56,57,8,10],Zt,[60]⟩,oI 60 26 56 57),(⟨[60,59,8,59],Zt,[60,59,8,59]⟩,oS 3 60 59)]) .skip))))) (.ops [oB 61 .add 3 (tK 30) (iK 1) 3 3,oM 30 61 3])))
def A53:SC:= .loop qW
def qX:SC:= .seq (.ops [oB 23 .lss 3 (tK 22) (tK 21) 3 0]) (.seq (.cond (tK 23) .skip (.exit 0)) (.seq (.block 1 (.seq (.ops [oM 24 22 3,oA 9 24 3]) (.seq (.ops [oM 25 2 22,oM 26 9 3,oI 27 22 25 26,oL 28 26 27 26,oN 29 28 26,oX 30 (.move (iK 0)) 3]) (.block 2 A53)))) (.ops [oB 62 .add 3 (tK 22) (iK 1) 3 3,oM 22 62 3])))
def A54:SC:= .loop qX
def qY:SC:= .seq (.seq (.ops [oM 63 8 91,oC 64 73 [(tK 63)] [91] 4]) (.cond (tK 64) .skip (.exit 4))) (.block 5 .skip)
def A55:SC:= .loop qY
def qZ:SC:= .seq (.ops [oB 71 .lss 3 (tK 70) (tK 69) 3 0]) (.seq (.cond (tK 71) .skip (.exit 6)) (.seq (.block 7 (.seq (.ops [oI 72 22 68 70,oL 73 26 72 26,oA 13 73 26]) (.seq (.ops [oM 74 13 26,oC 75 74 [(tK 74),(iK 0)] [26,3] 4]) (.cond (tK 75) (.seq (.ops [oX 6 Gt 22,oX 7 BR 4]) .ret) .skip)))) (.ops [oB 76 .add 3 (tK 70) (iK 1) 3 3,oM 70 76 3])))
def A56:SC:= .loop qZ
abbrev zU:List Nat:=[14,15,16,17,18,14,15,17,3,4,17,19,18,18,8,19,19]
def k42:SC:= .seq (.ops [oX 3 (.box 34 (tK 0)) 0,oX 4 (.box 38 (tK 1)) 0,oX 6 Gt 22,oX 7 BR 4]) (.seq (.draws [(⟨[14,3,3],zU,[14]⟩,oL 14 34 3 34),(⟨[15,4,4],zU,[15]⟩,oL 15 38 4 38),(⟨[16,2,2],zU,[16]⟩,oM 16 2 22),(⟨[17,16,2],zU,[17]⟩,oC 17 72 [(tK 16)] [22] 22),(⟨[18,14,15,17,3,4,17],zU,[18,14,15,17,3,4,17]⟩,oX 18 (.build 93 #[(0,(tK 14)),(1,(tK 15)),(2,(tK 17))]) 93),(⟨[19,18,18],zU,[19,18,18]⟩,oX 19 (.box 93 (tK 18)) 91),(⟨[8,19,19],zU,[8,19,19]⟩,oA 8 19 91)]) (.seq (.seq (.ops [oM 20 2 22,oN 21 20 22,oX 22 (.move (iK 0)) 3]) (.block 0 A54)) (.seq (.block 4 A55) (.seq (.seq (.ops [oM 65 8 91,oX 66 (.nilCheck (tK 65)) 0,oF 67 93 66 2,oL 68 22 67 22,oN 69 68 22,oX 70 (.move (iK 0)) 3]) (.block 6 A56)) (.seq (.ops [oM 77 8 91,oX 78 (.nilCheck (tK 77)) 0,oF 79 93 78 2,oL 80 22 79 22,oA 6 80 22,oX 7 (.assign Ck) 4]) .ret)))))
theorem AEB:Tryz.f42.body.map (BQ lends)=some k42:=by kernel_rfl
theorem ARz:BV Tryz.f42 3=true:=by kernel_rfl
theorem c42{a l:List D}{r:D×List D}(h:BU Y.env k42 (fin Ai l.length [bt 6,bt 7] r) (entry a l))(ha:a.length=3):Y.call 42 a l=some r:=
 AY (Y:=Y) rfl Tryz.func42 (ha▸ARz) AEB h
def EG(tL tD:Int)(tN tE:AV)(AB:Ac)(AL A8:AU)(Di:AV)(Fq:Int)(t8_71:AV)(Bt:Int)(s:St):Prop:=s.v 2=bk 26 (AR Ba Di)∧s.v 3=b8 [bc .i64 tL,bc .i64 tD,bk 26 (AR Ba tN),bk 26 (AR Ba tE)]∧s.v 8=b8 [bc .i64 tL,bc .i64 tD,bk 26 (AR Ba tN),bk 26 (AR Ba tE),bk 79 (AR (fun x=>bk 87 (Aj .i64 .i64 x)) AB),bk 3 (AR (bc .i64) AL),bk 3 (AR (bc .i64) A8),br 26 (AR Ew t8_71)]∧s.v 9=bc .i64 Fq∧s.v 21=bc .i64 (Di.length:Int)∧s.v 22=bc .i64 Fq∧s.v 28=bk 3 (AR (bc .i64) (Di.getD Fq.toNat be))∧s.v 29=bc .i64 ((Di.getD Fq.toNat be).length:Int)∧s.v 30=bc .i64 Bt
def LC(tL tD:Int)(tN tE:AV)(AB:Ac)(AL A8:AU)(Di:AV)(Fq:Int)(r:AV)(ex:Ex)(s:St):Prop:=ex= .exit 2∧s.v 2=bk 26 (AR Ba Di)∧s.v 3=b8 [bc .i64 tL,bc .i64 tD,bk 26 (AR Ba tN),bk 26 (AR Ba tE)]∧s.v 8=b8 [bc .i64 tL,bc .i64 tD,bk 26 (AR Ba tN),bk 26 (AR Ba tE),bk 79 (AR (fun x=>bk 87 (Aj .i64 .i64 x)) AB),bk 3 (AR (bc .i64) AL),bk 3 (AR (bc .i64) A8),br 26 (AR Ew r)]∧s.v 21=bc .i64 (Di.length:Int)∧s.v 22=bc .i64 Fq
theorem XY(tL tD:Int)(tN tE:AV)(AB:Ac)(AL A8:AU)(Di:AV)(Fq:Int){v:AV×Int}{s:St}{r:AV}(h:Ka tL tD tN tE AB AL A8 Di Fq v=some r)(hM:EG tL tD tN tE AB AL A8 Di Fq v.1 v.2 s):BU Y.env A53 (LC tL tD tN tE AB AL A8 Di Fq r) s:=by
 unfold Ka at h;refine Aw (c:=qW) (fun v=>FD tL tD tN tE AB AL A8 Di Fq v.1 v.2) (fun v s=>EG tL tD tN tE AB AL A8 Di Fq v.1 v.2 s) (LC tL tD tN tE AB AL A8 Di Fq) ?_ h hM;clear h hM s v r;intro v s o hM h;obtain⟨t8_71,Bt⟩:=v;dsimp only at h hM;unfold FD at h;unfold EG at hM;obtain⟨m0,m1,m2,m3,m4,m5,m6,m7,m8⟩:=hM;unfold qW;rcases iS h with⟨e4,h⟩|⟨e4,h⟩
 ·obtain⟨e5,e6,e7,e8,h⟩:=vR h;rcases iS h with⟨e9,h⟩|⟨e9,h⟩
  ·obtain⟨e10,e11,h⟩:=EC h;cases h;simp (maxDischargeDepth:=9) only [↓AO,AP,↓reduceIte,bj,bh,ca,m0,m1,m2,m3,m4,m5,m6,m7,m8,e4,e5.1,e5.2,e6.1,e6.2,e7,e8.2,e9,e10,e11.2,EG,D6]
  ·cases h;simp (maxDischargeDepth:=9) only [↓AO,AP,↓reduceIte,bj,bh,ca,m0,m1,m2,m3,m4,m5,m6,m7,m8,e4,e5.1,e5.2,e6.1,e6.2,e7,e8.2,e9,EG,D6]
 ·cases h;simp (maxDischargeDepth:=9) only [↓AO,AP,↓reduceIte,bj,bh,m0,m1,m2,m4,m5,m7,m8,e4,EG,LC,GH]
def FH(tL tD:Int)(tN tE:AV)(AB:Ac)(AL A8:AU)(Di t8_7:AV)(Fq:Int)(s:St):Prop:=s.v 2=bk 26 (AR Ba Di)∧s.v 3=b8 [bc .i64 tL,bc .i64 tD,bk 26 (AR Ba tN),bk 26 (AR Ba tE)]∧s.v 8=b8 [bc .i64 tL,bc .i64 tD,bk 26 (AR Ba tN),bk 26 (AR Ba tE),bk 79 (AR (fun x=>bk 87 (Aj .i64 .i64 x)) AB),bk 3 (AR (bc .i64) AL),bk 3 (AR (bc .i64) A8),br 26 (AR Ew t8_7)]∧s.v 21=bc .i64 (Di.length:Int)∧s.v 22=bc .i64 Fq
def LD(tL tD:Int)(tN tE:AV)(AB:Ac)(AL A8:AU)(Di:AV)(r:AV)(ex:Ex)(s:St):Prop:=ex= .exit 0∧s.v 8=b8 [bc .i64 tL,bc .i64 tD,bk 26 (AR Ba tN),bk 26 (AR Ba tE),bk 79 (AR (fun x=>bk 87 (Aj .i64 .i64 x)) AB),bk 3 (AR (bc .i64) AL),bk 3 (AR (bc .i64) A8),br 26 (AR Ew r)]
theorem XZ(tL tD:Int)(tN tE:AV)(AB:Ac)(AL A8:AU)(Di:AV){v:AV×Int}{s:St}{r:AV}(h:Kb tL tD tN tE AB AL A8 Di v=some r)(hM:FH tL tD tN tE AB AL A8 Di v.1 v.2 s):BU Y.env A54 (LD tL tD tN tE AB AL A8 Di r) s:=by
 unfold Kb at h;refine Aw (c:=qX) (fun v=>FE tL tD tN tE AB AL A8 Di v.1 v.2) (fun v s=>FH tL tD tN tE AB AL A8 Di v.1 v.2 s) (LD tL tD tN tE AB AL A8 Di) ?_ h hM;clear h hM s v r;intro v s o hM h;obtain⟨t8_7,Fq⟩:=v;dsimp only at h hM;unfold FE at h;unfold FH at hM;obtain⟨m0,m1,m2,m3,m4⟩:=hM;unfold qX;rcases iS h with⟨e2,h⟩|⟨e2,h⟩
 ·obtain⟨e3,h⟩:=De h;obtain⟨AX,hl5,h⟩:=Ag h;try dsimp only at h
  simp (maxDischargeDepth:=9) only [↓AO,AP,↓reduceIte,bj,bh,m0,m3,m4,e2,e3.1,e3.2];refine Ak (XY tL tD tN tE AB AL A8 Di Fq hl5 ?_) ?_
  ·simp (maxDischargeDepth:=9) only [BL,↓reduceIte,bj,m0,m1,m2,m3,m4,EG]
  ·intro ex5 s5 hX5;unfold LC at hX5;obtain⟨rfl,n5_0,n5_1,n5_2,n5_3,n5_4⟩:=hX5;cases h;simp (maxDischargeDepth:=9) only [↓AO,AP,↓reduceIte,bj,bh,n5_0,n5_1,n5_2,n5_3,n5_4,FH,D6]
 ·cases h;simp (maxDischargeDepth:=9) only [↓AO,AP,↓reduceIte,bj,bh,m2,m3,m4,e2,FH,LD,GH]
def FI(t8_0 t8_1:Int)(t8_2 t8_3:AV)(t8_4:Ac)(t8_5 t8_6:AU)(t8_7:AV)(s:St):Prop:=s.v 8=b8 [bc .i64 t8_0,bc .i64 t8_1,bk 26 (AR Ba t8_2),bk 26 (AR Ba t8_3),bk 79 (AR (fun x=>bk 87 (Aj .i64 .i64 x)) t8_4),bk 3 (AR (bc .i64) t8_5),bk 3 (AR (bc .i64) t8_6),br 26 (AR Ew t8_7)]
def LF(r:Int×Int×AV×AV×Ac×AU×AU×AV)(ex:Ex)(s:St):Prop:=ex= .exit 4∧s.v 8=b8 [bc .i64 r.1,bc .i64 r.2.1,bk 26 (AR Ba r.2.2.1),bk 26 (AR Ba r.2.2.2.1),bk 79 (AR (fun x=>bk 87 (Aj .i64 .i64 x)) r.2.2.2.2.1),bk 3 (AR (bc .i64) r.2.2.2.2.2.1),bk 3 (AR (bc .i64) r.2.2.2.2.2.2.1),br 26 (AR Ew r.2.2.2.2.2.2.2)]
theorem Xa{v:Int×Int×AV×AV×Ac×AU×AU×AV}{s:St}{r:Int×Int×AV×AV×Ac×AU×AU×AV}(h:I1 v=some r)(hM:FI v.1 v.2.1 v.2.2.1 v.2.2.2.1 v.2.2.2.2.1 v.2.2.2.2.2.1 v.2.2.2.2.2.2.1 v.2.2.2.2.2.2.2 s):BU Y.env A55 (LF r) s:=by
 unfold I1 at h;refine Aw (c:=qY) (fun v=>Hz v.1 v.2.1 v.2.2.1 v.2.2.2.1 v.2.2.2.2.1 v.2.2.2.2.2.1 v.2.2.2.2.2.2.1 v.2.2.2.2.2.2.2) (fun v s=>FI v.1 v.2.1 v.2.2.1 v.2.2.2.1 v.2.2.2.2.1 v.2.2.2.2.2.1 v.2.2.2.2.2.2.1 v.2.2.2.2.2.2.2 s) (LF) ?_ h hM;clear h hM s v r;intro v s o hM h;obtain⟨t8_0,t8_1,t8_2,t8_3,t8_4,t8_5,t8_6,t8_7⟩:=v;dsimp only at h hM;unfold Hz at h;unfold FI at hM;have m0:=hM;unfold qY;obtain⟨Sm,hl4,h⟩:=Ag h;have c4:=UK t8_0 t8_1 t8_2 t8_3 t8_4 t8_5 t8_6 t8_7 hl4;rcases iS h with⟨e5,h⟩|⟨e5,h⟩
 ·cases h;simp (maxDischargeDepth:=9) only [↓AO,AP,↓reduceIte,bj,bx,m0,c4,e5,FI,D6]
 ·have e5f:Sm.1=false:=Es.mpr e5;cases h;simp (maxDischargeDepth:=9) only [↓AO,AP,↓reduceIte,bj,bx,m0,c4,e5f,FI,LF,GH]
def EH(BP:Int×Int×AV×AV×Ac×AU×AU×AV)(gI:Int)(s:St):Prop:=s.v 8=b8 [bc .i64 BP.1,bc .i64 BP.2.1,bk 26 (AR Ba BP.2.2.1),bk 26 (AR Ba BP.2.2.2.1),bk 79 (AR (fun x=>bk 87 (Aj .i64 .i64 x)) BP.2.2.2.2.1),bk 3 (AR (bc .i64) BP.2.2.2.2.2.1),bk 3 (AR (bc .i64) BP.2.2.2.2.2.2.1),br 26 (AR Ew BP.2.2.2.2.2.2.2)]∧s.v 68=D.vw [8,7] (s.k 8) (s.m 8)∧s.v 69=bc .i64 (BP.2.2.2.2.2.2.2.length:Int)∧s.v 70=bc .i64 gI
def FJ(BP:Int×Int×AV×AV×Ac×AU×AU×AV)(r:Unit⊕Unit)(ex:Ex)(s:St):Prop:=match r with
 | .inl q=>ex= .ret∧s.v 6=br 26 []∧s.v 7=bp false
 | .inr q=>ex= .exit 6∧s.v 8=b8 [bc .i64 BP.1,bc .i64 BP.2.1,bk 26 (AR Ba BP.2.2.1),bk 26 (AR Ba BP.2.2.2.1),bk 79 (AR (fun x=>bk 87 (Aj .i64 .i64 x)) BP.2.2.2.2.1),bk 3 (AR (bc .i64) BP.2.2.2.2.2.1),bk 3 (AR (bc .i64) BP.2.2.2.2.2.2.1),br 26 (AR Ew BP.2.2.2.2.2.2.2)]
theorem Xb(BP:Int×Int×AV×AV×Ac×AU×AU×AV){v:Int}{s:St}{r:Unit⊕Unit}(h:Mq BP v=some r)(hM:EH BP v s):BU Y.env A56 (FJ BP r) s:=by
 unfold Mq at h;refine Aw (c:=qZ) (fun v=>FF BP v) (fun v s=>EH BP v s) (FJ BP) ?_ h hM;clear h hM s v r;intro gI s o hM h;unfold FF at h;unfold EH at hM;obtain⟨m0,m1,m2,m3⟩:=hM;unfold qZ;rcases iS h with⟨e7,h⟩|⟨e7,h⟩
 ·obtain⟨e8,e9,h⟩:=EC h;have VS:=OJ (BP.2.2.2.2.2.2.2.getD gI.toNat be) (0:Int) e9;rcases iS h with⟨e11,h⟩|⟨e11,h⟩
  ·cases h;simp (maxDischargeDepth:=9) only [↓AO,AP,↓reduceIte,bj,bh,bx,m0,m1,m2,m3,e7,e8.1,e8.2,VS,e11,EH,FJ,OC]
  ·have e11f:((BP.2.2.2.2.2.2.2.getD gI.toNat be).contains (0:Int))=false:=Es.mpr e11;cases h;simp (maxDischargeDepth:=9) only [↓AO,AP,↓reduceIte,bj,bh,bx,m0,m1,m2,m3,e7,e8.1,e8.2,VS,e11f,EH,D6]
 ·cases h;simp (maxDischargeDepth:=9) only [↓AO,AP,↓reduceIte,bj,bh,m0,m2,m3,e7,EH,FJ,GH]
theorem Rl(tL tD:Int)(tN tE:AV)(AB:Ac)(AL A8:AU)(Di:AV){r:AV×Bool}(h:Ii tL tD tN tE AB AL A8 Di=some r):Y.call 42 [bw [bc .i64 tL,bc .i64 tD,bk 26 (AR Ba tN),bk 26 (AR Ba tE)],bw [bk 79 (AR (fun x=>bk 87 (Aj .i64 .i64 x)) AB),bk 3 (AR (bc .i64) AL),bk 3 (AR (bc .i64) A8)],bk 26 (AR Ba Di)] []=some (D.tup [br 26 (AR Ew r.1),bp r.2],[]):=by
 refine c42 ?_ rfl;unfold k42;unfold Ii at h;obtain⟨zT,hl1,h⟩:=Ag h;have c1:=YT Di hl1;obtain⟨Ap,hl3,h⟩:=Ag h;try dsimp only at h
 simp (maxDischargeDepth:=9) only [↓AO,AP,↓reduceIte,bj,bh,b5,bx,c1];refine Ak (XZ tL tD tN tE AB AL A8 Di hl3 ?_) ?_
 ·simp (maxDischargeDepth:=9) only [BL,Cv,↓reduceIte,bj,bh,FH]
 ·intro ex3 s3 hX3;unfold LD at hX3;obtain⟨rfl,n3_0⟩:=hX3;obtain⟨BP,hl6,h⟩:=Ag h;try dsimp only at h
  simp (maxDischargeDepth:=9) only [↓AO,↓reduceIte];refine Ak (Xa hl6 ?_) ?_
  ·simp (maxDischargeDepth:=9) only [n3_0,FI]
  ·intro ex6 s6 hX6;unfold LF at hX6;obtain⟨rfl,n6_0⟩:=hX6;obtain⟨Od,hl8,h⟩:=Ag h;try dsimp only at h
   simp (maxDischargeDepth:=9) only [↓AO,AP,↓reduceIte,bj,n6_0];refine Ak (Xb BP hl8 ?_) ?_
   ·simp (maxDischargeDepth:=9) only [BL,↓reduceIte,bj,n6_0,EH]
   ·intro ex8 s8 hX8;rcases Od with q1003_|q1003_
    ·unfold FJ at hX8;dsimp only at hX8 h;obtain⟨rfl,n8_0,n8_1⟩:=hX8;cases h;simp (maxDischargeDepth:=9) only [↓AO,AP,↓reduceIte,bj,n8_0,n8_1]<;>(repeat' apply A7)<;>first|rfl|exact⟨_,rfl⟩|exact⟨_,_,rfl⟩|simp [AR,Ay]
    ·unfold FJ at hX8;dsimp only at hX8 h;obtain⟨rfl,n8_0⟩:=hX8;cases h;simp (maxDischargeDepth:=9) only [↓AO,AP,↓reduceIte,bj,bh,n8_0]
def k14:SC:= .seq (.ops [oX 3 (.box 34 (tK 0)) 0,oX 4 (.box 38 (tK 1)) 0,oX 6 Gt 22,oX 7 BR 4]) (.seq (.seq (.ops [oL 8 34 3 34,oC 9 39 [(tK 8)] [34] 4,oX 10 (.unOp .not 4 (tK 9)) 4,oM 11 10 4,⟨some 12,.load 38 (tK 4),38,(some (some 11,false))⟩,⟨some 13,.call ⟨(.value (.func 40)), #[(tK 12)], #[38]⟩,4,(some (some 11,false))⟩,⟨some 14,.unOp .not 4 (tK 13),4,(some (some 11,false))⟩,oX 15 (.pick (tK 11) Ck (tK 14)) 4,oM 16 15 4,⟨some 17,.load 34 (tK 3),34,(some (some 16,false))⟩,⟨some 18,.load 38 (tK 4),38,(some (some 16,false))⟩,⟨some 19,.move (tK 2),22,(some (some 16,false))⟩,⟨some 20,.call ⟨(.value (.func 41)), #[(tK 17),(tK 18),(tK 19)], #[34,38,22]⟩,4,(some (some 16,false))⟩,⟨some 21,.unOp .not 4 (tK 20),4,(some (some 16,false))⟩,oX 22 (.pick (tK 16) Ck (tK 21)) 4]) (.cond (tK 22) (.seq (.ops [oX 6 Gt 22,oX 7 BR 4]) .ret) .skip)) (.seq (.ops [oL 23 34 3 34,oL 24 38 4 38,oM 25 2 22,oC 26 42 [(tK 23),(tK 24),(tK 25)] [34,38,22] 32,oE 27 26 0 22,oE 28 26 1 4,oA 6 27 22,oA 7 28 4]) .ret))
theorem AEC:Tryz.f14.body.map (BQ lends)=some k14:=by kernel_rfl
theorem AS0:BV Tryz.f14 3=true:=by kernel_rfl
theorem qa{a l:List D}{r:D×List D}(h:BU Y.env k14 (fin Ai l.length [bt 6,bt 7] r) (entry a l))(ha:a.length=3):Y.call 14 a l=some r:=
 AY (Y:=Y) rfl Tryz.func14 (ha▸AS0) AEC h
def Ji(l out:AV)(Gj:Int):Option ((AV×Int)⊕(AV)):= if Gj<(l.length:Int)then ck (0≤Gj∧Gj.toNat<l.length)<| (Kw (l.getD Gj.toNat be)).bind fun fw=> ck (out.length+1<1099511627776)<| some (bo ((out++[fw]),bm.wrap (Gj+1))) else some (bl out)
def Qp(l:AV)(v:AV×Int):Option (AV):=E9 (fun v=>Ji l v.1 v.2) v
def Rm(l:AV):Option (AV):= (Qp l ([],0)).bind fun AX=> some AX
def qb:SC:= .seq (.ops [oB 9 .lss 3 (tK 8) (tK 7) 3 0]) (.seq (.cond (tK 9) .skip (.exit 0)) (.seq (.block 1 (.seq (.ops [oI 10 22 6 8,oL 11 26 10 26,oA 5 11 26]) (.ops [oM 12 3 22,oM 13 5 26,oC 14 92 [(tK 13)] [26] 26,oX 15 (.buildSlice 22 1 #[(0,(tK 14))]) 22,oX 16 (.call ⟨(.builtin .append), #[(tK 12),(tK 15)], #[22,22]⟩) 22,oA 3 16 22]))) (.ops [oB 17 .add 3 (tK 8) (iK 1) 3 3,oM 8 17 3])))
def A57:SC:= .loop qb
def k60:SC:= .seq (.ops [oX 2 Gt 22]) (.seq (.ops [oX 3 Gt 22]) (.seq (.seq (.ops [oM 6 0 22,oN 7 6 22,oX 8 (.move (iK 0)) 3]) (.block 0 A57)) (.seq (.ops [oM 18 3 22,oA 2 18 22]) .ret)))
theorem AED:Tryz.f60.body.map (BQ lends)=some k60:=by kernel_rfl
theorem AS2:BV Tryz.f60 1=true:=by kernel_rfl
theorem c60{a l:List D}{r:D×List D}(h:BU Y.env k60 (fin Ai l.length [bt 2] r) (entry a l))(ha:a.length=1):Y.call 60 a l=some r:=
 AY (Y:=Y) rfl Tryz.func60 (ha▸AS2) AED h
def Jj(l out:AV)(Gj:Int)(s:St):Prop:=s.v 3=br 26 (AR Ew out)∧s.v 6=bk 26 (AR Ba l)∧s.v 7=bc .i64 (l.length:Int)∧s.v 8=bc .i64 Gj
def Nr(l:AV)(r:AV)(ex:Ex)(s:St):Prop:=ex= .exit 0∧s.v 3=br 26 (AR Ew r)
theorem gJ(l:AV){v:AV×Int}{s:St}{r:AV}(h:Qp l v=some r)(hM:Jj l v.1 v.2 s):BU Y.env A57 (Nr l r) s:=by
 unfold Qp at h;refine Aw (c:=qb) (fun v=>Ji l v.1 v.2) (fun v s=>Jj l v.1 v.2 s) (Nr l) ?_ h hM;clear h hM s v r;intro v s o hM h;obtain⟨out,Gj⟩:=v;dsimp only at h hM;unfold Ji at h;unfold Jj at hM;obtain⟨m0,m1,m2,m3⟩:=hM;unfold qb;rcases iS h with⟨e1,h⟩|⟨e1,h⟩
 ·obtain⟨e2,h⟩:=De h;obtain⟨fw,hl3,h⟩:=Ag h;have c3:=Ky (l.getD Gj.toNat be) hl3;obtain⟨e4,h⟩:=De h;cases h;simp (maxDischargeDepth:=9) only [↓AO,AP,↓reduceIte,bj,bh,b5,bx,m0,m1,m2,m3,e1,e2.1,e2.2,c3,e4,Jj,D6]
 ·cases h;simp (maxDischargeDepth:=9) only [↓AO,AP,↓reduceIte,bj,bh,m0,m2,m3,e1,Jj,Nr,GH]
theorem VW(l:AV){r:AV}(h:Rm l=some r):Y.call 60 [bk 26 (AR Ba l)] []=some (br 26 (AR Ew r),[]):=by
 refine c60 ?_ rfl;unfold k60;unfold Rm at h;obtain⟨AX,hl2,h⟩:=Ag h;try dsimp only at h
 simp (maxDischargeDepth:=9) only [↓AO,AP,↓reduceIte,bj,bh];refine Ak (gJ l hl2 ?_) ?_
 ·simp (maxDischargeDepth:=9) only [BL,↓reduceIte,bj,Jj]<;>(repeat' apply A7)<;>first|rfl|exact⟨_,rfl⟩|exact⟨_,_,rfl⟩|simp [AR,Ay]
 ·intro ex2 s2 hX2;unfold Nr at hX2;obtain⟨rfl,n2_0⟩:=hX2;cases h;simp (maxDischargeDepth:=9) only [↓AO,AP,↓reduceIte,bj,bh,n2_0]
def Jk(pL pD:Int)(pN pE:AV)(Cb:AV)(out:AV)(Bn:Int)(out1:AV)(YU:Int):Option ((AV×Int)⊕(AV)):= if YU<((out.getD Bn.toNat be).length:Int)then ck (Bn.toNat<out1.length)<| ck (0≤YU∧YU.toNat<(out1.getD Bn.toNat be).length)<| if((out1.getD Bn.toNat be).getD YU.toNat be)<0 then ck (0≤Bn∧Bn.toNat<out1.length)<| ck (¬(bO.wrap pL)<0)<| some (bo ((out1.set Bn.toNat ((out1.getD Bn.toNat be).set YU.toNat (bm.wrap ((bm.wrap (1*2 ^ (min (bO.wrap pL).toNat (bm.bits))))-1)))),bm.wrap (YU+1))) else ck (0≤Bn∧Bn.toNat<out1.length)<| ck (¬(bO.wrap ((out1.getD Bn.toNat be).getD YU.toNat be))<0)<| some (bo ((out1.set Bn.toNat ((out1.getD Bn.toNat be).set YU.toNat (bm.wrap (1*2 ^ (min (bO.wrap ((out1.getD Bn.toNat be).getD YU.toNat be)).toNat (bm.bits)))))),bm.wrap (YU+1))) else some (bl out1)
def OU(pL pD:Int)(pN pE:AV)(Cb:AV)(out:AV)(Bn:Int)(v:AV×Int):Option (AV):=E9 (fun v=>Jk pL pD pN pE Cb out Bn v.1 v.2) v
def Jl(pL pD:Int)(pN pE:AV)(Cb:AV)(out:AV)(Bn:Int):Option ((AV×Int)⊕(AV)):= if Bn<(Cb.length:Int)then ck (0≤Bn∧Bn.toNat<out.length)<| (OU pL pD pN pE Cb out Bn (out,0)).bind fun AX=> some (bo (AX,bm.wrap (Bn+1))) else some (bl out)
def OV(pL pD:Int)(pN pE:AV)(Cb:AV)(v:AV×Int):Option (AV):=E9 (fun v=>Jl pL pD pN pE Cb v.1 v.2) v
def UL(pL pD:Int)(pN pE l:AV):Option (AV):= (Rm l).bind fun Cb=> (OV pL pD pN pE Cb (Cb,0)).bind fun Ap=> some Ap
abbrev Zu:List Nat:=[28,29,30,31,32,33,34,35,36,37,38,38,37,5,37]
def qc:SC:= .seq (.ops [oB 22 .lss 3 (tK 21) (tK 20) 3 0]) (.seq (.cond (tK 22) .skip (.exit 2)) (.seq (.block 3 (.seq (.ops [oM 23 21 3,oI 24 26 19 21,oL 25 3 24 3,oA 8 23 3,oA 9 25 3]) (.seq (.ops [oM 26 9 3,oB 27 .lss 3 (tK 26) (iK 0) 3 4]) (.cond (tK 27) (.draws [(⟨[28,5,5],Zu,[28]⟩,oM 28 5 22),(⟨[29,6,6],Zu,[29]⟩,oM 29 6 3),(⟨[30,28,29,5,6],Zu,[30]⟩,oI 30 22 28 29),(⟨[31,30,5],Zu,[31]⟩,oL 31 26 30 26),(⟨[32,8,8],Zu,[32]⟩,oM 32 8 3),(⟨[33,2,2],Zu,[33]⟩,oF 33 34 2 0),(⟨[34,33,2],Zu,[34]⟩,oL 34 3 33 3),(⟨[35,34,2],Zu,[35]⟩,oX 35 (.convert 3 82 (tK 34)) 82),(⟨[36,35,35],Zu,[36]⟩,oB 36 .shl 3 (iK 1) (tK 35) 82 3),(⟨[37,36,36],Zu,[37]⟩,oB 37 .sub 3 (tK 36) (iK 1) 3 3),(⟨[38,31,32,5,8],Zu,[38]⟩,oI 38 26 31 32),(⟨[38,37,5,37],Zu,[38,37,5,37]⟩,oS 3 38 37)]) (.ops [oM 39 5 22,oM 40 6 3,oI 41 22 39 40,oL 42 26 41 26,oM 43 8 3,oM 44 9 3,oX 45 (.convert 3 82 (tK 44)) 82,oB 46 .shl 3 (iK 1) (tK 45) 82 3,oI 47 26 42 43,oS 3 47 46]))))) (.ops [oB 48 .add 3 (tK 21) (iK 1) 3 3,oM 21 48 3])))
def A58:SC:= .loop qc
def qd:SC:= .seq (.ops [oB 15 .lss 3 (tK 14) (tK 13) 3 0]) (.seq (.cond (tK 15) .skip (.exit 0)) (.seq (.block 1 (.seq (.ops [oM 16 14 3,oI 17 22 12 14,oL 18 26 17 26,oA 6 16 3,oA 7 18 26]) (.seq (.ops [oM 19 7 26,oN 20 19 26,oX 21 (.move (iK 0)) 3]) (.block 2 A58)))) (.ops [oB 49 .add 3 (tK 14) (iK 1) 3 3,oM 14 49 3])))
def A59:SC:= .loop qd
def k35:SC:= .seq (.ops [oX 2 (.box 34 (tK 0)) 0,oX 4 Gt 22]) (.seq (.ops [oM 10 1 22,oC 11 60 [(tK 10)] [22] 22,oA 5 11 22]) (.seq (.seq (.ops [oM 12 5 22,oN 13 12 22,oX 14 (.move (iK 0)) 3]) (.block 0 A59)) (.seq (.ops [oM 50 5 22,oA 4 50 22]) .ret)))
theorem AEE:Tryz.f35.body.map (BQ lends)=some k35:=by kernel_rfl
theorem AS4:BV Tryz.f35 2=true:=by kernel_rfl
theorem c35{a l:List D}{r:D×List D}(h:BU Y.env k35 (fin Ai l.length [bt 4] r) (entry a l))(ha:a.length=2):Y.call 35 a l=some r:=
 AY (Y:=Y) rfl Tryz.func35 (ha▸AS4) AEE h
def Gp(pL pD:Int)(pN pE:AV)(Cb:AV)(out:AV)(Bn:Int)(out1:AV)(YU:Int)(s:St):Prop:=s.v 2=b8 [bc .i64 pL,bc .i64 pD,bk 26 (AR Ba pN),bk 26 (AR Ba pE)]∧s.v 5=br 26 (AR Ew out1)∧s.v 6=bc .i64 Bn∧(∃w_,s.v 12=D.vw [5] (s.k 5) w_)∧s.v 13=bc .i64 (Cb.length:Int)∧s.v 14=bc .i64 Bn∧s.v 19=D.vw [5,Bn.toNat] (s.k 5) (s.m 5)∧s.v 20=bc .i64 ((out.getD Bn.toNat be).length:Int)∧s.v 21=bc .i64 YU
def Nt(pL pD:Int)(pN pE:AV)(Cb:AV)(out:AV)(Bn:Int)(r:AV)(ex:Ex)(s:St):Prop:=ex= .exit 2∧s.v 2=b8 [bc .i64 pL,bc .i64 pD,bk 26 (AR Ba pN),bk 26 (AR Ba pE)]∧s.v 5=br 26 (AR Ew r)∧(∃w_,s.v 12=D.vw [5] (s.k 5) w_)∧s.v 13=bc .i64 (Cb.length:Int)∧s.v 14=bc .i64 Bn
theorem gK(pL pD:Int)(pN pE:AV)(Cb:AV)(out:AV)(Bn:Int){v:AV×Int}{s:St}{r:AV}(h:OU pL pD pN pE Cb out Bn v=some r)(hM:Gp pL pD pN pE Cb out Bn v.1 v.2 s):BU Y.env A58 (Nt pL pD pN pE Cb out Bn r) s:=by
 unfold OU at h;refine Aw (c:=qc) (fun v=>Jk pL pD pN pE Cb out Bn v.1 v.2) (fun v s=>Gp pL pD pN pE Cb out Bn v.1 v.2 s) (Nt pL pD pN pE Cb out Bn) ?_ h hM;clear h hM s v r;intro v s o hM h;obtain⟨out1,YU⟩:=v;dsimp only at h hM;unfold Jk at h;unfold Gp at hM;obtain⟨m0,m1,m2,⟨w3_,m3⟩,m4,m5,m6,m7,m8⟩:=hM;unfold qc;rcases iS h with⟨e4,h⟩|⟨e4,h⟩
 ·obtain⟨e5,e6,h⟩:=EC h;rcases iS h with⟨e7,h⟩|⟨e7,h⟩
  ·obtain⟨e8,e9,h⟩:=EC h;cases h;simp (maxDischargeDepth:=9) only [↓AO,AP,↓reduceIte,bj,bh,ca,m0,m1,m2,m3,m4,m5,m6,m7,m8,e4,e5,e6.1,e6.2,e7,e8.1,e9,Gp,D6]<;>(repeat' apply A7)<;>first|rfl|exact⟨_,rfl⟩|exact⟨_,_,rfl⟩|simp [AR,Ay]
  ·obtain⟨e8,e9,h⟩:=EC h;cases h;simp (maxDischargeDepth:=9) only [↓AO,AP,↓reduceIte,bj,bh,m0,m1,m2,m3,m4,m5,m6,m7,m8,e4,e5,e6.1,e6.2,e7,e8.1,e9,Gp,D6]<;>(repeat' apply A7)<;>first|rfl|exact⟨_,rfl⟩|exact⟨_,_,rfl⟩|simp [AR,Ay]
 ·cases h;simp (maxDischargeDepth:=9) only [↓AO,AP,↓reduceIte,bj,bh,m0,m1,m3,m4,m5,m7,m8,e4,Gp,Nt,GH]<;>(repeat' apply A7)<;>first|rfl|exact⟨_,rfl⟩|exact⟨_,_,rfl⟩|simp [AR,Ay]
def Jm(pL pD:Int)(pN pE:AV)(Cb:AV)(out:AV)(Bn:Int)(s:St):Prop:=s.v 2=b8 [bc .i64 pL,bc .i64 pD,bk 26 (AR Ba pN),bk 26 (AR Ba pE)]∧s.v 5=br 26 (AR Ew out)∧(∃w_,s.v 12=D.vw [5] (s.k 5) w_)∧s.v 13=bc .i64 (Cb.length:Int)∧s.v 14=bc .i64 Bn
def Nu(pL pD:Int)(pN pE:AV)(Cb:AV)(r:AV)(ex:Ex)(s:St):Prop:=ex= .exit 0∧s.v 5=br 26 (AR Ew r)
theorem gM(pL pD:Int)(pN pE:AV)(Cb:AV){v:AV×Int}{s:St}{r:AV}(h:OV pL pD pN pE Cb v=some r)(hM:Jm pL pD pN pE Cb v.1 v.2 s):BU Y.env A59 (Nu pL pD pN pE Cb r) s:=by
 unfold OV at h;refine Aw (c:=qd) (fun v=>Jl pL pD pN pE Cb v.1 v.2) (fun v s=>Jm pL pD pN pE Cb v.1 v.2 s) (Nu pL pD pN pE Cb) ?_ h hM;clear h hM s v r;intro v s o hM h;obtain⟨out,Bn⟩:=v;dsimp only at h hM;unfold Jl at h;unfold Jm at hM;obtain⟨m0,m1,⟨w2_,m2⟩,m3,m4⟩:=hM;unfold qd;rcases iS h with⟨e2,h⟩|⟨e2,h⟩
 ·obtain⟨e3,h⟩:=De h;obtain⟨AX,hl5,h⟩:=Ag h;try dsimp only at h
  simp (maxDischargeDepth:=9) only [↓AO,AP,↓reduceIte,bj,bh,m1,m2,m3,m4,e2,e3.1,e3.2];refine Ak (gK pL pD pN pE Cb out Bn hl5 ?_) ?_
  ·simp (maxDischargeDepth:=9) only [BL,↓reduceIte,bj,m0,m1,m2,m3,m4,Gp]<;>(repeat' apply A7)<;>first|rfl|exact⟨_,rfl⟩|exact⟨_,_,rfl⟩|simp [AR,Ay]
  ·intro ex5 s5 hX5;unfold Nt at hX5;obtain⟨rfl,n5_0,n5_1,⟨w2_,n5_2⟩,n5_3,n5_4⟩:=hX5;cases h;simp (maxDischargeDepth:=9) only [↓AO,AP,↓reduceIte,bj,bh,n5_0,n5_1,n5_2,n5_3,n5_4,Jm,D6]<;>(repeat' apply A7)<;>first|rfl|exact⟨_,rfl⟩|exact⟨_,_,rfl⟩|simp [AR,Ay]
 ·cases h;simp (maxDischargeDepth:=9) only [↓AO,AP,↓reduceIte,bj,bh,m1,m3,m4,e2,Jm,Nu,GH]
theorem kP(pL pD:Int)(pN pE l:AV){r:AV}(h:UL pL pD pN pE l=some r):Y.call 35 [bw [bc .i64 pL,bc .i64 pD,bk 26 (AR Ba pN),bk 26 (AR Ba pE)],bk 26 (AR Ba l)] []=some (br 26 (AR Ew r),[]):=by
 refine c35 ?_ rfl;unfold k35;unfold UL at h;obtain⟨Cb,hl1,h⟩:=Ag h;have c1:=VW l hl1;obtain⟨Ap,hl3,h⟩:=Ag h;try dsimp only at h
 simp (maxDischargeDepth:=9) only [↓AO,AP,↓reduceIte,bj,bh,bx,c1];refine Ak (gM pL pD pN pE Cb hl3 ?_) ?_
 ·simp (maxDischargeDepth:=9) only [BL,↓reduceIte,bj,bx,Jm]<;>(repeat' apply A7)<;>first|rfl|exact⟨_,rfl⟩|exact⟨_,_,rfl⟩|simp [AR,Ay]
 ·intro ex3 s3 hX3;unfold Nu at hX3;obtain⟨rfl,n3_0⟩:=hX3;cases h;simp (maxDischargeDepth:=9) only [↓AO,AP,↓reduceIte,bj,bh,n3_0]
def LG(n_1 i1:Int):Option ((Int×Int)⊕(Int)):= if 0<i1 then some (bo (bm.wrap (n_1.tdiv 2),bm.wrap (i1-1))) else some (bl n_1)
def QA(v:Int×Int):Option (Int):=E9 (fun v=>LG v.1 v.2) v
def ay(n_ i:Int):Option (Int):= (QA (n_,i)).bind fun AX=> some (AX.tmod 2)
def qf:SC:= .seq (.seq (.ops [oM 5 1 3,oB 6 .gtr 3 (tK 5) (iK 0) 3 4]) (.cond (tK 6) .skip (.exit 0))) (.seq (.block 1 (.ops [oM 9 0 3,oB 10 .quo 3 (tK 9) (iK 2) 3 3,oA 0 10 3])) (.ops [oM 7 1 3,oB 8 .sub 3 (tK 7) (iK 1) 3 3,oA 1 8 3]))
def A5B:SC:= .loop qf
def k93:SC:= .seq (.ops [oX 4 (.assign (iK 0)) 3]) (.seq (.block 0 A5B) (.seq (.ops [oM 11 0 3,oB 12 .rem 3 (tK 11) (iK 2) 3 3,oA 4 12 3]) .ret))
theorem AEF:Tryz.f93.body.map (BQ lends)=some k93:=by kernel_rfl
theorem AS6:BV Tryz.f93 2=true:=by kernel_rfl
theorem c93{a l:List D}{r:D×List D}(h:BU Y.env k93 (fin Ai l.length [bt 4] r) (entry a l))(ha:a.length=2):Y.call 93 a l=some r:=
 AY (Y:=Y) rfl Tryz.func93 (ha▸AS6) AEF h
def LH(n_1 i1:Int)(s:St):Prop:=s.v 0=bc .i64 n_1∧s.v 1=bc .i64 i1
def Oy(r:Int)(ex:Ex)(s:St):Prop:=ex= .exit 0∧s.v 0=bc .i64 r
theorem kQ{v:Int×Int}{s:St}{r:Int}(h:QA v=some r)(hM:LH v.1 v.2 s):BU Y.env A5B (Oy r) s:=by
 unfold QA at h;refine Aw (c:=qf) (fun v=>LG v.1 v.2) (fun v s=>LH v.1 v.2 s) (Oy) ?_ h hM;clear h hM s v r;intro v s o hM h;obtain⟨n_1,i1⟩:=v;dsimp only at h hM;unfold LG at h;unfold LH at hM;obtain⟨m0,m1⟩:=hM;unfold qf;rcases iS h with⟨e1,h⟩|⟨e1,h⟩
 ·cases h;simp (maxDischargeDepth:=9) only [↓AO,AP,↓reduceIte,bj,bh,Int.reduceEq,m0,m1,e1,LH,D6]
 ·cases h;simp (maxDischargeDepth:=9) only [↓AO,AP,↓reduceIte,bj,bh,m0,m1,e1,LH,Oy,GH]
theorem qg(n_ i:Int){r:Int}(h:ay n_ i=some r):Y.call 93 [bc .i64 n_,bc .i64 i] []=some (bc .i64 r,[]):=by
 refine c93 ?_ rfl;unfold k93;unfold ay at h;obtain⟨AX,hl2,h⟩:=Ag h;try dsimp only at h
 simp (maxDischargeDepth:=9) only [↓AO,AP,↓reduceIte,bj,bh];refine Ak (kQ hl2 ?_) ?_
 ·simp (maxDischargeDepth:=9) only [BL,Cv,↓reduceIte,bj,bh,LH]
 ·intro ex2 s2 hX2;unfold Oy at hX2;obtain⟨rfl,n2_0⟩:=hX2;cases h;simp (maxDischargeDepth:=9) only [↓AO,AP,↓reduceIte,bj,bh,Int.reduceEq,n2_0]
def Kc(mask a:Int):Option (Bool):= (ay mask a).bind fun r7_=> some (decide (r7_=1))
def k61:SC:= .seq (.ops [oX 4 BR 4]) (.seq (.ops [oM 5 0 3,oM 6 1 3,oC 7 93 [(tK 5),(tK 6)] [3,3] 3,oB 8 .eql 3 (tK 7) (iK 1) 3 4,oA 4 8 4]) .ret)
theorem AEG:Tryz.f61.body.map (BQ lends)=some k61:=by kernel_rfl
theorem AS8:BV Tryz.f61 2=true:=by kernel_rfl
theorem c61{a l:List D}{r:D×List D}(h:BU Y.env k61 (fin Ai l.length [bt 4] r) (entry a l))(ha:a.length=2):Y.call 61 a l=some r:=
 AY (Y:=Y) rfl Tryz.func61 (ha▸AS8) AEG h
theorem MM(mask a:Int){r:Bool}(h:Kc mask a=some r):Y.call 61 [bc .i64 mask,bc .i64 a] []=some (bp r,[]):=by
 refine c61 ?_ rfl;unfold k61;unfold Kc at h;obtain⟨r7_,hl1,h⟩:=Ag h;try dsimp only at h
 have c1:=qg mask a hl1;cases h;simp (maxDischargeDepth:=9) only [↓AO,AP,↓reduceIte,bj,bh,bx,c1]
def I4(rec_:AU→AU→Int→Option Bool)(x_ masks:AU)(k Dz:Int):Option ((Int)⊕(Unit⊕Unit)):= if Dz<(x_.length:Int)then ck (0≤Dz∧Dz.toNat<x_.length)<| if 0<Dz then ck (0≤bm.wrap (Dz-1)∧(bm.wrap (Dz-1)).toNat<x_.length)<| if(x_.getD ((bm.wrap (Dz-1)).toNat) be)=(x_.getD Dz.toNat be)then some (bo (bm.wrap (Dz+1))) else ck (0≤k∧k.toNat<masks.length)<| (Kc (masks.getD k.toNat be) (x_.getD Dz.toNat be)).bind fun gN=> if gN=true then ck (0≤Dz)<| ck (Dz.toNat≤x_.length)<| (Kw ((x_.take Dz.toNat).drop 0)).bind fun zV=> ck (0≤bm.wrap (Dz+1))<| ck ((bm.wrap (Dz+1)).toNat≤x_.length)<| ck (zV.length+((x_.take x_.length).drop ((bm.wrap (Dz+1)).toNat)).length<1099511627776)<| (rec_ (zV++((x_.take x_.length).drop ((bm.wrap (Dz+1)).toNat))) masks (bm.wrap (k+1))).bind fun gH=> if gH=true then some (bl (bo ())) else some (bo (bm.wrap (Dz+1))) else some (bo (bm.wrap (Dz+1))) else ck (0≤k∧k.toNat<masks.length)<| (Kc (masks.getD k.toNat be) (x_.getD Dz.toNat be)).bind fun gN=> if gN=true then ck (0≤Dz)<| ck (Dz.toNat≤x_.length)<| (Kw ((x_.take Dz.toNat).drop 0)).bind fun zV=>
 ck (0≤bm.wrap (Dz+1))<| ck ((bm.wrap (Dz+1)).toNat≤x_.length)<| ck (zV.length+((x_.take x_.length).drop ((bm.wrap (Dz+1)).toNat)).length<1099511627776)<| (rec_ (zV++((x_.take x_.length).drop ((bm.wrap (Dz+1)).toNat))) masks (bm.wrap (k+1))).bind fun gH=> if gH=true then some (bl (bo ())) else some (bo (bm.wrap (Dz+1))) else some (bo (bm.wrap (Dz+1))) else some (bl (bl ()))
def Oz(rec_:AU→AU→Int→Option Bool)(x_ masks:AU)(k v:Int):Option (Unit⊕Unit):=E9 (fun v=>I4 rec_ x_ masks k v) v
def Ke(rec_:AU→AU→Int→Option Bool)(x_ masks:AU)(k:Int):Option (Bool):=
 if k=(masks.length:Int)then
  some true
 else
  (Oz rec_ x_ masks k 0).bind fun AX=>
  match AX with
  | .inl q1000_=>
   some true
  | .inr q1000_=>
   some false
def EY:Nat→AU→AU→Int→Option Bool |0=>fun _ _ _=>none |n+1=>fun x_ masks k=>Ke (EY n) x_ masks k
def YV(x_ masks:AU)(k:Int):Option (Bool):=EY 1000000 x_ masks k
abbrev YW:List Nat:=[40,41,42,43,44,45,46,47,48,43,47,43,0,49,50,51,52]
def gP:SC:= .seq (.ops [oB 16 .lss 3 (tK 15) (tK 14) 3 0]) (.seq (.cond (tK 16) .skip (.exit 0)) (.seq (.block 1 (.seq (.ops [oM 17 15 3,oI 18 26 13 15,oL 19 3 18 3,oA 7 17 3,oA 8 19 3]) (.seq (.seq (.ops [oM 20 7 3,oB 21 .gtr 3 (tK 20) (iK 0) 3 4,oM 22 21 4,⟨some 23,.move (tK 0),26,(some (some 22,true))⟩,⟨some 24,.move (tK 7),3,(some (some 22,true))⟩,⟨some 25,.binOp .sub 3 (tK 24) (iK 1) 3,3,(some (some 22,true))⟩,⟨some 26,.indexAddr 26 (tK 23) (tK 25),0,(some (some 22,true))⟩,⟨some 27,.load 3 (tK 26),3,(some (some 22,true))⟩,⟨some 28,.move (tK 8),3,(some (some 22,true))⟩,⟨some 29,.binOp .eql 3 (tK 27) (tK 28) 3,4,(some (some 22,true))⟩,oX 30 (.pick (tK 22) (tK 29) Lm) 4,oM 31 30 4,⟨some 32,.move (tK 1),26,(some (some 31,false))⟩,⟨some 33,.move (tK 2),3,(some (some 31,false))⟩,⟨some 34,.indexAddr 26 (tK 32) (tK 33),0,(some (some 31,false))⟩,⟨some 35,.load 3 (tK 34),3,(some (some 31,false))⟩,⟨some 36,.move (tK 8),3,(some (some 31,false))⟩,⟨some 37,.call ⟨(.value (.func 61)), #[(tK 35),(tK 36)], #[3,3]⟩,4,(some (some 31,false))⟩,⟨some 38,.unOp .not 4 (tK 37),4,(some (some 31,false))⟩,oX 39 (.pick (tK 31) Ck (tK 38)) 4]) (.cond (tK 39) (.exit 1)
 .skip)) (.seq (.draws [(⟨[40,0,0],YW,[40]⟩,oM 40 0 26),(⟨[41,7,7],YW,[41]⟩,oM 41 7 3),(⟨[42,40,41,0,7],YW,[42]⟩,oX 42 (.slice 26 (tK 40) none (some (tK 41)) none) 26),(⟨[43,42,0],YW,[43]⟩,oC 43 92 [(tK 42)] [26] 26),(⟨[44,0,0],YW,[44]⟩,oM 44 0 26),(⟨[45,7,7],YW,[45]⟩,oM 45 7 3),(⟨[46,45,7],YW,[46]⟩,oB 46 .add 3 (tK 45) (iK 1) 3 3),(⟨[47,44,46,0,46],YW,[47]⟩,oX 47 (.slice 26 (tK 44) (some (tK 46)) none none) 26),(⟨[48,43,47,43,0],YW,[48,43,47,43,0]⟩,oX 48 (.call ⟨(.builtin .append), #[(tK 43),(tK 47)], #[26,26]⟩) 26),(⟨[49,1,1],YW,[49]⟩,oM 49 1 26),(⟨[50,2,2],YW,[50]⟩,oM 50 2 3),(⟨[51,50,2],YW,[51]⟩,oB 51 .add 3 (tK 50) (iK 1) 3 3),(⟨[52,48,49,51,48,1,51],YW,[52]⟩,oC 52 124 [(tK 48),(tK 49),(tK 51)] [26,26,3] 4)]) (.cond (tK 52) (.seq (.ops [oX 6 (.assign Ck) 4]) .ret) .skip))))) (.ops [oB 53 .add 3 (tK 15) (iK 1) 3 3,oM 15 53 3])))
def A0X:SC:= .loop gP
def AEH:SC:= .seq (.ops [oX 6 BR 4]) (.seq (.seq (.ops [oM 9 2 3,oM 10 1 26,oN 11 10 26,oB 12 .eql 3 (tK 9) (tK 11) 3 4]) (.cond (tK 12) (.seq (.ops [oX 6 (.assign Ck) 4]) .ret) .skip)) (.seq (.seq (.ops [oM 13 0 26,oN 14 13 26,oX 15 (.move (iK 0)) 3]) (.block 0 A0X)) (.seq (.ops [oX 6 BR 4]) .ret)))
theorem A7f:Tryz.f124.body.map (BQ lends)=some AEH:=by kernel_rfl
theorem ALa:BV Tryz.f124 3=true:=by kernel_rfl
theorem AS9{a l:List D}{r:D×List D}(h:BU Y.env AEH (fin Ai l.length [bt 6] r) (entry a l))(ha:a.length=3):Y.call 124 a l=some r:=
 AY (Y:=Y) rfl Tryz.func124 (ha▸ALa) A7f h
def CY(rec_:AU→AU→Int→Option Bool)(x_ masks:AU)(k Dz:Int)(s:St):Prop:=s.v 0=bk 3 (AR (bc .i64) x_)∧s.v 1=bk 3 (AR (bc .i64) masks)∧s.v 2=bc .i64 k∧s.v 13=bk 3 (AR (bc .i64) x_)∧s.v 14=bc .i64 (x_.length:Int)∧s.v 15=bc .i64 Dz
def Fa(rec_:AU→AU→Int→Option Bool)(x_ masks:AU)(k:Int)(r:Unit⊕Unit)(ex:Ex)(s:St):Prop:=match r with
 | .inl q=>ex= .ret∧s.v 6=bp true
 | .inr q=>ex= .exit 0
theorem Zv(rec_:AU→AU→Int→Option Bool)(x_ masks:AU)(k:Int)(rec_h: ∀(x_ masks:AU) (k:Int) (r:Bool),rec_ x_ masks k=some r→Y.call 124 [bk 3 (AR (bc .i64) x_),bk 3 (AR (bc .i64) masks),bc .i64 k] []=some (bp r,[])){v:Int}{s:St}{r:Unit⊕Unit}(h:Oz rec_ x_ masks k v=some r)(hM:CY rec_ x_ masks k v s):BU Y.env A0X (Fa rec_ x_ masks k r) s:=by
 unfold Oz at h;refine Aw (c:=gP) (fun v=>I4 rec_ x_ masks k v) (fun v s=>CY rec_ x_ masks k v s) (Fa rec_ x_ masks k) ?_ h hM;clear h hM s v r;intro Dz s o hM h;unfold I4 at h;unfold CY at hM;obtain⟨m0,m1,m2,m3,m4,m5⟩:=hM;unfold gP;rcases iS h with⟨e2,h⟩|⟨e2,h⟩
 ·obtain⟨e3,h⟩:=De h;rcases iS h with⟨e4,h⟩|⟨e4,h⟩
  ·obtain⟨e5,h⟩:=De h;rcases iS h with⟨e6,h⟩|⟨e6,h⟩
   ·cases h;simp (maxDischargeDepth:=9) only [↓AO,AP,↓reduceIte,bj,bh,m0,m1,m2,m3,m4,m5,e2,e3.1,e3.2,e4,e5.1,e5.2,decide_eq_true e6,CY,D6]
   ·obtain⟨e7,h⟩:=De h;obtain⟨gN,hl8,h⟩:=Ag h;have c8:=MM (masks.getD k.toNat be) (x_.getD Dz.toNat be) hl8;rcases iS h with⟨e9,h⟩|⟨e9,h⟩
    ·obtain⟨e10,e11,h⟩:=EC h;obtain⟨zV,hl12,h⟩:=Ag h;have c12:=Ky ((x_.take Dz.toNat).drop 0) hl12;obtain⟨e13,e14,e15,h⟩:=Om h;obtain⟨gH,hl16,h⟩:=Ag h;have c16:=rec_h _ _ _ _ hl16;rcases iS h with⟨e17,h⟩|⟨e17,h⟩
     ·cases h;simp (maxDischargeDepth:=9) only [↓AO,AP,↓reduceIte,bj,bh,b5,bx,m0,m1,m2,m3,m4,m5,e2,e3.1,e3.2,e4,e5.1,e5.2,e6,e7.1,e7.2,c8,e9,e11,c12,e13,e14,e15,c16,e17,CY,Fa,OC]
     ·have e17f:gH=false:=Es.mpr e17;cases h;simp (maxDischargeDepth:=9) only [↓AO,AP,↓reduceIte,bj,bh,b5,bx,m0,m1,m2,m3,m4,m5,e2,e3.1,e3.2,e4,e5.1,e5.2,e6,e7.1,e7.2,c8,e9,e11,c12,e13,e14,e15,c16,e17f,CY,D6]
    ·have e9f:gN=false:=Es.mpr e9;cases h;simp (maxDischargeDepth:=9) only [↓AO,AP,↓reduceIte,bj,bh,bx,m0,m1,m2,m3,m4,m5,e2,e3.1,e3.2,e4,e5.1,e5.2,e6,e7.1,e7.2,c8,e9f,CY,D6]
  ·obtain⟨e5,h⟩:=De h;obtain⟨gN,hl6,h⟩:=Ag h;have c6:=MM (masks.getD k.toNat be) (x_.getD Dz.toNat be) hl6;rcases iS h with⟨e7,h⟩|⟨e7,h⟩
   ·obtain⟨e8,e9,h⟩:=EC h;obtain⟨zV,hl10,h⟩:=Ag h;have VS:=Ky ((x_.take Dz.toNat).drop 0) hl10;obtain⟨e11,e12,e13,h⟩:=Om h;obtain⟨gH,hl14,h⟩:=Ag h;have qa:=rec_h _ _ _ _ hl14;rcases iS h with⟨e15,h⟩|⟨e15,h⟩
    ·cases h;simp (maxDischargeDepth:=9) only [↓AO,AP,↓reduceIte,bj,bh,b5,bx,m0,m1,m2,m3,m4,m5,e2,e3.1,e3.2,e4,e5.1,e5.2,c6,e7,e9,VS,e11,e12,e13,qa,e15,CY,Fa,OC]
    ·have e15f:gH=false:=Es.mpr e15;cases h;simp (maxDischargeDepth:=9) only [↓AO,AP,↓reduceIte,bj,bh,b5,bx,m0,m1,m2,m3,m4,m5,e2,e3.1,e3.2,e4,e5.1,e5.2,c6,e7,e9,VS,e11,e12,e13,qa,e15f,CY,D6]
   ·have e7f:gN=false:=Es.mpr e7;cases h;simp (maxDischargeDepth:=9) only [↓AO,AP,↓reduceIte,bj,bh,bx,m0,m1,m2,m3,m4,m5,e2,e3.1,e3.2,e4,e5.1,e5.2,c6,e7f,CY,D6]
 ·cases h;simp (maxDischargeDepth:=9) only [↓AO,AP,↓reduceIte,bh,m4,m5,e2,CY,Fa,GH]
theorem YX(rec_:AU→AU→Int→Option Bool)(x_ masks:AU)(k:Int)(rec_h: ∀(x_ masks:AU) (k:Int) (r:Bool),rec_ x_ masks k=some r→Y.call 124 [bk 3 (AR (bc .i64) x_),bk 3 (AR (bc .i64) masks),bc .i64 k] []=some (bp r,[])){r:Bool}(h:Ke rec_ x_ masks k=some r):Y.call 124 [bk 3 (AR (bc .i64) x_),bk 3 (AR (bc .i64) masks),bc .i64 k] []=some (bp r,[]):=by
 refine AS9 ?_ rfl;unfold AEH;unfold Ke at h;rcases iS h with⟨e1,h⟩|⟨e1,h⟩
 ·cases h;simp (maxDischargeDepth:=9) only [↓AO,AP,↓reduceIte,bj,bh,decide_eq_true e1]
 ·obtain⟨AX,hl3,h⟩:=Ag h;try dsimp only at h
  simp (maxDischargeDepth:=9) only [↓AO,AP,↓reduceIte,bj,bh,e1];refine Ak (Zv rec_ x_ masks k rec_h hl3 ?_) ?_
  ·simp (maxDischargeDepth:=9) only [BL,Cv,↓reduceIte,bj,bh,CY]
  ·intro ex3 s3 hX3;rcases AX with q1000_|q1000_
   ·unfold Fa at hX3;dsimp only at hX3 h;obtain⟨rfl,n3_0⟩:=hX3;cases h;simp (maxDischargeDepth:=9) only [↓AO,AP,↓reduceIte,n3_0]
   ·unfold Fa at hX3;dsimp only at hX3 h
    obtain rfl:=hX3
    cases h;simp (maxDischargeDepth:=9) only [↓AO,AP,↓reduceIte,bj,bh]
theorem YY(n:Nat): ∀(x_:AU) (masks:AU) (k:Int) (r:Bool),EY n x_ masks k=some r→Y.call 124 [bk 3 (AR (bc .i64) x_),bk 3 (AR (bc .i64) masks),bc .i64 k] []=some (bp r,[]):=by
 induction n with
 |zero=>intro x_ masks k r h;exact absurd h (by rw [EY];exact fun e=>by cases e)
 |succ n ih=>intro x_ masks k r h;rw [EY]at h;exact YX (EY n) x_ masks k ih h
theorem gQ(x_ masks:AU)(k:Int){r:Bool}(h:YV x_ masks k=some r):Y.call 124 [bk 3 (AR (bc .i64) x_),bk 3 (AR (bc .i64) masks),bc .i64 k] []=some (bp r,[]):=YY 1000000 x_ masks k r h
def G5(pN:AV)(masks:AU)(Q6:Int):Option ((Int)⊕(Unit⊕Unit)):= if Q6<(pN.length:Int)then ck (0≤Q6∧Q6.toNat<pN.length)<| (YV (pN.getD Q6.toNat be) masks (0:Int)).bind fun eG=> if eG=true then some (bl (bo ())) else some (bo (bm.wrap (Q6+1))) else some (bl (bl ()))
def Nw(pN:AV)(masks:AU)(v:Int):Option (Unit⊕Unit):=E9 (fun v=>G5 pN masks v) v
def QB(pL pD:Int)(pN pE:AV)(masks:AU):Option (Bool):=
 (Nw pN masks 0).bind fun AX=>
 match AX with
 | .inl q1000_=>
  some true
 | .inr q1000_=>
  some false
def qh:SC:= .seq (.ops [oB 11 .lss 3 (tK 10) (tK 9) 3 0]) (.seq (.cond (tK 11) .skip (.exit 0)) (.seq (.block 1 (.seq (.ops [oI 12 22 8 10,oL 13 26 12 26,oA 6 13 26]) (.seq (.ops [oM 14 6 26,oM 15 1 26,oC 16 124 [(tK 14),(tK 15),(iK 0)] [26,26,3] 4]) (.cond (tK 16) (.seq (.ops [oX 4 (.assign Ck) 4]) .ret) .skip)))) (.ops [oB 17 .add 3 (tK 10) (iK 1) 3 3,oM 10 17 3])))
def A5C:SC:= .loop qh
def k95:SC:= .seq (.ops [oX 2 (.box 34 (tK 0)) 0,oX 4 BR 4]) (.seq (.seq (.ops [oF 7 34 2 2,oL 8 22 7 22,oN 9 8 22,oX 10 (.move (iK 0)) 3]) (.block 0 A5C)) (.seq (.ops [oX 4 BR 4]) .ret))
theorem AEI:Tryz.f95.body.map (BQ lends)=some k95:=by kernel_rfl
theorem ASB:BV Tryz.f95 2=true:=by kernel_rfl
theorem c95{a l:List D}{r:D×List D}(h:BU Y.env k95 (fin Ai l.length [bt 4] r) (entry a l))(ha:a.length=2):Y.call 95 a l=some r:=
 AY (Y:=Y) rfl Tryz.func95 (ha▸ASB) AEI h
def Ej(pN:AV)(masks:AU)(Q6:Int)(s:St):Prop:=s.v 1=bk 3 (AR (bc .i64) masks)∧s.v 8=bk 26 (AR Ba pN)∧s.v 9=bc .i64 (pN.length:Int)∧s.v 10=bc .i64 Q6
def G6(pN:AV)(masks:AU)(r:Unit⊕Unit)(ex:Ex)(s:St):Prop:=match r with
 | .inl q=>ex= .ret∧s.v 4=bp true
 | .inr q=>ex= .exit 0
theorem YZ(pN:AV)(masks:AU){v:Int}{s:St}{r:Unit⊕Unit}(h:Nw pN masks v=some r)(hM:Ej pN masks v s):BU Y.env A5C (G6 pN masks r) s:=by
 unfold Nw at h;refine Aw (c:=qh) (fun v=>G5 pN masks v) (fun v s=>Ej pN masks v s) (G6 pN masks) ?_ h hM;clear h hM s v r;intro Q6 s o hM h;unfold G5 at h;unfold Ej at hM;obtain⟨m0,m1,m2,m3⟩:=hM;unfold qh;rcases iS h with⟨e1,h⟩|⟨e1,h⟩
 ·obtain⟨e2,h⟩:=De h;obtain⟨eG,hl3,h⟩:=Ag h;have c3:=gQ (pN.getD Q6.toNat be) masks (0:Int) hl3;rcases iS h with⟨e4,h⟩|⟨e4,h⟩
  ·cases h;simp (maxDischargeDepth:=9) only [↓AO,AP,↓reduceIte,bj,bh,bx,m0,m1,m2,m3,e1,e2.1,e2.2,c3,e4,Ej,G6,OC]
  ·have e4f:eG=false:=Es.mpr e4;cases h;simp (maxDischargeDepth:=9) only [↓AO,AP,↓reduceIte,bj,bh,bx,m0,m1,m2,m3,e1,e2.1,e2.2,c3,e4f,Ej,D6]
 ·cases h;simp (maxDischargeDepth:=9) only [↓AO,AP,↓reduceIte,bh,m2,m3,e1,Ej,G6,GH]
theorem Zw(pL pD:Int)(pN pE:AV)(masks:AU){r:Bool}(h:QB pL pD pN pE masks=some r):Y.call 95 [bw [bc .i64 pL,bc .i64 pD,bk 26 (AR Ba pN),bk 26 (AR Ba pE)],bk 3 (AR (bc .i64) masks)] []=some (bp r,[]):=by
 refine c95 ?_ rfl;unfold k95;unfold QB at h;obtain⟨AX,hl2,h⟩:=Ag h;try dsimp only at h
 simp (maxDischargeDepth:=9) only [↓AO,AP,↓reduceIte,bj,bh,bx];refine Ak (YZ pN masks hl2 ?_) ?_
 ·simp (maxDischargeDepth:=9) only [BL,Cv,↓reduceIte,bj,bh,Ej]
 ·intro ex2 s2 hX2;rcases AX with q1000_|q1000_
  ·unfold G6 at hX2;dsimp only at hX2 h;obtain⟨rfl,n2_0⟩:=hX2;cases h;simp (maxDischargeDepth:=9) only [↓AO,AP,↓reduceIte,n2_0]
  ·unfold G6 at hX2;dsimp only at hX2 h
   obtain rfl:=hX2
   cases h;simp (maxDischargeDepth:=9) only [↓AO,AP,↓reduceIte,bj,bh]
def EI(tL tD:Int)(tN tE:AV)(AB:Ac)(AL A8:AU)(Di:AV)(Gu Oe QK:Int)(Bn:Bool)(Dz:Int):Option ((Bool×Int)⊕(Bool)):= if Dz<tL then if(((BH (AB.getD Gu.toNat be) Oe.toNat)==Gu)&&((Bj (AB.getD Gu.toNat be) Oe.toNat)==Oe))=true then if Bn=true then some (bo (true,bm.wrap (Dz+1))) else if QK=Dz then ck (0≤(BH (AB.getD Gu.toNat be) Oe.toNat)∧(BH (AB.getD Gu.toNat be) Oe.toNat).toNat<Di.length)<| ck (0≤(Bj (AB.getD Gu.toNat be) Oe.toNat)∧(Bj (AB.getD Gu.toNat be) Oe.toNat).toNat<(Di.getD ((BH (AB.getD Gu.toNat be) Oe.toNat).toNat) be).length)<| (Kc ((Di.getD ((BH (AB.getD Gu.toNat be) Oe.toNat).toNat) be).getD ((Bj (AB.getD Gu.toNat be) Oe.toNat).toNat) be) Dz).bind fun GX=> if GX=true then ck (BK tE)<| some (bo ((K5 tE QK Dz),bm.wrap (Dz+1))) else some (bo (false,bm.wrap (Dz+1))) else some (bo (false,bm.wrap (Dz+1))) else if Bn=true then some (bo (true,bm.wrap (Dz+1))) else ck (0≤(BH (AB.getD Gu.toNat be) Oe.toNat)∧(BH (AB.getD Gu.toNat be) Oe.toNat).toNat<Di.length)<| ck (0≤(Bj (AB.getD Gu.toNat be) Oe.toNat)∧(Bj (AB.getD Gu.toNat be) Oe.toNat).toNat<(Di.getD ((BH (AB.getD Gu.toNat be) Oe.toNat).toNat) be).length)<|
 (Kc ((Di.getD ((BH (AB.getD Gu.toNat be) Oe.toNat).toNat) be).getD ((Bj (AB.getD Gu.toNat be) Oe.toNat).toNat) be) Dz).bind fun GX=> if GX=true then ck (BK tE)<| some (bo ((K5 tE QK Dz),bm.wrap (Dz+1))) else some (bo (false,bm.wrap (Dz+1))) else some (bl Bn)
def I5(tL tD:Int)(tN tE:AV)(AB:Ac)(AL A8:AU)(Di:AV)(Gu Oe QK:Int)(v:Bool×Int):Option (Bool):=E9 (fun v=>EI tL tD tN tE AB AL A8 Di Gu Oe QK v.1 v.2) v
def Lv(tL tD:Int)(tN tE:AV)(AB:Ac)(AL A8:AU)(Di:AV)(Gu Oe QK:Int):Option (Bool):= ck (0≤Gu∧Gu.toNat<AB.length)<| ck (0≤Oe∧Oe.toNat<(AB.getD Gu.toNat be).length)<| (I5 tL tD tN tE AB AL A8 Di Gu Oe QK (false,0)).bind fun AX=> if AX=true then if((AB.getD Gu.toNat be).length:Int)=tD then ck (0≤Gu∧Gu.toNat<Di.length)<| (Kw (Di.getD Gu.toNat be)).bind fun A7g=> ck (¬(bO.wrap QK)<0)<| ck (0≤Oe∧Oe.toNat<A7g.length)<| (QB tL tD tN tE (A7g.set Oe.toNat (bm.wrap (1*2 ^ (min (bO.wrap QK).toNat (bm.bits)))))).bind fun ALb=> some ALb else some AX else some AX
abbrev P5:List Nat:=[42,43,42,44,45,44,46,47,48,49,50,51,52,53,54,55,56,57,58,59,60,61,62,63,64,14,64,64]
def qi:SC:= .seq (.seq (.ops [oM 26 15 3,oF 27 34 6 0,oL 28 3 27 3,oB 29 .lss 3 (tK 26) (tK 28) 3 4]) (.cond (tK 29) .skip (.exit 0))) (.seq (.block 1 (.seq (.ops [oL 32 87 13 87,oM 33 3 3,oM 34 4 3,oX 35 (.build 87 #[(0,(tK 33)),(1,(tK 34))]) 87,oB 36 .neq 87 (tK 32) (tK 35) 87 4,oM 37 36 4,⟨some 38,.move (tK 5),3,(some (some 37,false))⟩,⟨some 39,.move (tK 15),3,(some (some 37,false))⟩,⟨some 40,.binOp .eql 3 (tK 38) (tK 39) 3,4,(some (some 37,false))⟩,oX 41 (.pick (tK 37) Ck (tK 40)) 4,oA 16 41 4]) (.draws [(⟨[42,14,14],P5,[42]⟩,oM 42 14 4),(⟨[43,42,14],P5,[43,42]⟩,oM 43 42 4),(⟨[44,16,16,43],P5,[44]⟩,⟨some 44,.move (tK 16),4,(some (some 43,false))⟩),(⟨[45,44,16,43],P5,[45,44]⟩,⟨some 45,.move (tK 44),4,(some (some 43,false))⟩),(⟨[46,2,2,45],P5,[46]⟩,⟨some 46,.move (tK 2),22,(some (some 45,true))⟩),(⟨[47,13,13,45],P5,[47]⟩,⟨some 47,.fieldAddr 87 (tK 13) 0,0,(some (some 45,true))⟩),(⟨[48,47,13,45],P5,[48]⟩,⟨some 48,.load 3 (tK 47),3,(some (some 45,true))⟩),(⟨[49,46,48,2,13,45],P5,[49]⟩,⟨some 49,.indexAddr 22 (tK 46) (tK 48),0,(some (some 45,true))⟩),(⟨[50,49,2,45],P5,[50]⟩,⟨some 50,.load 26 (tK 49),26,(some (some 45,true))⟩),(⟨[51,13,13,45],P5,[51]⟩,⟨some 51,.fieldAddr 87 (tK 13) 1,0,(some (some 45,true))⟩),
 (⟨[52,51,13,45],P5,[52]⟩,⟨some 52,.load 3 (tK 51),3,(some (some 45,true))⟩),(⟨[53,50,52,2,13,45],P5,[53]⟩,⟨some 53,.indexAddr 26 (tK 50) (tK 52),0,(some (some 45,true))⟩),(⟨[54,53,2,45],P5,[54]⟩,⟨some 54,.load 3 (tK 53),3,(some (some 45,true))⟩),(⟨[55,15,15,45],P5,[55]⟩,⟨some 55,.move (tK 15),3,(some (some 45,true))⟩),(⟨[56,54,55,2,15,45],P5,[56]⟩,⟨some 56,.call ⟨(.value (.func 61)), #[(tK 54),(tK 55)], #[3,3]⟩,4,(some (some 45,true))⟩),(⟨[57,45,56,16,56,43],P5,[57]⟩,⟨some 57,.pick (tK 45) (tK 56) Lm,4,(some (some 43,false))⟩),(⟨[58,57,57,43],P5,[58]⟩,⟨some 58,.move (tK 57),4,(some (some 43,false))⟩),(⟨[59,6,6,58],P5,[59]⟩,⟨some 59,.load 34 (tK 6),34,(some (some 58,true))⟩),(⟨[60,5,5,58],P5,[60]⟩,⟨some 60,.move (tK 5),3,(some (some 58,true))⟩),(⟨[61,15,15,58],P5,[61]⟩,⟨some 61,.move (tK 15),3,(some (some 58,true))⟩),(⟨[62,59,60,61,6,5,15,58],P5,[62]⟩,⟨some 62,.call ⟨(.value (.func 94)), #[(tK 59),(tK 60),(tK 61)], #[34,3,3]⟩,4,(some (some 58,true))⟩),(⟨[63,58,62,57,62,43],P5,[63]⟩,⟨some 63,.pick (tK 58) (tK 62) Lm,4,(some (some 43,false))⟩),(⟨[64,43,63,14,63],P5,[64]⟩,oX 64 (.pick (tK 43) Ck (tK 63)) 4),(⟨[14,64,64],P5,[14,64,64]⟩,oA 14 64 4)]))) (.ops [oM 30 15 3,
 oB 31 .add 3 (tK 30) (iK 1) 3 3,oA 15 31 3]))
def A5D:SC:= .loop qi
abbrev Ya:List Nat:=[65,66,67,68,69,70,71,72,73,74,75,76,77]
def k62:SC:= .seq (.ops [oX 6 (.box 34 (tK 0)) 0,oX 7 (.box 38 (tK 1)) 0,oX 12 BR 4]) (.seq (.ops [oF 18 38 7 0,oL 19 36 18 36,oM 20 3 3,oI 21 36 19 20,oL 22 79 21 79,oM 23 4 3,oI 24 79 22 23,oL 25 87 24 87,oX 13 (.alloc 87) 0,oS 87 13 25]) (.seq (.ops [oX 14 BR 4]) (.seq (.seq (.ops [oX 15 (.assign (iK 0)) 3]) (.block 0 A5D)) (.seq (.seq (.draws [(⟨[65,14,14],Ya,[65]⟩,oM 65 14 4),(⟨[66,65,14],Ya,[66]⟩,oX 66 (.unOp .not 4 (tK 65)) 4),(⟨[67,66,66],Ya,[67]⟩,oM 67 66 4),(⟨[68,7,7,67],Ya,[68]⟩,⟨some 68,.fieldAddr 38 (tK 7) 0,0,(some (some 67,false))⟩),(⟨[69,68,7,67],Ya,[69]⟩,⟨some 69,.load 36 (tK 68),36,(some (some 67,false))⟩),(⟨[70,3,3,67],Ya,[70]⟩,⟨some 70,.move (tK 3),3,(some (some 67,false))⟩),(⟨[71,69,70,7,3,67],Ya,[71]⟩,⟨some 71,.indexAddr 36 (tK 69) (tK 70),0,(some (some 67,false))⟩),(⟨[72,71,7,67],Ya,[72]⟩,⟨some 72,.load 79 (tK 71),79,(some (some 67,false))⟩),(⟨[73,72,7,67],Ya,[73]⟩,⟨some 73,.call ⟨(.builtin .len), #[(tK 72)], #[79]⟩,3,(some (some 67,false))⟩),(⟨[74,6,6,67],Ya,[74]⟩,⟨some 74,.fieldAddr 34 (tK 6) 1,0,(some (some 67,false))⟩),(⟨[75,74,6,67],Ya,[75]⟩,⟨some 75,.load 3 (tK 74),3,(some (some 67,false))⟩),(⟨[76,73,75,73,6,67],Ya,[76]⟩,⟨some 76,.binOp .neq 3 (tK 73) (tK 75) 3,4,(some (some 67,false))⟩),
 (⟨[77,67,76,66,76],Ya,[77]⟩,oX 77 (.pick (tK 67) Ck (tK 76)) 4)]) (.cond (tK 77) (.seq (.ops [oM 78 14 4,oA 12 78 4]) .ret) .skip)) (.seq (.ops [oM 79 2 22,oM 80 3 3,oI 81 22 79 80,oL 82 26 81 26,oC 83 92 [(tK 82)] [26] 26,oA 17 83 26]) (.seq (.ops [oM 84 17 26,oM 85 4 3,oM 86 5 3,oX 87 (.convert 3 82 (tK 86)) 82,oB 88 .shl 3 (iK 1) (tK 87) 82 3,oI 89 26 84 85,oS 3 89 88]) (.seq (.ops [oL 90 34 6 34,oM 91 17 26,oC 92 95 [(tK 90),(tK 91)] [34,26] 4,oA 12 92 4]) .ret)))))))
theorem AEJ:Tryz.f62.body.map (BQ lends)=some k62:=by kernel_rfl
theorem ASD:BV Tryz.f62 6=true:=by kernel_rfl
theorem c62{a l:List D}{r:D×List D}(h:BU Y.env k62 (fin Ai l.length [bt 12] r) (entry a l))(ha:a.length=6):Y.call 62 a l=some r:=
 AY (Y:=Y) rfl Tryz.func62 (ha▸ASD) AEJ h
def Bl(tL tD:Int)(tN tE:AV)(AB:Ac)(AL A8:AU)(Di:AV)(Gu Oe QK:Int)(Bn:Bool)(Dz:Int)(s:St):Prop:=s.v 2=bk 26 (AR Ba Di)∧s.v 3=bc .i64 Gu∧s.v 4=bc .i64 Oe∧s.v 5=bc .i64 QK∧s.v 6=b8 [bc .i64 tL,bc .i64 tD,bk 26 (AR Ba tN),bk 26 (AR Ba tE)]∧s.v 7=b8 [bk 79 (AR (fun x=>bk 87 (Aj .i64 .i64 x)) AB),bk 3 (AR (bc .i64) AL),bk 3 (AR (bc .i64) A8)]∧s.v 13=b8 [bc .i64 (BH (AB.getD Gu.toNat be) Oe.toNat),bc .i64 (Bj (AB.getD Gu.toNat be) Oe.toNat)]∧s.v 14=bp Bn∧s.v 15=bc .i64 Dz
def J4(tL tD:Int)(tN tE:AV)(AB:Ac)(AL A8:AU)(Di:AV)(Gu Oe QK:Int)(r:Bool)(ex:Ex)(s:St):Prop:=ex= .exit 0∧s.v 2=bk 26 (AR Ba Di)∧s.v 3=bc .i64 Gu∧s.v 4=bc .i64 Oe∧s.v 5=bc .i64 QK∧s.v 6=b8 [bc .i64 tL,bc .i64 tD,bk 26 (AR Ba tN),bk 26 (AR Ba tE)]∧s.v 7=b8 [bk 79 (AR (fun x=>bk 87 (Aj .i64 .i64 x)) AB),bk 3 (AR (bc .i64) AL),bk 3 (AR (bc .i64) A8)]∧s.v 14=bp r
theorem VD(tL tD:Int)(tN tE:AV)(AB:Ac)(AL A8:AU)(Di:AV)(Gu Oe QK:Int){v:Bool×Int}{s:St}{r:Bool}(h:I5 tL tD tN tE AB AL A8 Di Gu Oe QK v=some r)(hM:Bl tL tD tN tE AB AL A8 Di Gu Oe QK v.1 v.2 s):BU Y.env A5D (J4 tL tD tN tE AB AL A8 Di Gu Oe QK r) s:=by
 unfold I5 at h;refine Aw (c:=qi) (fun v=>EI tL tD tN tE AB AL A8 Di Gu Oe QK v.1 v.2) (fun v s=>Bl tL tD tN tE AB AL A8 Di Gu Oe QK v.1 v.2 s) (J4 tL tD tN tE AB AL A8 Di Gu Oe QK) ?_ h hM;clear h hM s v r;intro v s o hM h;obtain⟨Bn,Dz⟩:=v;dsimp only at h hM;unfold EI at h;unfold Bl at hM;obtain⟨m0,m1,m2,m3,m4,m5,m6,m7,m8⟩:=hM;unfold qi;rcases iS h with⟨e3,h⟩|⟨e3,h⟩
 ·rcases iS h with⟨e4,h⟩|⟨e4,h⟩
  ·rcases iS h with⟨e5,h⟩|⟨e5,h⟩
   ·cases h;simp (maxDischargeDepth:=9) only [↓AO,AP,↓reduceIte,bj,bh,b5,bx,m0,m1,m2,m3,m4,m5,m6,m7,m8,e3,e4,e5,Bl,D6]
   ·have e5f:Bn=false:=Es.mpr e5;rcases iS h with⟨e6,h⟩|⟨e6,h⟩
    ·obtain⟨e7,e8,h⟩:=EC h;obtain⟨GX,hl9,h⟩:=Ag h;have c9:=MM ((Di.getD ((BH (AB.getD Gu.toNat be) Oe.toNat).toNat) be).getD ((Bj (AB.getD Gu.toNat be) Oe.toNat).toNat) be) Dz hl9;rcases iS h with⟨e10,h⟩|⟨e10,h⟩
     ·obtain⟨e11,h⟩:=De h;have c12:=ZH tL tD tN tE QK Dz e11;cases h;simp (maxDischargeDepth:=9) only [↓AO,AP,↓reduceIte,bj,bh,b5,bx,ca,m0,m1,m2,m3,m4,m5,m6,m7,m8,e3,e4,e5f,decide_eq_true e6,e7.1,e7.2,e8.1,e8.2,c9,e10,c12,Bl,D6]
     ·have e10f:GX=false:=Es.mpr e10;cases h;simp (maxDischargeDepth:=9) only [↓AO,AP,↓reduceIte,bj,bh,b5,bx,ca,m0,m1,m2,m3,m4,m5,m6,m7,m8,e3,e4,e5f,decide_eq_true e6,e7.1,e7.2,e8.1,e8.2,c9,e10f,Bl,D6]
    ·cases h;simp (maxDischargeDepth:=9) only [↓AO,AP,↓reduceIte,bj,bh,b5,bx,m0,m1,m2,m3,m4,m5,m6,m7,m8,e3,e4,e5f,e6,Bl,D6]
  ·have e4f:(((BH (AB.getD Gu.toNat be) Oe.toNat)==Gu)&&((Bj (AB.getD Gu.toNat be) Oe.toNat)==Oe))=false:=Es.mpr e4;rcases iS h with⟨e5,h⟩|⟨e5,h⟩
   ·cases h;simp (maxDischargeDepth:=9) only [↓AO,AP,↓reduceIte,bj,bh,b5,bx,m0,m1,m2,m3,m4,m5,m6,m7,m8,e3,e4f,e5,Bl,D6]
   ·have e5f:Bn=false:=Es.mpr e5;obtain⟨e6,e7,h⟩:=EC h;obtain⟨GX,hl8,h⟩:=Ag h;have c8:=MM ((Di.getD ((BH (AB.getD Gu.toNat be) Oe.toNat).toNat) be).getD ((Bj (AB.getD Gu.toNat be) Oe.toNat).toNat) be) Dz hl8;rcases iS h with⟨e9,h⟩|⟨e9,h⟩
    ·obtain⟨e10,h⟩:=De h;have vz:=ZH tL tD tN tE QK Dz e10;cases h;simp (maxDischargeDepth:=9) only [↓AO,AP,↓reduceIte,bj,bh,b5,bx,ca,m0,m1,m2,m3,m4,m5,m6,m7,m8,e3,e4f,e5f,e6.1,e6.2,e7.1,e7.2,c8,e9,vz,Bl,D6]
    ·have e9f:GX=false:=Es.mpr e9;cases h;simp (maxDischargeDepth:=9) only [↓AO,AP,↓reduceIte,bj,bh,b5,bx,ca,m0,m1,m2,m3,m4,m5,m6,m7,m8,e3,e4f,e5f,e6.1,e6.2,e7.1,e7.2,c8,e9f,Bl,D6]
 ·cases h;simp (maxDischargeDepth:=9) only [↓AO,AP,↓reduceIte,bj,bh,m0,m1,m2,m3,m4,m5,m7,m8,e3,Bl,J4,GH]
theorem Vw(tL tD:Int)(tN tE:AV)(AB:Ac)(AL A8:AU)(Di:AV)(Gu Oe QK:Int){r:Bool}(h:Lv tL tD tN tE AB AL A8 Di Gu Oe QK=some r):Y.call 62 [bw [bc .i64 tL,bc .i64 tD,bk 26 (AR Ba tN),bk 26 (AR Ba tE)],bw [bk 79 (AR (fun x=>bk 87 (Aj .i64 .i64 x)) AB),bk 3 (AR (bc .i64) AL),bk 3 (AR (bc .i64) A8)],bk 26 (AR Ba Di),bc .i64 Gu,bc .i64 Oe,bc .i64 QK] []=some (bp r,[]):=by
 refine c62 ?_ rfl;unfold k62;unfold Lv at h;obtain⟨e1,e2,h⟩:=EC h;obtain⟨AX,hl4,h⟩:=Ag h;try dsimp only at h
 simp (maxDischargeDepth:=9) only [↓AO,AP,↓reduceIte,bj,bh,bx,e1.1,e1.2,e2.1,e2.2];refine Ak (VD tL tD tN tE AB AL A8 Di Gu Oe QK hl4 ?_) ?_
 ·simp (maxDischargeDepth:=9) only [BL,Cv,↓reduceIte,bj,bh,Bl]
 ·intro ex4 s4 hX4;unfold J4 at hX4;obtain⟨rfl,n4_0,n4_1,n4_2,n4_3,n4_4,n4_5,n4_6⟩:=hX4;rcases iS h with⟨e5,h⟩|⟨e5,h⟩
  ·rcases iS h with⟨e6,h⟩|⟨e6,h⟩
   ·obtain⟨e7,h⟩:=De h;obtain⟨A7g,hl8,h⟩:=Ag h;have c8:=Ky (Di.getD Gu.toNat be) hl8;obtain⟨e9,e10,h⟩:=EC h;obtain⟨ALb,hl11,h⟩:=Ag h;try dsimp only at h
    have vz:=Zw tL tD tN tE (A7g.set Oe.toNat (bm.wrap (1*2 ^ (min (bO.wrap QK).toNat (bm.bits))))) hl11;cases h;simp (maxDischargeDepth:=9) only [↓AO,AP,↓reduceIte,bj,bh,bx,ca,e1.1,e1.2,e2.1,n4_0,n4_1,n4_2,n4_3,n4_4,n4_5,n4_6,e5,decide_eq_true e6,e7.2,c8,e9,e10.2,vz]
   ·cases h;simp (maxDischargeDepth:=9) only [↓AO,AP,↓reduceIte,bj,bh,ca,e1.1,e1.2,n4_1,n4_4,n4_5,n4_6,e5,e6]
  ·have e5f:AX=false:=Es.mpr e5;cases h;simp (maxDischargeDepth:=9) only [↓AO,AP,↓reduceIte,bj,bh,n4_1,n4_6,e5f]
def I6(tL tD:Int)(tN tE:AV)(AB:Ac)(AL A8:AU)(Lg t7_1:AV)(Cy MQ:Int)(t7_3:AV)(t8_3:Bool)(Al:Int):Option ((AV×Bool×Int)⊕(AV×Bool)):= if Al<tL then ck (0≤Cy∧Cy.toNat<t7_3.length)<| ck (0≤MQ∧MQ.toNat<(t7_3.getD Cy.toNat be).length)<| (Kc ((t7_3.getD Cy.toNat be).getD MQ.toNat be) Al).bind fun Og=> if Og=true then (Lv tL tD tN tE AB AL A8 t7_3 Cy MQ Al).bind fun AEK=> if AEK=true then some (bo (t7_3,t8_3,bm.wrap (Al+1))) else ck (¬(bO.wrap Al)<0)<| some (bo ((t7_3.set Cy.toNat ((t7_3.getD Cy.toNat be).set MQ.toNat (bm.wrap (((t7_3.getD Cy.toNat be).getD MQ.toNat be)-(bm.wrap (1*2 ^ (min (bO.wrap Al).toNat (bm.bits)))))))),true,bm.wrap (Al+1))) else some (bo (t7_3,t8_3,bm.wrap (Al+1))) else some (bl (t7_3,t8_3))
def P6(tL tD:Int)(tN tE:AV)(AB:Ac)(AL A8:AU)(Lg t7_1:AV)(Cy MQ:Int)(v:AV×Bool×Int):Option (AV×Bool):=E9 (fun v=>I6 tL tD tN tE AB AL A8 Lg t7_1 Cy MQ v.1 v.2.1 v.2.2) v
def I7(tL tD:Int)(tN tE:AV)(AB:Ac)(AL A8:AU)(Lg t7_1:AV)(Cy:Int)(t7_2:AV)(t8_2:Bool)(MQ:Int):Option ((AV×Bool×Int)⊕(AV×Bool)):= if MQ<((t7_1.getD Cy.toNat be).length:Int)then (P6 tL tD tN tE AB AL A8 Lg t7_1 Cy MQ (t7_2,t8_2,0)).bind fun AX=> some (bo (AX.1,AX.2,bm.wrap (MQ+1))) else some (bl (t7_2,t8_2))
def P7(tL tD:Int)(tN tE:AV)(AB:Ac)(AL A8:AU)(Lg t7_1:AV)(Cy:Int)(v:AV×Bool×Int):Option (AV×Bool):=E9 (fun v=>I7 tL tD tN tE AB AL A8 Lg t7_1 Cy v.1 v.2.1 v.2.2) v
def I8(tL tD:Int)(tN tE:AV)(AB:Ac)(AL A8:AU)(Lg t7_1:AV)(t8_1:Bool)(Cy:Int):Option ((AV×Bool×Int)⊕(AV×Bool)):= if Cy<(Lg.length:Int)then ck (0≤Cy∧Cy.toNat<t7_1.length)<| (P7 tL tD tN tE AB AL A8 Lg t7_1 Cy (t7_1,t8_1,0)).bind fun Ap=> some (bo (Ap.1,Ap.2,bm.wrap (Cy+1))) else some (bl (t7_1,t8_1))
def P8(tL tD:Int)(tN tE:AV)(AB:Ac)(AL A8:AU)(Lg:AV)(v:AV×Bool×Int):Option (AV×Bool):=E9 (fun v=>I8 tL tD tN tE AB AL A8 Lg v.1 v.2.1 v.2.2) v
def I9(tL tD:Int)(tN tE:AV)(AB:Ac)(AL A8:AU)(Lg:AV)(Gj:Bool):Option ((AV×Bool)⊕(AV)):= if Gj=true then (P8 tL tD tN tE AB AL A8 Lg (Lg,false,0)).bind fun BP=> some (bo (BP.1,BP.2)) else some (bl Lg)
def GY(tL tD:Int)(tN tE:AV)(AB:Ac)(AL A8:AU)(v:AV×Bool):Option (AV):=E9 (fun v=>I9 tL tD tN tE AB AL A8 v.1 v.2) v
def PT(tL tD:Int)(tN tE:AV)(AB:Ac)(AL A8:AU)(Di:AV):Option (AV):= (Rm Di).bind fun A5E=> (GY tL tD tN tE AB AL A8 (A5E,true)).bind fun Od=> some Od
def qj:SC:= .seq (.seq (.ops [oM 28 11 3,oF 29 34 3 0,oL 30 3 29 3,oB 31 .lss 3 (tK 28) (tK 30) 3 4]) (.cond (tK 31) .skip (.exit 6))) (.seq (.block 7 (.seq (.ops [oM 34 7 22,oM 35 9 3,oI 36 22 34 35,oL 37 26 36 26,oM 38 10 3,oI 39 26 37 38,oL 40 3 39 3,oM 41 11 3,oC 42 61 [(tK 40),(tK 41)] [3,3] 4,oM 43 42 4,⟨some 44,.load 34 (tK 3),34,(some (some 43,true))⟩,⟨some 45,.load 38 (tK 4),38,(some (some 43,true))⟩,⟨some 46,.move (tK 7),22,(some (some 43,true))⟩,⟨some 47,.move (tK 9),3,(some (some 43,true))⟩,⟨some 48,.move (tK 10),3,(some (some 43,true))⟩,⟨some 49,.move (tK 11),3,(some (some 43,true))⟩,⟨some 50,.call ⟨(.value (.func 62)), #[(tK 44),(tK 45),(tK 46),(tK 47),(tK 48),(tK 49)], #[34,38,22,3,3,3]⟩,4,(some (some 43,true))⟩,⟨some 51,.unOp .not 4 (tK 50),4,(some (some 43,true))⟩,oX 52 (.pick (tK 43) (tK 51) Lm) 4]) (.cond (tK 52) (.seq (.ops [oM 53 7 22,oM 54 9 3,oI 55 22 53 54,oL 56 26 55 26,oM 57 10 3,oI 58 26 56 57,oL 59 3 58 3,oM 60 11 3,oX 61 (.convert 3 82 (tK 60)) 82,oB 62 .shl 3 (iK 1) (tK 61) 82 3,oB 63 .sub 3 (tK 59) (tK 62) 3 3,oI 64 26 56 57,oS 3 64 63]) (.ops [oX 8 (.assign Ck) 4])) .skip))) (.ops [oM 32 11 3,oB 33 .add 3 (tK 32) (iK 1) 3 3,
 oA 11 33 3]))
def A5F:SC:= .loop qj
def ql:SC:= .seq (.ops [oB 26 .lss 3 (tK 25) (tK 24) 3 0]) (.seq (.cond (tK 26) .skip (.exit 4)) (.seq (.block 5 (.seq (.ops [oM 27 25 3,oA 10 27 3]) (.seq (.ops [oX 11 (.assign (iK 0)) 3]) (.block 6 A5F)))) (.ops [oB 65 .add 3 (tK 25) (iK 1) 3 3,oM 25 65 3])))
def A5G:SC:= .loop ql
def qm:SC:= .seq (.ops [oB 18 .lss 3 (tK 17) (tK 16) 3 0]) (.seq (.cond (tK 18) .skip (.exit 2)) (.seq (.block 3 (.seq (.ops [oM 19 17 3,oA 9 19 3]) (.seq (.ops [oM 20 7 22,oM 21 9 3,oI 22 22 20 21,oL 23 26 22 26,oN 24 23 26,oX 25 (.move (iK 0)) 3]) (.block 4 A5G)))) (.ops [oB 66 .add 3 (tK 17) (iK 1) 3 3,oM 17 66 3])))
def A5H:SC:= .loop qm
def qo:SC:= .seq (.seq (.ops [oM 14 8 4]) (.cond (tK 14) .skip (.exit 0))) (.block 1 (.seq (.ops [oX 8 BR 4]) (.seq (.ops [oM 15 7 22,oN 16 15 22,oX 17 (.move (iK 0)) 3]) (.block 2 A5H))))
def A5I:SC:= .loop qo
def k34:SC:= .seq (.ops [oX 3 (.box 34 (tK 0)) 0,oX 4 (.box 38 (tK 1)) 0,oX 6 Gt 22]) (.seq (.ops [oM 12 2 22,oC 13 60 [(tK 12)] [22] 22,oA 7 13 22]) (.seq (.seq (.ops [oX 8 (.assign Ck) 4]) (.block 0 A5I)) (.seq (.ops [oM 67 7 22,oA 6 67 22]) .ret)))
theorem AEL:Tryz.f34.body.map (BQ lends)=some k34:=by kernel_rfl
theorem ASF:BV Tryz.f34 3=true:=by kernel_rfl
theorem c34{a l:List D}{r:D×List D}(h:BU Y.env k34 (fin Ai l.length [bt 6] r) (entry a l))(ha:a.length=3):Y.call 34 a l=some r:=
 AY (Y:=Y) rfl Tryz.func34 (ha▸ASF) AEL h
def EZ(tL tD:Int)(tN tE:AV)(AB:Ac)(AL A8:AU)(Lg t7_1:AV)(Cy MQ:Int)(t7_3:AV)(t8_3:Bool)(Al:Int)(s:St):Prop:=s.v 3=b8 [bc .i64 tL,bc .i64 tD,bk 26 (AR Ba tN),bk 26 (AR Ba tE)]∧s.v 4=b8 [bk 79 (AR (fun x=>bk 87 (Aj .i64 .i64 x)) AB),bk 3 (AR (bc .i64) AL),bk 3 (AR (bc .i64) A8)]∧s.v 7=br 26 (AR Ew t7_3)∧s.v 8=bp t8_3∧s.v 9=bc .i64 Cy∧s.v 10=bc .i64 MQ∧s.v 11=bc .i64 Al∧s.v 16=bc .i64 (Lg.length:Int)∧s.v 17=bc .i64 Cy∧s.v 24=bc .i64 ((t7_1.getD Cy.toNat be).length:Int)∧s.v 25=bc .i64 MQ
def Mr(tL tD:Int)(tN tE:AV)(AB:Ac)(AL A8:AU)(Lg t7_1:AV)(Cy MQ:Int)(r:AV×Bool)(ex:Ex)(s:St):Prop:=ex= .exit 6∧s.v 3=b8 [bc .i64 tL,bc .i64 tD,bk 26 (AR Ba tN),bk 26 (AR Ba tE)]∧s.v 4=b8 [bk 79 (AR (fun x=>bk 87 (Aj .i64 .i64 x)) AB),bk 3 (AR (bc .i64) AL),bk 3 (AR (bc .i64) A8)]∧s.v 7=br 26 (AR Ew r.1)∧s.v 8=bp r.2∧s.v 9=bc .i64 Cy∧s.v 16=bc .i64 (Lg.length:Int)∧s.v 17=bc .i64 Cy∧s.v 24=bc .i64 ((t7_1.getD Cy.toNat be).length:Int)∧s.v 25=bc .i64 MQ
theorem Zx(tL tD:Int)(tN tE:AV)(AB:Ac)(AL A8:AU)(Lg t7_1:AV)(Cy MQ:Int){v:AV×Bool×Int}{s:St}{r:AV×Bool}(h:P6 tL tD tN tE AB AL A8 Lg t7_1 Cy MQ v=some r)(hM:EZ tL tD tN tE AB AL A8 Lg t7_1 Cy MQ v.1 v.2.1 v.2.2 s):BU Y.env A5F (Mr tL tD tN tE AB AL A8 Lg t7_1 Cy MQ r) s:=by
 unfold P6 at h;refine Aw (c:=qj) (fun v=>I6 tL tD tN tE AB AL A8 Lg t7_1 Cy MQ v.1 v.2.1 v.2.2) (fun v s=>EZ tL tD tN tE AB AL A8 Lg t7_1 Cy MQ v.1 v.2.1 v.2.2 s) (Mr tL tD tN tE AB AL A8 Lg t7_1 Cy MQ) ?_ h hM;clear h hM s v r;intro v s o hM h;obtain⟨t7_3,t8_3,Al⟩:=v;dsimp only at h hM;unfold I6 at h;unfold EZ at hM;obtain⟨m0,m1,m2,m3,m4,m5,m6,m7,m8,m9,m10⟩:=hM;unfold qj;rcases iS h with⟨e6,h⟩|⟨e6,h⟩
 ·obtain⟨e7,e8,h⟩:=EC h;obtain⟨Og,hl9,h⟩:=Ag h;have c9:=MM ((t7_3.getD Cy.toNat be).getD MQ.toNat be) Al hl9;rcases iS h with⟨e10,h⟩|⟨e10,h⟩
  ·obtain⟨AEK,hl11,h⟩:=Ag h;have vz:=Vw tL tD tN tE AB AL A8 t7_3 Cy MQ Al hl11;rcases iS h with⟨e12,h⟩|⟨e12,h⟩
   ·cases h;simp (maxDischargeDepth:=9) only [↓AO,AP,↓reduceIte,bj,bh,bx,m0,m1,m2,m3,m4,m5,m6,m7,m8,m9,m10,e6,e7.1,e7.2,e8.1,e8.2,c9,e10,vz,e12,EZ,D6]
   ·have e12f:AEK=false:=Es.mpr e12;obtain⟨e13,h⟩:=De h;cases h;simp (maxDischargeDepth:=9) only [↓AO,AP,↓reduceIte,bj,bh,bx,m0,m1,m2,m4,m5,m6,m7,m8,m9,m10,e6,e7.1,e7.2,e8.1,e8.2,c9,e10,vz,e12f,e13,EZ,D6]
  ·have e10f:Og=false:=Es.mpr e10;cases h;simp (maxDischargeDepth:=9) only [↓AO,AP,↓reduceIte,bj,bh,bx,m0,m1,m2,m3,m4,m5,m6,m7,m8,m9,m10,e6,e7.1,e7.2,e8.1,e8.2,c9,e10f,EZ,D6]
 ·cases h;simp (maxDischargeDepth:=9) only [↓AO,AP,↓reduceIte,bj,bh,m0,m1,m2,m3,m4,m6,m7,m8,m9,m10,e6,EZ,Mr,GH]
def IA(tL tD:Int)(tN tE:AV)(AB:Ac)(AL A8:AU)(Lg t7_1:AV)(Cy:Int)(t7_2:AV)(t8_2:Bool)(MQ:Int)(s:St):Prop:=s.v 3=b8 [bc .i64 tL,bc .i64 tD,bk 26 (AR Ba tN),bk 26 (AR Ba tE)]∧s.v 4=b8 [bk 79 (AR (fun x=>bk 87 (Aj .i64 .i64 x)) AB),bk 3 (AR (bc .i64) AL),bk 3 (AR (bc .i64) A8)]∧s.v 7=br 26 (AR Ew t7_2)∧s.v 8=bp t8_2∧s.v 9=bc .i64 Cy∧s.v 16=bc .i64 (Lg.length:Int)∧s.v 17=bc .i64 Cy∧s.v 24=bc .i64 ((t7_1.getD Cy.toNat be).length:Int)∧s.v 25=bc .i64 MQ
def Ms(tL tD:Int)(tN tE:AV)(AB:Ac)(AL A8:AU)(Lg t7_1:AV)(Cy:Int)(r:AV×Bool)(ex:Ex)(s:St):Prop:=ex= .exit 4∧s.v 3=b8 [bc .i64 tL,bc .i64 tD,bk 26 (AR Ba tN),bk 26 (AR Ba tE)]∧s.v 4=b8 [bk 79 (AR (fun x=>bk 87 (Aj .i64 .i64 x)) AB),bk 3 (AR (bc .i64) AL),bk 3 (AR (bc .i64) A8)]∧s.v 7=br 26 (AR Ew r.1)∧s.v 8=bp r.2∧s.v 16=bc .i64 (Lg.length:Int)∧s.v 17=bc .i64 Cy
theorem Zy(tL tD:Int)(tN tE:AV)(AB:Ac)(AL A8:AU)(Lg t7_1:AV)(Cy:Int){v:AV×Bool×Int}{s:St}{r:AV×Bool}(h:P7 tL tD tN tE AB AL A8 Lg t7_1 Cy v=some r)(hM:IA tL tD tN tE AB AL A8 Lg t7_1 Cy v.1 v.2.1 v.2.2 s):BU Y.env A5G (Ms tL tD tN tE AB AL A8 Lg t7_1 Cy r) s:=by
 unfold P7 at h;refine Aw (c:=ql) (fun v=>I7 tL tD tN tE AB AL A8 Lg t7_1 Cy v.1 v.2.1 v.2.2) (fun v s=>IA tL tD tN tE AB AL A8 Lg t7_1 Cy v.1 v.2.1 v.2.2 s) (Ms tL tD tN tE AB AL A8 Lg t7_1 Cy) ?_ h hM;clear h hM s v r;intro v s o hM h;obtain⟨t7_2,t8_2,MQ⟩:=v;dsimp only at h hM;unfold I7 at h;unfold IA at hM;obtain⟨m0,m1,m2,m3,m4,m5,m6,m7,m8⟩:=hM;unfold ql;rcases iS h with⟨e5,h⟩|⟨e5,h⟩
 ·obtain⟨AX,hl7,h⟩:=Ag h;try dsimp only at h
  simp (maxDischargeDepth:=9) only [↓AO,AP,↓reduceIte,bj,bh,m7,m8,e5];refine Ak (Zx tL tD tN tE AB AL A8 Lg t7_1 Cy MQ hl7 ?_) ?_
  ·simp (maxDischargeDepth:=9) only [BL,↓reduceIte,bj,m0,m1,m2,m3,m4,m5,m6,m7,m8,EZ]
  ·intro ex7 s7 hX7;unfold Mr at hX7;obtain⟨rfl,n7_0,n7_1,n7_2,n7_3,n7_4,n7_5,n7_6,n7_7,n7_8⟩:=hX7;cases h;simp (maxDischargeDepth:=9) only [↓AO,AP,↓reduceIte,bj,bh,n7_0,n7_1,n7_2,n7_3,n7_4,n7_5,n7_6,n7_7,n7_8,IA,D6]
 ·cases h;simp (maxDischargeDepth:=9) only [↓AO,AP,↓reduceIte,bj,bh,m0,m1,m2,m3,m5,m6,m7,m8,e5,IA,Ms,GH]
def IB(tL tD:Int)(tN tE:AV)(AB:Ac)(AL A8:AU)(Lg t7_1:AV)(t8_1:Bool)(Cy:Int)(s:St):Prop:=s.v 3=b8 [bc .i64 tL,bc .i64 tD,bk 26 (AR Ba tN),bk 26 (AR Ba tE)]∧s.v 4=b8 [bk 79 (AR (fun x=>bk 87 (Aj .i64 .i64 x)) AB),bk 3 (AR (bc .i64) AL),bk 3 (AR (bc .i64) A8)]∧s.v 7=br 26 (AR Ew t7_1)∧s.v 8=bp t8_1∧s.v 16=bc .i64 (Lg.length:Int)∧s.v 17=bc .i64 Cy
def Mt(tL tD:Int)(tN tE:AV)(AB:Ac)(AL A8:AU)(Lg:AV)(r:AV×Bool)(ex:Ex)(s:St):Prop:=ex= .exit 2∧s.v 3=b8 [bc .i64 tL,bc .i64 tD,bk 26 (AR Ba tN),bk 26 (AR Ba tE)]∧s.v 4=b8 [bk 79 (AR (fun x=>bk 87 (Aj .i64 .i64 x)) AB),bk 3 (AR (bc .i64) AL),bk 3 (AR (bc .i64) A8)]∧s.v 7=br 26 (AR Ew r.1)∧s.v 8=bp r.2
theorem Zz(tL tD:Int)(tN tE:AV)(AB:Ac)(AL A8:AU)(Lg:AV){v:AV×Bool×Int}{s:St}{r:AV×Bool}(h:P8 tL tD tN tE AB AL A8 Lg v=some r)(hM:IB tL tD tN tE AB AL A8 Lg v.1 v.2.1 v.2.2 s):BU Y.env A5H (Mt tL tD tN tE AB AL A8 Lg r) s:=by
 unfold P8 at h;refine Aw (c:=qm) (fun v=>I8 tL tD tN tE AB AL A8 Lg v.1 v.2.1 v.2.2) (fun v s=>IB tL tD tN tE AB AL A8 Lg v.1 v.2.1 v.2.2 s) (Mt tL tD tN tE AB AL A8 Lg) ?_ h hM;clear h hM s v r;intro v s o hM h;obtain⟨t7_1,t8_1,Cy⟩:=v;dsimp only at h hM;unfold I8 at h;unfold IB at hM;obtain⟨m0,m1,m2,m3,m4,m5⟩:=hM;unfold qm;rcases iS h with⟨e3,h⟩|⟨e3,h⟩
 ·obtain⟨e4,h⟩:=De h;obtain⟨Ap,hl6,h⟩:=Ag h;try dsimp only at h
  simp (maxDischargeDepth:=9) only [↓AO,AP,↓reduceIte,bj,bh,m2,m4,m5,e3,e4.1,e4.2];refine Ak (Zy tL tD tN tE AB AL A8 Lg t7_1 Cy hl6 ?_) ?_
  ·simp (maxDischargeDepth:=9) only [BL,↓reduceIte,bj,m0,m1,m2,m3,m4,m5,IA]
  ·intro ex6 s6 hX6;unfold Ms at hX6;obtain⟨rfl,n6_0,n6_1,n6_2,n6_3,n6_4,n6_5⟩:=hX6;cases h;simp (maxDischargeDepth:=9) only [↓AO,AP,↓reduceIte,bj,bh,n6_0,n6_1,n6_2,n6_3,n6_4,n6_5,IB,D6]
 ·cases h;simp (maxDischargeDepth:=9) only [↓AO,AP,↓reduceIte,bj,bh,m0,m1,m2,m3,m4,m5,e3,IB,Mt,GH]
def IC(tL tD:Int)(tN tE:AV)(AB:Ac)(AL A8:AU)(Lg:AV)(Gj:Bool)(s:St):Prop:=s.v 3=b8 [bc .i64 tL,bc .i64 tD,bk 26 (AR Ba tN),bk 26 (AR Ba tE)]∧s.v 4=b8 [bk 79 (AR (fun x=>bk 87 (Aj .i64 .i64 x)) AB),bk 3 (AR (bc .i64) AL),bk 3 (AR (bc .i64) A8)]∧s.v 7=br 26 (AR Ew Lg)∧s.v 8=bp Gj
def Mv(tL tD:Int)(tN tE:AV)(AB:Ac)(AL A8:AU)(r:AV)(ex:Ex)(s:St):Prop:=ex= .exit 0∧s.v 7=br 26 (AR Ew r)
theorem aB(tL tD:Int)(tN tE:AV)(AB:Ac)(AL A8:AU){v:AV×Bool}{s:St}{r:AV}(h:GY tL tD tN tE AB AL A8 v=some r)(hM:IC tL tD tN tE AB AL A8 v.1 v.2 s):BU Y.env A5I (Mv tL tD tN tE AB AL A8 r) s:=by
 unfold GY at h;refine Aw (c:=qo) (fun v=>I9 tL tD tN tE AB AL A8 v.1 v.2) (fun v s=>IC tL tD tN tE AB AL A8 v.1 v.2 s) (Mv tL tD tN tE AB AL A8) ?_ h hM;clear h hM s v r;intro v s o hM h;obtain⟨Lg,Gj⟩:=v;dsimp only at h hM;unfold I9 at h;unfold IC at hM;obtain⟨m0,m1,m2,m3⟩:=hM;unfold qo;rcases iS h with⟨e2,h⟩|⟨e2,h⟩
 ·obtain⟨BP,hl4,h⟩:=Ag h;try dsimp only at h
  simp (maxDischargeDepth:=9) only [↓AO,AP,↓reduceIte,bj,bh,m2,m3,e2];refine Ak (Zz tL tD tN tE AB AL A8 Lg hl4 ?_) ?_
  ·simp (maxDischargeDepth:=9) only [BL,↓reduceIte,bj,m0,m1,m2,IB]
  ·intro ex4 s4 hX4;unfold Mt at hX4;obtain⟨rfl,n4_0,n4_1,n4_2,n4_3⟩:=hX4;cases h;simp (maxDischargeDepth:=9) only [↓AO,AP,↓reduceIte,n4_0,n4_1,n4_2,n4_3,IC,D6]
 ·have e2f:Gj=false:=Es.mpr e2;cases h;simp (maxDischargeDepth:=9) only [↓AO,AP,↓reduceIte,bj,m2,m3,e2f,IC,Mv,GH]
theorem UM(tL tD:Int)(tN tE:AV)(AB:Ac)(AL A8:AU)(Di:AV){r:AV}(h:PT tL tD tN tE AB AL A8 Di=some r):Y.call 34 [bw [bc .i64 tL,bc .i64 tD,bk 26 (AR Ba tN),bk 26 (AR Ba tE)],bw [bk 79 (AR (fun x=>bk 87 (Aj .i64 .i64 x)) AB),bk 3 (AR (bc .i64) AL),bk 3 (AR (bc .i64) A8)],bk 26 (AR Ba Di)] []=some (br 26 (AR Ew r),[]):=by
 refine c34 ?_ rfl;unfold k34;unfold PT at h;obtain⟨A5E,hl1,h⟩:=Ag h;have c1:=VW Di hl1;obtain⟨Od,hl3,h⟩:=Ag h;try dsimp only at h
 simp (maxDischargeDepth:=9) only [↓AO,AP,↓reduceIte,bj,bh,bx,c1];refine Ak (aB tL tD tN tE AB AL A8 hl3 ?_) ?_
 ·simp (maxDischargeDepth:=9) only [BL,↓reduceIte,bj,IC]
 ·intro ex3 s3 hX3;unfold Mv at hX3;obtain⟨rfl,n3_0⟩:=hX3;cases h;simp (maxDischargeDepth:=9) only [↓AO,AP,↓reduceIte,bj,bh,n3_0]
def A7h:SC:= .seq (.ops [oB 25 .lss 3 (tK 24) (tK 23) 3 0]) (.seq (.cond (tK 25) .skip (.exit 0)) (.seq (.block 1 (.seq (.ops [oI 26 22 22 24,oL 27 26 26 26,oA 10 27 26]) (.seq (.ops [oM 28 10 26,oC 29 36 [(tK 28),(iK 0)] [26,3] 4]) (.cond (tK 29) (.seq (.ops [oX 6 Gt 22,oX 7 BR 4]) .ret) .skip)))) (.ops [oB 30 .add 3 (tK 24) (iK 1) 3 3,oM 24 30 3])))
def AEM:SC:= .loop A7h
abbrev zW:List Nat:=[16,17,18,19,20,21,8,21,21]
def k10:SC:= .seq (.ops [oX 3 (.box 34 (tK 0)) 0,oX 4 (.box 38 (tK 1)) 0,oX 6 Gt 22,oX 7 BR 4]) (.seq (.seq (.ops [oL 11 34 3 34,oL 12 38 4 38,oM 13 2 22,oC 14 33 [(tK 11),(tK 12),(tK 13)] [34,38,22] 4,oX 15 (.unOp .not 4 (tK 14)) 4]) (.cond (tK 15) (.seq (.ops [oX 6 Gt 22,oX 7 BR 4]) .ret) .skip)) (.seq (.draws [(⟨[16,3,3],zW,[16]⟩,oL 16 34 3 34),(⟨[17,4,4],zW,[17]⟩,oL 17 38 4 38),(⟨[18,3,3],zW,[18]⟩,oL 18 34 3 34),(⟨[19,2,2],zW,[19]⟩,oM 19 2 22),(⟨[20,18,19,3,2],zW,[20]⟩,oC 20 35 [(tK 18),(tK 19)] [34,22] 22),(⟨[21,16,17,20,3,4,20],zW,[21]⟩,oC 21 34 [(tK 16),(tK 17),(tK 20)] [34,38,22] 22),(⟨[8,21,21],zW,[8,21,21]⟩,oA 8 21 22)]) (.seq (.seq (.ops [oM 22 8 22,oN 23 22 22,oX 24 (.move (iK 0)) 3]) (.block 0 AEM)) (.seq (.ops [oM 31 8 22,oA 6 31 22,oX 7 (.assign Ck) 4]) .ret))))
theorem AEN:Tryz.f10.body.map (BQ lends)=some k10:=by kernel_rfl
theorem ASG:BV Tryz.f10 3=true:=by kernel_rfl
theorem VS{a l:List D}{r:D×List D}(h:BU Y.env k10 (fin Ai l.length [bt 6,bt 7] r) (entry a l))(ha:a.length=3):Y.call 10 a l=some r:=
 AY (Y:=Y) rfl Tryz.func10 (ha▸ASG) AEN h
def DU(A9:Ac)(Aa AC queue out1 queue1:AU)(Yb:Int):Option ((AU×AU×Int)⊕(AU×AU)):= if Yb<((A9.getD ((queue.getD 0 be).toNat) be).length:Int)then ck (0≤Yb∧Yb.toNat<(A9.getD ((queue.getD 0 be).toNat) be).length)<| ck (0≤(BH (A9.getD ((queue.getD 0 be).toNat) be) Yb.toNat)∧(BH (A9.getD ((queue.getD 0 be).toNat) be) Yb.toNat).toNat<out1.length)<| if(out1.getD ((BH (A9.getD ((queue.getD 0 be).toNat) be) Yb.toNat).toNat) be)<0 then ck (0≤(queue.getD 0 be)∧(queue.getD 0 be).toNat<out1.length)<| ck (queue1.length+1<1099511627776)<| some (bo ((out1.set ((BH (A9.getD ((queue.getD 0 be).toNat) be) Yb.toNat).toNat) (bm.wrap ((out1.getD ((queue.getD 0 be).toNat) be)+1))),(queue1++[(BH (A9.getD ((queue.getD 0 be).toNat) be) Yb.toNat)]),bm.wrap (Yb+1))) else some (bo (out1,queue1,bm.wrap (Yb+1))) else some (bl (out1,queue1))
def J5(A9:Ac)(Aa AC queue:AU)(v:AU×AU×Int):Option (AU×AU):=E9 (fun v=>DU A9 Aa AC queue v.1 v.2.1 v.2.2) v
def DV(A9:Ac)(Aa AC out queue:AU):Option ((AU×AU)⊕(AU)):= if 0<(queue.length:Int)then ck (0<queue.length)<| ck (1≤queue.length)<| ck (0≤(queue.getD 0 be)∧(queue.getD 0 be).toNat<A9.length)<| (J5 A9 Aa AC queue (out,(queue.drop 1),0)).bind fun AX=> some (bo (AX.1,AX.2)) else some (bl out)
def J6(A9:Ac)(Aa AC:AU)(v:AU×AU):Option (AU):=E9 (fun v=>DV A9 Aa AC v.1 v.2) v
def JN(A9:Ac)(Aa AC:AU)(v_:Int):Option (AU):= (gRp [(-1)] (A9.length:Int)).bind fun fw=> ck (0≤v_∧v_.toNat<fw.length)<| (J6 A9 Aa AC ((fw.set v_.toNat 0),[v_])).bind fun Ap=> some Ap
abbrev kR:List Nat:=[44,45,46,47,48,49,50,51,52,52,51,5,51]
def qp:SC:= .seq (.ops [oB 35 .lss 3 (tK 34) (tK 33) 3 0]) (.seq (.cond (tK 35) .skip (.exit 2)) (.seq (.block 3 (.seq (.ops [oI 36 79 32 34,oL 37 87 36 87,oX 9 (.alloc 87) 0,oS 87 9 37]) (.seq (.ops [oM 38 5 26,oF 39 87 9 0,oL 40 3 39 3,oI 41 26 38 40,oL 42 3 41 3,oB 43 .lss 3 (tK 42) (iK 0) 3 4]) (.cond (tK 43) (.seq (.draws [(⟨[44,5,5],kR,[44]⟩,oM 44 5 26),(⟨[45,9,9],kR,[45]⟩,oF 45 87 9 0),(⟨[46,45,9],kR,[46]⟩,oL 46 3 45 3),(⟨[47,5,5],kR,[47]⟩,oM 47 5 26),(⟨[48,7,7],kR,[48]⟩,oM 48 7 3),(⟨[49,47,48,5,7],kR,[49]⟩,oI 49 26 47 48),(⟨[50,49,5],kR,[50]⟩,oL 50 3 49 3),(⟨[51,50,5],kR,[51]⟩,oB 51 .add 3 (tK 50) (iK 1) 3 3),(⟨[52,44,46,5,9],kR,[52]⟩,oI 52 26 44 46),(⟨[52,51,5,51],kR,[52,51,5,51]⟩,oS 3 52 51)]) (.ops [oM 53 6 26,oF 54 87 9 0,oL 55 3 54 3,oX 56 (.buildSlice 26 1 #[(0,(tK 55))]) 26,oX 57 (.call ⟨(.builtin .append), #[(tK 53),(tK 56)], #[26,26]⟩) 26,oA 6 57 26])) .skip)))) (.ops [oB 58 .add 3 (tK 34) (iK 1) 3 3,oM 34 58 3])))
def A5J:SC:= .loop qp
def qw:SC:= .seq (.seq (.ops [oM 20 6 26,oN 21 20 26,oB 22 .gtr 3 (tK 21) (iK 0) 3 4]) (.cond (tK 22) .skip (.exit 0))) (.block 1 (.seq (.ops [oM 23 6 26,oX 24 (.indexAddr 26 (tK 23) (iK 0)) 0,oL 25 3 24 3,oA 7 25 3]) (.seq (.ops [oM 26 6 26,oX 27 (.slice 26 (tK 26) (some (iK 1)) none none) 900005,oA 6 27 26]) (.seq (.ops [oF 28 38 2 0,oL 29 36 28 36,oM 30 7 3,oI 31 36 29 30,oL 32 79 31 79,oN 33 32 79,oX 34 (.move (iK 0)) 3]) (.block 2 A5J)))))
def A5K:SC:= .loop qw
def k87:SC:= .seq (.ops [oX 2 (.box 38 (tK 0)) 0,oX 4 Gt 26]) (.seq (.ops [oX 10 A78 26,oF 11 38 2 0,oL 12 36 11 36,oN 13 12 36,oC 14 81 [(tK 10),(tK 13)] [26,3] 26,oA 5 14 26]) (.seq (.ops [oM 15 5 26,oM 16 1 3,oI 17 26 15 16,⟨none,(.store 3 (tK 17) (iK 0)),0,none⟩]) (.seq (.ops [oM 18 1 3,oX 19 (.buildSlice 26 1 #[(0,(tK 18))]) 26,oA 6 19 26]) (.seq (.block 0 A5K) (.seq (.ops [oM 59 5 26,oA 4 59 26]) .ret)))))
theorem AEO:Tryz.f87.body.map (BQ lends)=some k87:=by kernel_rfl
theorem ASI:BV Tryz.f87 2=true:=by kernel_rfl
theorem c87{a l:List D}{r:D×List D}(h:BU Y.env k87 (fin Ai l.length [bt 4] r) (entry a l))(ha:a.length=2):Y.call 87 a l=some r:=
 AY (Y:=Y) rfl Tryz.func87 (ha▸ASI) AEO h
def Co(A9:Ac)(Aa AC queue out1 queue1:AU)(Yb:Int)(s:St):Prop:=s.v 2=b8 [bk 79 (AR (fun x=>bk 87 (Aj .i64 .i64 x)) A9),bk 3 (AR (bc .i64) Aa),bk 3 (AR (bc .i64) AC)]∧s.v 5=br 3 (AR (bc .i64) out1)∧s.v 6=br 3 (AR (bc .i64) queue1)∧s.v 7=bc .i64 (queue.getD 0 be)∧s.v 32=bk 87 (Aj .i64 .i64 (A9.getD ((queue.getD 0 be).toNat) be))∧s.v 33=bc .i64 ((A9.getD ((queue.getD 0 be).toNat) be).length:Int)∧s.v 34=bc .i64 Yb
def GZ(A9:Ac)(Aa AC queue:AU)(r:AU×AU)(ex:Ex)(s:St):Prop:=ex= .exit 2∧s.v 2=b8 [bk 79 (AR (fun x=>bk 87 (Aj .i64 .i64 x)) A9),bk 3 (AR (bc .i64) Aa),bk 3 (AR (bc .i64) AC)]∧s.v 5=br 3 (AR (bc .i64) r.1)∧s.v 6=br 3 (AR (bc .i64) r.2)
theorem TL(A9:Ac)(Aa AC queue:AU){v:AU×AU×Int}{s:St}{r:AU×AU}(h:J5 A9 Aa AC queue v=some r)(hM:Co A9 Aa AC queue v.1 v.2.1 v.2.2 s):BU Y.env A5J (GZ A9 Aa AC queue r) s:=by
 unfold J5 at h;refine Aw (c:=qp) (fun v=>DU A9 Aa AC queue v.1 v.2.1 v.2.2) (fun v s=>Co A9 Aa AC queue v.1 v.2.1 v.2.2 s) (GZ A9 Aa AC queue) ?_ h hM;clear h hM s v r;intro v s o hM h;obtain⟨out1,queue1,Yb⟩:=v;dsimp only at h hM;unfold DU at h;unfold Co at hM;obtain⟨m0,m1,m2,m3,m4,m5,m6⟩:=hM;unfold qp;rcases iS h with⟨e7,h⟩|⟨e7,h⟩
 ·obtain⟨e8,e9,h⟩:=EC h;rcases iS h with⟨e10,h⟩|⟨e10,h⟩
  ·obtain⟨e11,e12,h⟩:=EC h;cases h;simp only [↓AO,AP,↓reduceIte,bj,bh,b5,m0,m1,m2,m3,m4,m5,m6,e7,e8.1,e8.2,e9.1,e9.2,e10,e11.1,e11.2,e12,Co,D6]
  ·cases h;simp only [↓AO,AP,↓reduceIte,bj,bh,m0,m1,m2,m3,m4,m5,m6,e7,e8.1,e8.2,e9.1,e9.2,e10,Co,D6]
 ·cases h;simp only [↓AO,AP,↓reduceIte,bj,bh,m0,m1,m2,m5,m6,e7,Co,GZ,GH]
def DW(A9:Ac)(Aa AC out queue:AU)(s:St):Prop:=s.v 2=b8 [bk 79 (AR (fun x=>bk 87 (Aj .i64 .i64 x)) A9),bk 3 (AR (bc .i64) Aa),bk 3 (AR (bc .i64) AC)]∧s.v 5=br 3 (AR (bc .i64) out)∧s.v 6=br 3 (AR (bc .i64) queue)
def Ga(A9:Ac)(Aa AC:AU)(r:AU)(ex:Ex)(s:St):Prop:=ex= .exit 0∧s.v 5=br 3 (AR (bc .i64) r)
theorem TM(A9:Ac)(Aa AC:AU){v:AU×AU}{s:St}{r:AU}(h:J6 A9 Aa AC v=some r)(hM:DW A9 Aa AC v.1 v.2 s):BU Y.env A5K (Ga A9 Aa AC r) s:=by
 unfold J6 at h;refine Aw (c:=qw) (fun v=>DV A9 Aa AC v.1 v.2) (fun v s=>DW A9 Aa AC v.1 v.2 s) (Ga A9 Aa AC) ?_ h hM;clear h hM s v r;intro v s o hM h;obtain⟨out,queue⟩:=v;dsimp only at h hM;unfold DV at h;unfold DW at hM;obtain⟨m0,m1,m2⟩:=hM;unfold qw;rcases iS h with⟨e3,h⟩|⟨e3,h⟩
 ·obtain⟨e4,e5,e6,h⟩:=Om h;obtain⟨AX,hl8,h⟩:=Ag h;try dsimp only at h
  simp only [↓AO,AP,↓reduceIte,bj,bh,Int.reduceLE,Int.reduceToNat,m0,m2,e3,e4,e5,e6.1,e6.2];refine Ak (TL A9 Aa AC queue hl8 ?_) ?_
  ·simp only [BL,↓reduceIte,bj,m0,m1,Co]
  ·intro ex8 s8 hX8;unfold GZ at hX8;obtain⟨rfl,n8_0,n8_1,n8_2⟩:=hX8;cases h;simp only [↓AO,AP,↓reduceIte,n8_0,n8_1,n8_2,DW,D6]
 ·cases h;simp only [↓AO,AP,↓reduceIte,bj,bh,m1,m2,e3,DW,Ga,GH]
theorem UN(A9:Ac)(Aa AC:AU)(v_:Int){r:AU}(h:JN A9 Aa AC v_=some r):Y.call 87 [bw [bk 79 (AR (fun x=>bk 87 (Aj .i64 .i64 x)) A9),bk 3 (AR (bc .i64) Aa),bk 3 (AR (bc .i64) AC)],bc .i64 v_] []=some (br 3 (AR (bc .i64) r),[]):=by
 refine c87 ?_ rfl;unfold k87;unfold JN at h;obtain⟨fw,hl1,h⟩:=Ag h;try dsimp only at h
 have c1:=XT [(-1)] (A9.length:Int) hl1;simp only [JF,Um]at c1;obtain⟨e2,h⟩:=De h;obtain⟨Ap,hl4,h⟩:=Ag h;try dsimp only at h
 simp only [↓AO,AP,↓reduceIte,bj,bh,b5,c1,e2.1,e2.2];refine Ak (TM A9 Aa AC hl4 ?_) ?_
 ·simp only [BL,↓reduceIte,bj,DW]<;>(repeat' apply A7)<;>first|rfl|exact⟨_,rfl⟩|exact⟨_,_,rfl⟩|simp [AR,Ay]
 ·intro ex4 s4 hX4;unfold Ga at hX4;obtain⟨rfl,n4_0⟩:=hX4;cases h;simp only [↓AO,AP,↓reduceIte,bj,bh,n4_0]
def Jn(A9:Ac)(v_:Int)(out:AU)(Bn:Int):Option ((AU×Int)⊕(AU)):= if Bn<((A9.getD v_.toNat be).length:Int)then ck (0≤Bn∧Bn.toNat<(A9.getD v_.toNat be).length)<| ck (out.length+1<1099511627776)<| some (bo ((out++[(BH (A9.getD v_.toNat be) Bn.toNat)]),bm.wrap (Bn+1))) else some (bl out)
def Qq(A9:Ac)(v_:Int)(v:AU×Int):Option (AU):=E9 (fun v=>Jn A9 v_ v.1 v.2) v
def UO(A9:Ac)(Aa AC:AU)(v_:Int):Option (AU):= ck (0≤v_∧v_.toNat<A9.length)<| (Qq A9 v_ ([],0)).bind fun AX=> some AX
def gT:SC:= .seq (.ops [oB 15 .lss 3 (tK 14) (tK 13) 3 0]) (.seq (.cond (tK 15) .skip (.exit 0)) (.seq (.block 1 (.seq (.ops [oI 16 79 12 14,oL 17 87 16 87,oX 7 (.alloc 87) 0,oS 87 7 17]) (.ops [oM 18 5 26,oF 19 87 7 0,oL 20 3 19 3,oX 21 (.buildSlice 26 1 #[(0,(tK 20))]) 26,oX 22 (.call ⟨(.builtin .append), #[(tK 18),(tK 21)], #[26,26]⟩) 26,oA 5 22 26]))) (.ops [oB 23 .add 3 (tK 14) (iK 1) 3 3,oM 14 23 3])))
def A0Y:SC:= .loop gT
def AEP:SC:= .seq (.ops [oX 2 (.box 38 (tK 0)) 0,oX 4 Gt 26]) (.seq (.ops [oX 5 Gt 26]) (.seq (.seq (.ops [oF 8 38 2 0,oL 9 36 8 36,oM 10 1 3,oI 11 36 9 10,oL 12 79 11 79,oN 13 12 79,oX 14 (.move (iK 0)) 3]) (.block 0 A0Y)) (.seq (.ops [oM 24 5 26,oA 4 24 26]) .ret)))
theorem A7i:Tryz.f154.body.map (BQ lends)=some AEP:=by kernel_rfl
theorem ALc:BV Tryz.f154 2=true:=by kernel_rfl
theorem ASJ{a l:List D}{r:D×List D}(h:BU Y.env AEP (fin Ai l.length [bt 4] r) (entry a l))(ha:a.length=2):Y.call 154 a l=some r:=
 AY (Y:=Y) rfl Tryz.func154 (ha▸ALc) A7i h
def Jo(A9:Ac)(v_:Int)(out:AU)(Bn:Int)(s:St):Prop:=s.v 5=br 3 (AR (bc .i64) out)∧s.v 12=bk 87 (Aj .i64 .i64 (A9.getD v_.toNat be))∧s.v 13=bc .i64 ((A9.getD v_.toNat be).length:Int)∧s.v 14=bc .i64 Bn
def Ny(A9:Ac)(v_:Int)(r:AU)(ex:Ex)(s:St):Prop:=ex= .exit 0∧s.v 5=br 3 (AR (bc .i64) r)
theorem gU(A9:Ac)(v_:Int){v:AU×Int}{s:St}{r:AU}(h:Qq A9 v_ v=some r)(hM:Jo A9 v_ v.1 v.2 s):BU Y.env A0Y (Ny A9 v_ r) s:=by
 unfold Qq at h;refine Aw (c:=gT) (fun v=>Jn A9 v_ v.1 v.2) (fun v s=>Jo A9 v_ v.1 v.2 s) (Ny A9 v_) ?_ h hM;clear h hM s v r;intro v s o hM h;obtain⟨out,Bn⟩:=v;dsimp only at h hM;unfold Jn at h;unfold Jo at hM;obtain⟨m0,m1,m2,m3⟩:=hM;unfold gT;rcases iS h with⟨e2,h⟩|⟨e2,h⟩
 ·obtain⟨e3,e4,h⟩:=EC h;cases h;simp only [↓AO,AP,↓reduceIte,bj,bh,b5,m0,m1,m2,m3,e2,e3.1,e3.2,e4,Jo,D6]
 ·cases h;simp only [↓AO,AP,↓reduceIte,bj,bh,m0,m2,m3,e2,Jo,Ny,GH]
theorem kS(A9:Ac)(Aa AC:AU)(v_:Int){r:AU}(h:UO A9 Aa AC v_=some r):Y.call 154 [bw [bk 79 (AR (fun x=>bk 87 (Aj .i64 .i64 x)) A9),bk 3 (AR (bc .i64) Aa),bk 3 (AR (bc .i64) AC)],bc .i64 v_] []=some (br 3 (AR (bc .i64) r),[]):=by
 refine ASJ ?_ rfl;unfold AEP;unfold UO at h;obtain⟨e1,h⟩:=De h;obtain⟨AX,hl3,h⟩:=Ag h;try dsimp only at h
 simp only [↓AO,AP,↓reduceIte,bj,bh,e1.1,e1.2];refine Ak (gU A9 v_ hl3 ?_) ?_
 ·simp only [BL,↓reduceIte,bj,Jo]<;>(repeat' apply A7)<;>first|rfl|exact⟨_,rfl⟩|exact⟨_,_,rfl⟩|simp [AR,Ay]
 ·intro ex3 s3 hX3;unfold Ny at hX3;obtain⟨rfl,n3_0⟩:=hX3;cases h;simp only [↓AO,AP,↓reduceIte,bj,bh,n3_0]
def Jp(AA:Ac)(AZ AJ:AU)(Cw:Int)(QK:AU)(Cy:Int):Option ((AU×Int)⊕(AU)):= if Cy<((ap AA.length (0:Int)).length:Int)then ck (0≤Cy∧Cy.toNat<QK.length)<| some (bo ((QK.set Cy.toNat (-1)),bm.wrap (Cy+1))) else some (bl QK)
def Qr(AA:Ac)(AZ AJ:AU)(Cw:Int)(v:AU×Int):Option (AU):=E9 (fun v=>Jp AA AZ AJ Cw v.1 v.2) v
def Jq(AA:Ac)(AZ AJ:AU)(Gj:Int)(P9:AU)(t5_1 t7_1:AU)(Yc:Int):Option ((AU×AU×Int)⊕(AU×AU)):= if Yc<(P9.length:Int)then ck (0≤Yc∧Yc.toNat<P9.length)<| ck (0≤(P9.getD Yc.toNat be)∧(P9.getD Yc.toNat be).toNat<t5_1.length)<| if(t5_1.getD ((P9.getD Yc.toNat be).toNat) be)<0 then ck (0≤Gj∧Gj.toNat<t7_1.length)<| ck (0≤(t7_1.getD Gj.toNat be)∧(t7_1.getD Gj.toNat be).toNat<t5_1.length)<| ck (t7_1.length+1<1099511627776)<| some (bo ((t5_1.set ((P9.getD Yc.toNat be).toNat) (bm.wrap ((t5_1.getD ((t7_1.getD Gj.toNat be).toNat) be)+1))),(t7_1++[(P9.getD Yc.toNat be)]),bm.wrap (Yc+1))) else some (bo (t5_1,t7_1,bm.wrap (Yc+1))) else some (bl (t5_1,t7_1))
def Qs(AA:Ac)(AZ AJ:AU)(Gj:Int)(P9:AU)(v:AU×AU×Int):Option (AU×AU):=E9 (fun v=>Jq AA AZ AJ Gj P9 v.1 v.2.1 v.2.2) v
def Jr(AA:Ac)(AZ AJ QK Lg:AU)(Gj:Int):Option ((AU×AU×Int)⊕(AU)):= if Gj<(Lg.length:Int)then ck (0≤Gj∧Gj.toNat<Lg.length)<| (UO AA AZ AJ (Lg.getD Gj.toNat be)).bind fun P9=> (Qs AA AZ AJ Gj P9 (QK,Lg,0)).bind fun Ap=> some (bo (Ap.1,Ap.2,bm.wrap (Gj+1))) else some (bl QK)
def Qt(AA:Ac)(AZ AJ:AU)(v:AU×AU×Int):Option (AU):=E9 (fun v=>Jr AA AZ AJ v.1 v.2.1 v.2.2) v
def UQ(AA:Ac)(AZ AJ:AU)(Cw:Int):Option (AU):= ck (0≤(AA.length:Int)∧(AA.length:Int)<1099511627776)<| (Qr AA AZ AJ Cw ((ap AA.length 0),0)).bind fun AX=> ck (0≤Cw∧Cw.toNat<AX.length)<| (Qt AA AZ AJ ((AX.set Cw.toNat 0),[Cw],0)).bind fun BP=> some BP
def gV:SC:= .seq (.ops [oB 18 .lss 3 (tK 17) (tK 16) 3 0]) (.seq (.cond (tK 18) .skip (.exit 0)) (.seq (.block 1 (.seq (.ops [oM 19 17 3,oA 6 19 3]) (.ops [oM 20 5 26,oM 21 6 3,oI 22 26 20 21,⟨none,(.store 3 (tK 22) (.const (.int .i64 (-1)))),0,none⟩]))) (.ops [oB 23 .add 3 (tK 17) (iK 1) 3 3,oM 17 23 3])))
def A0Z:SC:= .loop gV
def gW:SC:= .seq (.ops [oB 43 .lss 3 (tK 42) (tK 41) 3 0]) (.seq (.cond (tK 43) .skip (.exit 4)) (.seq (.block 5 (.seq (.ops [oI 44 26 40 42,oL 45 3 44 3,oA 10 45 3]) (.seq (.ops [oM 46 5 26,oM 47 10 3,oI 48 26 46 47,oL 49 3 48 3,oB 50 .lss 3 (tK 49) (iK 0) 3 4]) (.cond (tK 50) (.seq (.ops [oM 51 5 26,oM 52 10 3,oM 53 5 26,oM 54 7 26,oM 55 8 3,oI 56 26 54 55,oL 57 3 56 3,oI 58 26 53 57,oL 59 3 58 3,oB 60 .add 3 (tK 59) (iK 1) 3 3,oI 61 26 51 52,oS 3 61 60]) (.ops [oM 62 7 26,oM 63 10 3,oX 64 (.buildSlice 26 1 #[(0,(tK 63))]) 26,oX 65 (.call ⟨(.builtin .append), #[(tK 62),(tK 64)], #[26,26]⟩) 26,oA 7 65 26])) .skip)))) (.ops [oB 66 .add 3 (tK 42) (iK 1) 3 3,oM 42 66 3])))
def A0a:SC:= .loop gW
abbrev wR:List Nat:=[35,36,37,38,39,40,41,42]
def gX:SC:= .seq (.seq (.ops [oM 29 8 3,oM 30 7 26,oN 31 30 26,oB 32 .lss 3 (tK 29) (tK 31) 3 4]) (.cond (tK 32) .skip (.exit 2))) (.seq (.block 3 (.seq (.draws [(⟨[35,2,2],wR,[35]⟩,oL 35 38 2 38),(⟨[36,7,7],wR,[36]⟩,oM 36 7 26),(⟨[37,8,8],wR,[37]⟩,oM 37 8 3),(⟨[38,36,37,7,8],wR,[38]⟩,oI 38 26 36 37),(⟨[39,38,7],wR,[39]⟩,oL 39 3 38 3),(⟨[40,35,39,2,7],wR,[40]⟩,oC 40 154 [(tK 35),(tK 39)] [38,3] 26),(⟨[41,40,40],wR,[41]⟩,oN 41 40 26),(⟨[42],wR,[42]⟩,oX 42 (.move (iK 0)) 3)]) (.block 4 A0a))) (.ops [oM 33 8 3,oB 34 .add 3 (tK 33) (iK 1) 3 3,oA 8 34 3]))
def A0b:SC:= .loop gX
def AEQ:SC:= .seq (.ops [oX 2 (.box 38 (tK 0)) 0,oX 4 Gt 26]) (.seq (.ops [oF 11 38 2 0,oL 12 36 11 36,oN 13 12 36,oX 14 (.makeSlice 26 (tK 13) (tK 13)) 26,oA 5 14 26]) (.seq (.seq (.ops [oM 15 5 26,oN 16 15 26,oX 17 (.move (iK 0)) 3]) (.block 0 A0Z)) (.seq (.ops [oM 24 5 26,oM 25 1 3,oI 26 26 24 25,⟨none,(.store 3 (tK 26) (iK 0)),0,none⟩]) (.seq (.ops [oM 27 1 3,oX 28 (.buildSlice 26 1 #[(0,(tK 27))]) 26,oA 7 28 26]) (.seq (.seq (.ops [oX 8 (.assign (iK 0)) 3]) (.block 2 A0b)) (.seq (.ops [oM 67 5 26,oA 4 67 26]) .ret))))))
theorem A7j:Tryz.f134.body.map (BQ lends)=some AEQ:=by kernel_rfl
theorem ALd:BV Tryz.f134 2=true:=by kernel_rfl
theorem ASL{a l:List D}{r:D×List D}(h:BU Y.env AEQ (fin Ai l.length [bt 4] r) (entry a l))(ha:a.length=2):Y.call 134 a l=some r:=
 AY (Y:=Y) rfl Tryz.func134 (ha▸ALd) A7j h
def Js(AA:Ac)(AZ AJ:AU)(Cw:Int)(QK:AU)(Cy:Int)(s:St):Prop:=s.v 1=bc .i64 Cw∧s.v 2=b8 [bk 79 (AR (fun x=>bk 87 (Aj .i64 .i64 x)) AA),bk 3 (AR (bc .i64) AZ),bk 3 (AR (bc .i64) AJ)]∧s.v 5=br 3 (AR (bc .i64) QK)∧s.v 16=bc .i64 ((ap AA.length (0:Int)).length:Int)∧s.v 17=bc .i64 Cy
def Nz(AA:Ac)(AZ AJ:AU)(Cw:Int)(r:AU)(ex:Ex)(s:St):Prop:=ex= .exit 0∧s.v 1=bc .i64 Cw∧s.v 2=b8 [bk 79 (AR (fun x=>bk 87 (Aj .i64 .i64 x)) AA),bk 3 (AR (bc .i64) AZ),bk 3 (AR (bc .i64) AJ)]∧s.v 5=br 3 (AR (bc .i64) r)
theorem gY(AA:Ac)(AZ AJ:AU)(Cw:Int){v:AU×Int}{s:St}{r:AU}(h:Qr AA AZ AJ Cw v=some r)(hM:Js AA AZ AJ Cw v.1 v.2 s):BU Y.env A0Z (Nz AA AZ AJ Cw r) s:=by
 unfold Qr at h;refine Aw (c:=gV) (fun v=>Jp AA AZ AJ Cw v.1 v.2) (fun v s=>Js AA AZ AJ Cw v.1 v.2 s) (Nz AA AZ AJ Cw) ?_ h hM;clear h hM s v r;intro v s o hM h;obtain⟨QK,Cy⟩:=v;dsimp only at h hM;unfold Jp at h;unfold Js at hM;obtain⟨m0,m1,m2,m3,m4⟩:=hM;unfold gV;rcases iS h with⟨e2,h⟩|⟨e2,h⟩
 ·obtain⟨e3,h⟩:=De h;cases h;simp only [↓AO,AP,↓reduceIte,bj,bh,m0,m1,m2,m3,m4,e2,e3.1,e3.2,Js,D6]
 ·cases h;simp only [↓AO,AP,↓reduceIte,bj,bh,m0,m1,m2,m3,m4,e2,Js,Nz,GH]
def Gq(AA:Ac)(AZ AJ:AU)(Gj:Int)(P9:AU)(t5_1 t7_1:AU)(Yc:Int)(s:St):Prop:=s.v 2=b8 [bk 79 (AR (fun x=>bk 87 (Aj .i64 .i64 x)) AA),bk 3 (AR (bc .i64) AZ),bk 3 (AR (bc .i64) AJ)]∧s.v 5=br 3 (AR (bc .i64) t5_1)∧s.v 7=br 3 (AR (bc .i64) t7_1)∧s.v 8=bc .i64 Gj∧s.v 40=br 3 (AR (bc .i64) P9)∧s.v 41=bc .i64 (P9.length:Int)∧s.v 42=bc .i64 Yc
def O0(AA:Ac)(AZ AJ:AU)(Gj:Int)(P9:AU)(r:AU×AU)(ex:Ex)(s:St):Prop:=ex= .exit 4∧s.v 2=b8 [bk 79 (AR (fun x=>bk 87 (Aj .i64 .i64 x)) AA),bk 3 (AR (bc .i64) AZ),bk 3 (AR (bc .i64) AJ)]∧s.v 5=br 3 (AR (bc .i64) r.1)∧s.v 7=br 3 (AR (bc .i64) r.2)∧s.v 8=bc .i64 Gj
theorem gZ(AA:Ac)(AZ AJ:AU)(Gj:Int)(P9:AU){v:AU×AU×Int}{s:St}{r:AU×AU}(h:Qs AA AZ AJ Gj P9 v=some r)(hM:Gq AA AZ AJ Gj P9 v.1 v.2.1 v.2.2 s):BU Y.env A0a (O0 AA AZ AJ Gj P9 r) s:=by
 unfold Qs at h;refine Aw (c:=gW) (fun v=>Jq AA AZ AJ Gj P9 v.1 v.2.1 v.2.2) (fun v s=>Gq AA AZ AJ Gj P9 v.1 v.2.1 v.2.2 s) (O0 AA AZ AJ Gj P9) ?_ h hM;clear h hM s v r;intro v s o hM h;obtain⟨t5_1,t7_1,Yc⟩:=v;dsimp only at h hM;unfold Jq at h;unfold Gq at hM;obtain⟨m0,m1,m2,m3,m4,m5,m6⟩:=hM;unfold gW;rcases iS h with⟨e8,h⟩|⟨e8,h⟩
 ·obtain⟨e9,e10,h⟩:=EC h;rcases iS h with⟨e11,h⟩|⟨e11,h⟩
  ·obtain⟨e12,e13,e14,h⟩:=Om h;cases h;simp only [↓AO,AP,↓reduceIte,bj,bh,b5,m0,m1,m2,m3,m4,m5,m6,e8,e9.1,e9.2,e10.1,e10.2,e11,e12.1,e12.2,e13.1,e13.2,e14,Gq,D6]
  ·cases h;simp only [↓AO,AP,↓reduceIte,bj,bh,m0,m1,m2,m3,m4,m5,m6,e8,e9.1,e9.2,e10.1,e10.2,e11,Gq,D6]
 ·cases h;simp only [↓AO,AP,↓reduceIte,bj,bh,m0,m1,m2,m3,m5,m6,e8,Gq,O0,GH]
def Jt(AA:Ac)(AZ AJ QK Lg:AU)(Gj:Int)(s:St):Prop:=s.v 2=b8 [bk 79 (AR (fun x=>bk 87 (Aj .i64 .i64 x)) AA),bk 3 (AR (bc .i64) AZ),bk 3 (AR (bc .i64) AJ)]∧s.v 5=br 3 (AR (bc .i64) QK)∧s.v 7=br 3 (AR (bc .i64) Lg)∧s.v 8=bc .i64 Gj
def O1(AA:Ac)(AZ AJ:AU)(r:AU)(ex:Ex)(s:St):Prop:=ex= .exit 2∧s.v 5=br 3 (AR (bc .i64) r)
theorem gm(AA:Ac)(AZ AJ:AU){v:AU×AU×Int}{s:St}{r:AU}(h:Qt AA AZ AJ v=some r)(hM:Jt AA AZ AJ v.1 v.2.1 v.2.2 s):BU Y.env A0b (O1 AA AZ AJ r) s:=by
 unfold Qt at h;refine Aw (c:=gX) (fun v=>Jr AA AZ AJ v.1 v.2.1 v.2.2) (fun v s=>Jt AA AZ AJ v.1 v.2.1 v.2.2 s) (O1 AA AZ AJ) ?_ h hM;clear h hM s v r;intro v s o hM h;obtain⟨QK,Lg,Gj⟩:=v;dsimp only at h hM;unfold Jr at h;unfold Jt at hM;obtain⟨m0,m1,m2,m3⟩:=hM;unfold gX;rcases iS h with⟨e5,h⟩|⟨e5,h⟩
 ·obtain⟨e6,h⟩:=De h;obtain⟨P9,hl7,h⟩:=Ag h;have c7:=kS AA AZ AJ (Lg.getD Gj.toNat be) hl7;obtain⟨Ap,hl9,h⟩:=Ag h;try dsimp only at h
  simp only [↓AO,AP,↓reduceIte,bj,bh,m0,m2,m3,e5,e6.1,e6.2,c7];refine Ak (gZ AA AZ AJ Gj P9 hl9 ?_) ?_
  ·simp only [BL,↓reduceIte,bj,m0,m1,m2,m3,Gq]
  ·intro ex9 s9 hX9;unfold O0 at hX9;obtain⟨rfl,n9_0,n9_1,n9_2,n9_3⟩:=hX9;cases h;simp only [↓AO,AP,↓reduceIte,bj,bh,n9_0,n9_1,n9_2,n9_3,Jt,D6]
 ·cases h;simp only [↓AO,AP,↓reduceIte,bj,bh,m1,m2,m3,e5,Jt,O1,GH]
theorem kT(AA:Ac)(AZ AJ:AU)(Cw:Int){r:AU}(h:UQ AA AZ AJ Cw=some r):Y.call 134 [bw [bk 79 (AR (fun x=>bk 87 (Aj .i64 .i64 x)) AA),bk 3 (AR (bc .i64) AZ),bk 3 (AR (bc .i64) AJ)],bc .i64 Cw] []=some (br 3 (AR (bc .i64) r),[]):=by
 refine ASL ?_ rfl;unfold AEQ;unfold UQ at h;obtain⟨e1,h⟩:=De h;obtain⟨AX,hl3,h⟩:=Ag h;try dsimp only at h
 simp only [↓AO,AP,↓reduceIte,bj,bh,b5,e1.1,e1.2];refine Ak (gY AA AZ AJ Cw hl3 ?_) ?_
 ·simp only [BL,Cv,↓reduceIte,bj,bh,Js]
 ·intro ex3 s3 hX3;unfold Nz at hX3;obtain⟨rfl,n3_0,n3_1,n3_2⟩:=hX3;obtain⟨e4,h⟩:=De h;obtain⟨BP,hl6,h⟩:=Ag h;try dsimp only at h
  simp only [↓AO,AP,↓reduceIte,bj,bh,b5,n3_0,n3_2,e4.1,e4.2];refine Ak (gm AA AZ AJ hl6 ?_) ?_
  ·simp only [BL,↓reduceIte,bj,n3_1,n3_2,Jt]<;>(repeat' apply A7)<;>first|rfl|exact⟨_,rfl⟩|exact⟨_,_,rfl⟩|simp [AR,Ay]
  ·intro ex6 s6 hX6;unfold O1 at hX6;obtain⟨rfl,n6_0⟩:=hX6;cases h;simp only [↓AO,AP,↓reduceIte,bj,bh,n6_0]
end Go.Proofs.YtiehjihckndgkaaGreat
end
