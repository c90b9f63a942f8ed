/- Functions of the program as plain functions, and what they compute. Conditions: those in each lemma. -/
import Derived.Test.YtclkfhhdikfcpaaL6
import Derived.Test.YtclkfhhdikfcpaaVcA
import Derived.Test.YtclkfhhdikfcpaaNet
import Derived.Test.YtclkfhhdikfcpaaDt
open Inhabited renaming default → bj
open Dv.D renaming int → bh,sl → b9,own → cb,agg → cm,bool → cc,box → cj
open Nat renaming reduceEqDiff → bk,reduceLT → bl,reduceLeDiff → bm,reduceAdd → bo,reduceMul → bp,reduceMod → br,reduceDiv → bt,reducePow → bw,reduceSub → bx,reduceBEq → bO,add_zero → cq
open Int renaming reduceLE → b0,reduceLT → b3,reduceEq → b4,reduceSub → b5,reduceAdd → b6,reduceToNat → b7,reduceNeg → b8
open Go.IntKind renaming i64 → cf
open Go.ResultVar renaming tmp → ce
open Sum renaming inl → cd,inr → ca
open List renaming replicate → ao,range → an,take_length → co,count_pos_iff → cr,count_eq_zero → ct,take_add_one → cx,getElem_map → cy,set_append_right → cA,find?_eq_none → cC,replicate_zero → cD,findIdx?_eq_some_iff_getElem → cE
open Bool renaming or_false → cw
noncomputable section
namespace Go.Proofs.Ytclkfhhdikfcpaa
open Go Dv
set_option linter.unusedSimpArgs false
set_option linter.unusedVariables false
set_option maxRecDepth 100000
set_option maxHeartbeats 4000000
def QI(task:Int):Option (Bool):= some (I9 task (1:Int) (3:Int))
def k68:SC:= .seq (.ops [oX 2 BS 4]) (.seq (.ops [oM 3 0 3,oC 4 97 [(tK 3),(iK 1),(iK 3)] [3,3,3] 4,oA 2 4 4]) .ret)
theorem A3N:Try.f68.body.map (BV lends)=some k68:=by kernel_rfl
theorem AGK:Bl Try.f68 1=true:=by kernel_rfl
theorem c68{a l:List D}{r:D×List D}(h:Br Y.env k68 (Fa Ag l.length [ce 2] r) (entry a l))(ha:a.length=1):Y.call 68 a l=some r:=
 Af (Y:=Y) rfl Try.func68 (ha▸AGK) A3N h
theorem WN(task:Int){r:Bool}(h:QI task=some r):Y.call 68 [bh .i64 task] []=some (cc r,[]):=by
 refine c68 ?_ rfl;unfold k68;unfold QI at h;have c1:=Ik task (1:Int) (3:Int)
 obtain rfl:=Option.some.inj h
 simp (maxDischargeDepth:=9) only [↓AU,AV,Ap,↓reduceIte,bk,bl,bm,bo,bp,br,bt,bw,bx,bO,b0,b3,b4,b5,b6,b7,b8,c1]<;>(repeat' apply A7)<;>first|rfl|exact⟨_,rfl⟩|exact⟨_,_,rfl⟩|simp [AR,AB]
abbrev WO:List Nat:=[21,22,23,24,25,26,27,28,6,28,28,7]
def k24:SC:= .seq (.ops [oX 3 (.box 47 (tK 0)) 0,oX 6 BS 4,oX 7 BS 4]) (.seq (.seq (.ops [oL 8 47 3 47,oC 9 67 [(tK 8)] [47] 4,oX 10 (.unOp .not 4 (tK 9)) 4,oM 11 10 4,⟨(some 12),(.move (tK 1)),3,(some (some 11,false))⟩,⟨(some 13),(.call ⟨(.value (.func 68)), #[(tK 12)], #[3]⟩),4,(some (some 11,false))⟩,⟨(some 14),(.unOp .not 4 (tK 13)),4,(some (some 11,false))⟩,oX 15 (.pick (tK 11) Dl (tK 14)) 4,oM 16 15 4,⟨(some 17),(.move (tK 2)),3,(some (some 16,false))⟩,⟨(some 18),(.call ⟨(.value (.func 69)), #[(tK 17)], #[3]⟩),4,(some (some 16,false))⟩,⟨(some 19),kP,4,(some (some 16,false))⟩,oX 20 (.pick (tK 16) Dl (tK 19)) 4]) (.cond (tK 20) (.seq (.ops [oX 6 BS 4,oX 7 BS 4]) .ret) .skip)) (.seq (.draws [(⟨[21,3,3],WO,[21]⟩,oL 21 47 3 47),(⟨[22,1,1],WO,[22]⟩,oM 22 1 3),(⟨[23,1,1],WO,[23]⟩,oM 23 1 3),(⟨[24,3,3],WO,[24]⟩,oL 24 47 3 47),(⟨[25,2,2],WO,[25]⟩,oM 25 2 3),(⟨[26,24,25,3,2],WO,[26]⟩,oC 26 72 [(tK 24),(tK 25)] [47,3] 26),(⟨[27,23,26,1,26],WO,[27]⟩,oC 27 71 [(tK 23),(tK 26)] [3,26] 26),(⟨[28,21,22,27,3,1,27],WO,[28]⟩,oC 28 70 [(tK 21),(tK 22),(tK 27)] [47,3,26] 4),(⟨[6,28,28],WO,[6,28,28]⟩,oA 6 28 4),(⟨[7],WO,[7]⟩,oX 7 (.assign Dl) 4)]) .ret))
theorem A3O:Try.f24.body.map (BV lends)=some k24:=by kernel_rfl
theorem AGL:Bl Try.f24 3=true:=by kernel_rfl
theorem c24{a l:List D}{r:D×List D}(h:Br Y.env k24 (Fa Ag l.length [ce 6,ce 7] r) (entry a l))(ha:a.length=3):Y.call 24 a l=some r:=
 Af (Y:=Y) rfl Try.func24 (ha▸AGL) A3O h
def QJ(task:Int):Option (Bool):= some (I9 task (1:Int) (3:Int))
def k61:SC:= .seq (.ops [oX 2 BS 4]) (.seq (.ops [oM 3 0 3,oC 4 92 [(tK 3),(iK 1),(iK 3)] [3,3,3] 4,oA 2 4 4]) .ret)
theorem A3P:Try.f61.body.map (BV lends)=some k61:=by kernel_rfl
theorem AGN:Bl Try.f61 1=true:=by kernel_rfl
theorem c61{a l:List D}{r:D×List D}(h:Br Y.env k61 (Fa Ag l.length [ce 2] r) (entry a l))(ha:a.length=1):Y.call 61 a l=some r:=
 Af (Y:=Y) rfl Try.func61 (ha▸AGN) A3P h
theorem WP(task:Int){r:Bool}(h:QJ task=some r):Y.call 61 [bh .i64 task] []=some (cc r,[]):=by
 refine c61 ?_ rfl;unfold k61;unfold QJ at h;have c1:=KQ task (1:Int) (3:Int)
 obtain rfl:=Option.some.inj h
 simp (maxDischargeDepth:=9) only [↓AU,AV,Ap,↓reduceIte,bk,bl,bm,bo,bp,br,bt,bw,bx,bO,b0,b3,b4,b5,b6,b7,b8,c1]<;>(repeat' apply A7)<;>first|rfl|exact⟨_,rfl⟩|exact⟨_,_,rfl⟩|simp [AR,AB]
def DY(l:AP)(out:Int)(Gm:Int):Option ((Int×Int)⊕(Int)):= if Gm<(l.length:Int)then ck (0≤Gm∧Gm.toNat<l.length)<| ck (0≤Gm)<| ck (Gm.toNat≤l.length)<| ck (((l.take Gm.toNat).drop 0).length<1099511627776)<| if(((l.take Gm.toNat).drop 0).contains (l.getD Gm.toNat bj))=true then some (cd (out,cf.wrap (Gm+1))) else ck (0≤cf.wrap (Gm+1))<| ck ((cf.wrap (Gm+1)).toNat≤l.length)<| ck (((l.take l.length).drop ((cf.wrap (Gm+1)).toNat)).length<1099511627776)<| if(((l.take l.length).drop ((cf.wrap (Gm+1)).toNat)).contains (l.getD Gm.toNat bj))=true then some (cd (out,cf.wrap (Gm+1))) else if out<0 then some (cd ((l.getD Gm.toNat bj),cf.wrap (Gm+1))) else if(l.getD Gm.toNat bj)<out then some (cd ((l.getD Gm.toNat bj),cf.wrap (Gm+1))) else some (cd (out,cf.wrap (Gm+1))) else some (ca out)
def HZ(l:AP)(v:Int×Int):Option (Int):=JB (fun v=>DY l v.1 v.2) v
def Km(l:AP):Option (Int):= (HZ l ((-1),0)).bind fun Ae=> some Ae
def VI:SC:= .seq (.ops [oB 9 .lss 3 (tK 8) (tK 7) 3 0]) (.seq (.cond (tK 9) .skip (.exit 0)) (.seq (.block 1 (.seq (.ops [oM 10 8 3,oI 11 26 6 8,oL 12 3 11 3,oA 4 10 3,oA 5 12 3]) (.seq (.ops [oM 13 0 26,oM 14 4 3,oX 15 (.slice 26 (tK 13) none (some (tK 14)) none) 900001,oM 16 5 3,oC 17 89 [(tK 15),(tK 16)] [26,3] 4,oX 18 (.unOp .not 4 (tK 17)) 4,oM 19 18 4,⟨(some 20),(.move (tK 0)),26,(some (some 19,true))⟩,⟨(some 21),(.move (tK 4)),3,(some (some 19,true))⟩,⟨(some 22),(.binOp .add 3 (tK 21) (iK 1) 3),3,(some (some 19,true))⟩,⟨(some 23),(.slice 26 (tK 20) (some (tK 22)) none none),900001,(some (some 19,true))⟩,⟨(some 24),(.move (tK 5)),3,(some (some 19,true))⟩,⟨(some 25),(.call ⟨(.value (.func 89)), #[(tK 23),(tK 24)], #[26,3]⟩),4,(some (some 19,true))⟩,⟨(some 26),(.unOp .not 4 (tK 25)),4,(some (some 19,true))⟩,oX 27 (.pick (tK 19) (tK 26) Py) 4,oM 28 27 4,⟨(some 29),(.move (tK 3)),3,(some (some 28,true))⟩,⟨(some 30),(.binOp .lss 3 (tK 29) (iK 0) 3),4,(some (some 28,true))⟩,⟨(some 31),(.move (tK 30)),4,(some (some 28,true))⟩,⟨(some 32),(.move (tK 5)),3,(some (some 31,false))⟩,⟨(some 33),(.move (tK 3)),3,(some (some 31,false))⟩,⟨(some 34),(.binOp .lss 3 (tK 32) (tK 33) 3),4,(some (some 31,false))⟩,
 ⟨(some 35),(.pick (tK 31) Dl (tK 34)),4,(some (some 28,true))⟩,oX 36 (.pick (tK 28) (tK 35) Py) 4]) (.cond (tK 36) (.ops [oM 37 5 3,oA 3 37 3]) .skip)))) (.ops [oB 38 .add 3 (tK 8) (iK 1) 3 3,oM 8 38 3])))
def iC:SC:= .loop VI
def A3Q:SC:= .seq (.ops [oX 2 (.assign (iK 0)) 3]) (.seq (.ops [oX 3 P6 3]) (.seq (.seq (.ops [oM 6 0 26,oN 7 6 26,oX 8 (.move (iK 0)) 3]) (.block 0 iC)) (.seq (.ops [oM 39 3 3,oA 2 39 3]) .ret)))
theorem uU:Try.f108.body.map (BV lends)=some A3Q:=by kernel_rfl
theorem AAa:Bl Try.f108 1=true:=by kernel_rfl
theorem AGO{a l:List D}{r:D×List D}(h:Br Y.env A3Q (Fa Ag l.length [ce 2] r) (entry a l))(ha:a.length=1):Y.call 108 a l=some r:=
 Af (Y:=Y) rfl Try.func108 (ha▸AAa) uU h
def Co(l:AP)(out:Int)(Gm:Int)(s:St):Prop:=s.v 0=b9 3 (AR (bh .i64) l)∧s.v 3=bh .i64 out∧s.v 6=b9 3 (AR (bh .i64) l)∧s.v 7=bh .i64 (l.length:Int)∧s.v 8=bh .i64 Gm
def DZ(l:AP)(r:Int)(ex:Ex)(s:St):Prop:=ex= .exit 0∧s.v 3=bh .i64 r
theorem VJ(l:AP){v:Int×Int}{s:St}{r:Int}(h:HZ l v=some r)(hM:Co l v.1 v.2 s):Br Y.env iC (DZ l r) s:=by
 unfold HZ at h;refine BX (c:=VI) (fun v=>DY l v.1 v.2) (fun v s=>Co l v.1 v.2 s) (DZ l) ?_ h hM;clear h hM s v r;intro v s o hM h;obtain⟨out,Gm⟩:=v;dsimp only at h hM;unfold DY at h;unfold Co at hM;obtain⟨m0,m1,m2,m3,m4⟩:=hM;unfold VI;by_cases e1:Gm<(l.length:Int)
 ·rw [if_pos e1]at h;obtain⟨e2,h⟩:=Bw h;obtain⟨e3,h⟩:=Bw h;obtain⟨e4,h⟩:=Bw h;obtain⟨e5,h⟩:=Bw h;have c6:=Mh ((l.take Gm.toNat).drop 0) (l.getD Gm.toNat bj) e5;by_cases e7:(((l.take Gm.toNat).drop 0).contains (l.getD Gm.toNat bj))=true
  ·rw [if_pos e7]at h
   obtain rfl:=Option.some.inj h
   simp (maxDischargeDepth:=9) only [↓AU,AV,Ap,↓reduceIte,bk,bl,bm,bo,bp,br,bt,bw,bx,bO,b0,b3,b4,b5,b6,b7,b8,m0,m1,m2,m3,m4,e1,e2.1,e2.2,e3,e4,e5,c6,e7,Co,DZ,Ca,Cb,Cc]<;>(repeat' apply A7)<;>first|rfl|exact⟨_,rfl⟩|exact⟨_,_,rfl⟩|simp [AR,AB]
  ·rw [if_neg e7]at h;have e7f:(((l.take Gm.toNat).drop 0).contains (l.getD Gm.toNat bj))=false:=K7.mpr e7;obtain⟨e8,h⟩:=Bw h;obtain⟨e9,h⟩:=Bw h;obtain⟨e10,h⟩:=Bw h;have c11:=Mh ((l.take l.length).drop ((cf.wrap (Gm+1)).toNat)) (l.getD Gm.toNat bj) e10;by_cases e12:(((l.take l.length).drop ((cf.wrap (Gm+1)).toNat)).contains (l.getD Gm.toNat bj))=true
   ·rw [if_pos e12]at h
    obtain rfl:=Option.some.inj h
    simp (maxDischargeDepth:=9) only [↓AU,AV,Ap,↓reduceIte,bk,bl,bm,bo,bp,br,bt,bw,bx,bO,b0,b3,b4,b5,b6,b7,b8,m0,m1,m2,m3,m4,e1,e2.1,e2.2,e3,e4,e5,c6,e7f,e8,e9,e10,c11,e12,Co,DZ,Ca,Cb,Cc]<;>(repeat' apply A7)<;>first|rfl|exact⟨_,rfl⟩|exact⟨_,_,rfl⟩|simp [AR,AB]
   ·rw [if_neg e12]at h;have e12f:(((l.take l.length).drop ((cf.wrap (Gm+1)).toNat)).contains (l.getD Gm.toNat bj))=false:=K7.mpr e12;by_cases e13:out<0
    ·rw [if_pos e13]at h
     obtain rfl:=Option.some.inj h
     simp (maxDischargeDepth:=9) only [↓AU,AV,Ap,↓reduceIte,bk,bl,bm,bo,bp,br,bt,bw,bx,bO,b0,b3,b4,b5,b6,b7,b8,m0,m1,m2,m3,m4,e1,e2.1,e2.2,e3,e4,e5,c6,e7f,e8,e9,e10,c11,e12f,e13,Co,DZ,Ca,Cb,Cc]<;>(repeat' apply A7)<;>first|rfl|exact⟨_,rfl⟩|exact⟨_,_,rfl⟩|simp [AR,AB]
    ·rw [if_neg e13]at h;by_cases e14:(l.getD Gm.toNat bj)<out
     ·rw [if_pos e14]at h
      obtain rfl:=Option.some.inj h
      simp (maxDischargeDepth:=9) only [↓AU,AV,Ap,↓reduceIte,bk,bl,bm,bo,bp,br,bt,bw,bx,bO,b0,b3,b4,b5,b6,b7,b8,m0,m1,m2,m3,m4,e1,e2.1,e2.2,e3,e4,e5,c6,e7f,e8,e9,e10,c11,e12f,e13,e14,Co,DZ,Ca,Cb,Cc]<;>(repeat' apply A7)<;>first|rfl|exact⟨_,rfl⟩|exact⟨_,_,rfl⟩|simp [AR,AB]
     ·rw [if_neg e14]at h
      obtain rfl:=Option.some.inj h
      simp (maxDischargeDepth:=9) only [↓AU,AV,Ap,↓reduceIte,bk,bl,bm,bo,bp,br,bt,bw,bx,bO,b0,b3,b4,b5,b6,b7,b8,m0,m1,m2,m3,m4,e1,e2.1,e2.2,e3,e4,e5,c6,e7f,e8,e9,e10,c11,e12f,e13,e14,Co,DZ,Ca,Cb,Cc]<;>(repeat' apply A7)<;>first|rfl|exact⟨_,rfl⟩|exact⟨_,_,rfl⟩|simp [AR,AB]
 ·rw [if_neg e1]at h
  obtain rfl:=Option.some.inj h
  simp (maxDischargeDepth:=9) only [↓AU,AV,Ap,↓reduceIte,bk,bl,bm,bo,bp,br,bt,bw,bx,bO,b0,b3,b4,b5,b6,b7,b8,m0,m1,m2,m3,m4,e1,Co,DZ,Ca,Cb,Cc]<;>(repeat' apply A7)<;>first|rfl|exact⟨_,rfl⟩|exact⟨_,_,rfl⟩|simp [AR,AB]
theorem WQ(l:AP){r:Int}(h:Km l=some r):Y.call 108 [b9 3 (AR (bh .i64) l)] []=some (bh .i64 r,[]):=by
 refine AGO ?_ rfl;unfold A3Q;unfold Km at h;obtain⟨Ae,hl2,h⟩:=BD h;try dsimp only at h
 simp (maxDischargeDepth:=9) only [↓AU,AV,Ap,↓reduceIte,bk,bl,bm,bo,bp,br,bt,bw,bx,bO,b0,b3,b4,b5,b6,b7,b8];refine BL (VJ l hl2 ?_) ?_
 ·simp (maxDischargeDepth:=9) only [↓AU,AV,Ap,↓reduceIte,bk,bl,bm,bo,bp,br,bt,bw,bx,bO,b0,b3,b4,b5,b6,b7,b8,Co]<;>(repeat' apply A7)<;>first|rfl|exact⟨_,rfl⟩|exact⟨_,_,rfl⟩|simp [AR,AB]
 ·intro ex2 s2 hX2;unfold DZ at hX2;obtain⟨rfl,n2_0⟩:=hX2
  obtain rfl:=Option.some.inj h
  simp (maxDischargeDepth:=9) only [↓AU,AV,Ap,↓reduceIte,bk,bl,bm,bo,bp,br,bt,bw,bx,bO,b0,b3,b4,b5,b6,b7,b8,n2_0]<;>(repeat' apply A7)<;>first|rfl|exact⟨_,rfl⟩|exact⟨_,_,rfl⟩|simp [AR,AB]
def OE(AO:Ay)(AX:AP)(AJ:AP)(task:Int)(class_:AP):Option (Bool):= if task=1 then (Km class_).bind fun AAb=> some (decide (0≤AAb)) else (M8 AO AX AJ task class_).bind fun YR=> some YR
def k63:SC:= .seq (.ops [oX 3 (.box 47 (tK 0)) 0,oX 6 BS 4]) (.seq (.seq (.ops [oM 7 1 3,oB 8 .eql 3 (tK 7) (iK 1) 3 4]) (.cond (tK 8) (.seq (.ops [oM 9 2 26,oC 10 108 [(tK 9)] [26] 3,oB 11 .geq 3 (tK 10) (iK 0) 3 4,oA 6 11 4]) .ret) .skip)) (.seq (.ops [oL 12 47 3 47,oM 13 1 3,oM 14 2 26,oC 15 109 [(tK 12),(tK 13),(tK 14)] [47,3,26] 4,oA 6 15 4]) .ret))
theorem A3R:Try.f63.body.map (BV lends)=some k63:=by kernel_rfl
theorem AGQ:Bl Try.f63 3=true:=by kernel_rfl
theorem c63{a l:List D}{r:D×List D}(h:Br Y.env k63 (Fa Ag l.length [ce 6] r) (entry a l))(ha:a.length=3):Y.call 63 a l=some r:=
 Af (Y:=Y) rfl Try.func63 (ha▸AGQ) A3R h
theorem YT(AO:Ay)(AX:AP)(AJ:AP)(task:Int)(class_:AP){r:Bool}(h:OE AO AX AJ task class_=some r):Y.call 63 [cm [b9 123 (AR (fun x=>b9 125 (Az .i64 .i64 x)) AO),b9 3 (AR (bh .i64) AX),b9 3 (AR (bh .i64) AJ)],bh .i64 task,b9 3 (AR (bh .i64) class_)] []=some (cc r,[]):=by
 refine c63 ?_ rfl;unfold k63;unfold OE at h;by_cases e1:task=1
 ·rw [if_pos e1]at h;obtain⟨AAb,hl2,h⟩:=BD h;try dsimp only at h
  have c2:=WQ class_ hl2
  obtain rfl:=Option.some.inj h
  simp (maxDischargeDepth:=9) only [↓AU,AV,Ap,↓reduceIte,bk,bl,bm,bo,bp,br,bt,bw,bx,bO,b0,b3,b4,b5,b6,b7,b8,decide_eq_true e1,c2]<;>(repeat' apply A7)<;>first|rfl|exact⟨_,rfl⟩|exact⟨_,_,rfl⟩|simp [AR,AB]
 ·rw [if_neg e1]at h;obtain⟨YR,hl2,h⟩:=BD h;try dsimp only at h
  have c2:=Uz AO AX AJ task class_ hl2
  obtain rfl:=Option.some.inj h
  simp (maxDischargeDepth:=9) only [↓AU,AV,Ap,↓reduceIte,bk,bl,bm,bo,bp,br,bt,bw,bx,bO,b0,b3,b4,b5,b6,b7,b8,e1,c2]<;>(repeat' apply A7)<;>first|rfl|exact⟨_,rfl⟩|exact⟨_,_,rfl⟩|simp [AR,AB]
abbrev aV:List Nat:=[21,22,23,24,25,26,6,26,26,7]
def k22:SC:= .seq (.ops [oX 3 (.box 47 (tK 0)) 0,oX 6 BS 4,oX 7 BS 4]) (.seq (.seq (.ops [oL 8 47 3 47,oC 9 60 [(tK 8)] [47] 4,oX 10 (.unOp .not 4 (tK 9)) 4,oM 11 10 4,⟨(some 12),(.move (tK 1)),3,(some (some 11,false))⟩,⟨(some 13),(.call ⟨(.value (.func 61)), #[(tK 12)], #[3]⟩),4,(some (some 11,false))⟩,⟨(some 14),(.unOp .not 4 (tK 13)),4,(some (some 11,false))⟩,oX 15 (.pick (tK 11) Dl (tK 14)) 4,oM 16 15 4,⟨(some 17),(.move (tK 2)),3,(some (some 16,false))⟩,⟨(some 18),(.call ⟨(.value (.func 62)), #[(tK 17)], #[3]⟩),4,(some (some 16,false))⟩,⟨(some 19),kP,4,(some (some 16,false))⟩,oX 20 (.pick (tK 16) Dl (tK 19)) 4]) (.cond (tK 20) (.seq (.ops [oX 6 BS 4,oX 7 BS 4]) .ret) .skip)) (.seq (.draws [(⟨[21,3,3],aV,[21]⟩,oL 21 47 3 47),(⟨[22,1,1],aV,[22]⟩,oM 22 1 3),(⟨[23,3,3],aV,[23]⟩,oL 23 47 3 47),(⟨[24,2,2],aV,[24]⟩,oM 24 2 3),(⟨[25,23,24,3,2],aV,[25]⟩,oC 25 64 [(tK 23),(tK 24)] [47,3] 26),(⟨[26,21,22,25,3,1,25],aV,[26]⟩,oC 26 63 [(tK 21),(tK 22),(tK 25)] [47,3,26] 4),(⟨[6,26,26],aV,[6,26,26]⟩,oA 6 26 4),(⟨[7],aV,[7]⟩,oX 7 (.assign Dl) 4)]) .ret))
theorem A3S:Try.f22.body.map (BV lends)=some k22:=by kernel_rfl
theorem AGR:Bl Try.f22 3=true:=by kernel_rfl
theorem qj{a l:List D}{r:D×List D}(h:Br Y.env k22 (Fa Ag l.length [ce 6,ce 7] r) (entry a l))(ha:a.length=3):Y.call 22 a l=some r:=
 Af (Y:=Y) rfl Try.func22 (ha▸AGR) A3S h
abbrev OU:List Nat:=[6,7,8,9,10,11,12,13,14,15,16,17,18,19,20,21]
def k28:SC:= .seq (.ops [oX 2 (.box 47 (tK 0)) 0,oX 4 Qn 26,oX 5 BS 4]) (.seq (.seq (.draws [(⟨[6,2,2],OU,[6]⟩,oL 6 47 2 47),(⟨[7,6,2],OU,[7]⟩,oC 7 60 [(tK 6)] [47] 4),(⟨[8,7,7],OU,[8]⟩,oX 8 (.unOp .not 4 (tK 7)) 4),(⟨[9,8,8],OU,[9]⟩,oM 9 8 4),(⟨[10,1,1,9],OU,[10]⟩,⟨(some 10),(.move (tK 1)),3,(some (some 9,false))⟩),(⟨[11,10,1,9],OU,[11]⟩,⟨(some 11),(.call ⟨(.value (.func 61)), #[(tK 10)], #[3]⟩),4,(some (some 9,false))⟩),(⟨[12,11,11,9],OU,[12]⟩,⟨(some 12),(.unOp .not 4 (tK 11)),4,(some (some 9,false))⟩),(⟨[13,9,12,8,12],OU,[13]⟩,oX 13 (.pick (tK 9) Dl (tK 12)) 4),(⟨[14,13,13],OU,[14]⟩,oM 14 13 4),(⟨[15,2,2,14],OU,[15]⟩,⟨(some 15),(.load 47 (tK 2)),47,(some (some 14,false))⟩),(⟨[16,1,1,14],OU,[16]⟩,⟨(some 16),(.move (tK 1)),3,(some (some 14,false))⟩),(⟨[17,2,2,14],OU,[17]⟩,⟨(some 17),(.load 47 (tK 2)),47,(some (some 14,false))⟩),(⟨[18,17,2,14],OU,[18]⟩,⟨(some 18),(.call ⟨(.value (.func 74)), #[(tK 17)], #[47]⟩),26,(some (some 14,false))⟩),(⟨[19,15,16,18,2,1,18,14],OU,[19]⟩,⟨(some 19),(.call ⟨(.value (.func 63)), #[(tK 15),(tK 16),(tK 18)], #[47,3,26]⟩),4,(some (some 14,false))⟩),(⟨[20,19,19,14],OU,[20]⟩,⟨(some 20),(.unOp .not 4 (tK 19)),4,(some (some 14,false))⟩),(⟨[21,14,20,13,20],OU,[21]⟩,oX 21 (.pick (tK 14) Dl (tK 20)) 4)])
 (.cond (tK 21) (.seq (.ops [oX 4 Qn 26,oX 5 BS 4]) .ret) .skip)) (.seq (.ops [oM 22 1 3,oL 23 47 2 47,oC 24 74 [(tK 23)] [47] 26,oC 25 77 [(tK 22),(tK 24)] [3,26] 26,oA 4 25 26,oX 5 (.assign Dl) 4]) .ret))
theorem A3T:Try.f28.body.map (BV lends)=some k28:=by kernel_rfl
theorem AGS:Bl Try.f28 2=true:=by kernel_rfl
theorem c28{a l:List D}{r:D×List D}(h:Br Y.env k28 (Fa Ag l.length [ce 4,ce 5] r) (entry a l))(ha:a.length=2):Y.call 28 a l=some r:=
 Af (Y:=Y) rfl Try.func28 (ha▸AGS) A3T h
def Ad(s_:DK)(f:Int→Int→Option Bool)(Gm:Int):Option ((Int)⊕(Int⊕Unit)):= if Gm<(s_.length:Int)then ck (0≤Gm∧Gm.toNat<s_.length)<| (f (BQ s_ Gm.toNat) (CU s_ Gm.toNat)).bind fun NH=> if NH=true then some (ca (cd Gm)) else some (cd (cf.wrap (Gm+1))) else some (ca (ca ()))
def Ah(s_:DK)(f:Int→Int→Option Bool)(v:Int):Option (Int⊕Unit):=JB (fun v=>Ad s_ f v) v
def Am(s_:DK)(f:Int→Int→Option Bool):Option (Int):=
 (Ah s_ f 0).bind fun Ae=>
 match Ae with
 | .inl q1000_=>
  some q1000_
 | .inr q1000_=>
  some (-1)
def VK:SC:= .seq (.ops [oB 9 .lss 3 (tK 8) (tK 7) 3 0]) (.seq (.cond (tK 9) .skip (.exit 0)) (.seq (.block 1 (.seq (.ops [oM 10 8 3,oA 5 10 3]) (.seq (.ops [oM 11 1 167,oM 12 0 123,oM 13 5 3,oI 14 123 12 13,oL 15 125 14 125,oX 16 (.call ⟨(.value (tK 11)), #[(tK 15)], #[125]⟩) 4]) (.cond (tK 16) (.seq (.ops [oM 17 5 3,oA 4 17 3]) .ret) .skip)))) (.ops [oB 18 .add 3 (tK 8) (iK 1) 3 3,oM 8 18 3])))
def iD:SC:= .loop VK
def A3U:SC:= .seq (.ops [oX 4 (.assign (iK 0)) 3]) (.seq (.seq (.ops [oM 6 0 123,oN 7 6 123,oX 8 (.move (iK 0)) 3]) (.block 0 iD)) (.seq (.ops [oX 4 P6 3]) .ret))
theorem uV:Try.f177.body.map (BV lends)=some A3U:=by kernel_rfl
theorem AAc:Bl Try.f177 2=true:=by kernel_rfl
theorem AGT{a l:List D}{r:D×List D}(h:Br Y.env A3U (Fa Ag l.length [ce 4] r) (entry a l))(ha:a.length=2):Y.call 177 a l=some r:=
 Af (Y:=Y) rfl Try.func177 (ha▸AAc) uV h
def AY(s_:DK)(f:Int→Int→Option Bool)(f_f:FuncId)(f_c:List D)(Gm:Int)(s:St):Prop:=s.v 0=b9 125 (Az .i64 .i64 s_)∧s.v 1=D.clo f_f f_c∧s.v 7=bh .i64 (s_.length:Int)∧s.v 8=bh .i64 Gm
def AZ(s_:DK)(f:Int→Int→Option Bool)(f_f:FuncId)(f_c:List D)(r:Int⊕Unit)(ex:Ex)(s:St):Prop:=match r with
 | .inl q=>ex= .ret∧s.v 4=bh .i64 q
 | .inr q=>ex= .exit 0
theorem Bj(s_:DK)(f:Int→Int→Option Bool)(f_f:FuncId)(f_c:List D)(f_h: ∀(a0_0:Int) (a0_1:Int) (r:Bool),f a0_0 a0_1=some r→Y.call f_f (cm [bh .i64 a0_0,bh .i64 a0_1]::f_c) []=some (cc r,[]))(f_l:lends f_f=false){v:Int}{s:St}{r:Int⊕Unit}(h:Ah s_ f v=some r)(hM:AY s_ f f_f f_c v s):Br Y.env iD (AZ s_ f f_f f_c r) s:=by
 unfold Ah at h;refine BX (c:=VK) (fun v=>Ad s_ f v) (fun v s=>AY s_ f f_f f_c v s) (AZ s_ f f_f f_c) ?_ h hM;clear h hM s v r;intro Gm s o hM h;unfold Ad at h;unfold AY at hM;obtain⟨m0,m1,m2,m3⟩:=hM;unfold VK;by_cases e1:Gm<(s_.length:Int)
 ·rw [if_pos e1]at h;obtain⟨e2,h⟩:=Bw h;obtain⟨NH,hl3,h⟩:=BD h;try dsimp only at h
  have c3:=f_h _ _ _ hl3;by_cases e4:NH=true
  ·rw [if_pos e4]at h
   obtain rfl:=Option.some.inj h
   simp (maxDischargeDepth:=9) only [↓AU,AV,Ap,↓reduceIte,bk,bl,bm,bo,bp,br,bt,bw,bx,bO,b0,b3,b4,b5,b6,b7,b8,m0,m1,m2,m3,f_l,e1,e2.1,e2.2,c3,e4,AY,AZ,Ca,Cb,Cc]<;>(repeat' apply A7)<;>first|rfl|exact⟨_,rfl⟩|exact⟨_,_,rfl⟩|simp [AR,AB]
  ·rw [if_neg e4]at h;have e4f:NH=false:=K7.mpr e4
   obtain rfl:=Option.some.inj h
   simp (maxDischargeDepth:=9) only [↓AU,AV,Ap,↓reduceIte,bk,bl,bm,bo,bp,br,bt,bw,bx,bO,b0,b3,b4,b5,b6,b7,b8,m0,m1,m2,m3,f_l,e1,e2.1,e2.2,c3,e4f,AY,AZ,Ca,Cb,Cc]<;>(repeat' apply A7)<;>first|rfl|exact⟨_,rfl⟩|exact⟨_,_,rfl⟩|simp [AR,AB]
 ·rw [if_neg e1]at h
  obtain rfl:=Option.some.inj h
  simp (maxDischargeDepth:=9) only [↓AU,AV,Ap,↓reduceIte,bk,bl,bm,bo,bp,br,bt,bw,bx,bO,b0,b3,b4,b5,b6,b7,b8,m0,m1,m2,m3,f_l,e1,AY,AZ,Ca,Cb,Cc]<;>(repeat' apply A7)<;>first|rfl|exact⟨_,rfl⟩|exact⟨_,_,rfl⟩|simp [AR,AB]
theorem Bo(s_:DK)(f:Int→Int→Option Bool)(f_f:FuncId)(f_c:List D)(f_h: ∀(a0_0:Int) (a0_1:Int) (r:Bool),f a0_0 a0_1=some r→Y.call f_f (cm [bh .i64 a0_0,bh .i64 a0_1]::f_c) []=some (cc r,[]))(f_l:lends f_f=false){r:Int}(h:Am s_ f=some r):Y.call 177 [b9 125 (Az .i64 .i64 s_),D.clo f_f f_c] []=some (bh .i64 r,[]):=by
 refine AGT ?_ rfl;unfold A3U;unfold Am at h;obtain⟨Ae,hl2,h⟩:=BD h;try dsimp only at h
 simp (maxDischargeDepth:=9) only [↓AU,AV,Ap,↓reduceIte,bk,bl,bm,bo,bp,br,bt,bw,bx,bO,b0,b3,b4,b5,b6,b7,b8,f_l];refine BL (Bj s_ f f_f f_c f_h f_l hl2 ?_) ?_
 ·simp (maxDischargeDepth:=9) only [↓AU,AV,Ap,↓reduceIte,bk,bl,bm,bo,bp,br,bt,bw,bx,bO,b0,b3,b4,b5,b6,b7,b8,f_l,AY]<;>(repeat' apply A7)<;>first|rfl|exact⟨_,rfl⟩|exact⟨_,_,rfl⟩|simp [AR,AB]
 ·intro ex2 s2 hX2;rcases Ae with q1000_|q1000_
  ·unfold AZ at hX2;dsimp only at hX2 h;obtain⟨rfl,n2_0⟩:=hX2
   obtain rfl:=Option.some.inj h
   simp (maxDischargeDepth:=9) only [↓AU,AV,Ap,↓reduceIte,bk,bl,bm,bo,bp,br,bt,bw,bx,bO,b0,b3,b4,b5,b6,b7,b8,f_l,n2_0]<;>(repeat' apply A7)<;>first|rfl|exact⟨_,rfl⟩|exact⟨_,_,rfl⟩|simp [AR,AB]
  ·unfold AZ at hX2;dsimp only at hX2 h
   obtain rfl:=hX2
   obtain rfl:=Option.some.inj h
   simp (maxDischargeDepth:=9) only [↓AU,AV,Ap,↓reduceIte,bk,bl,bm,bo,bp,br,bt,bw,bx,bO,b0,b3,b4,b5,b6,b7,b8,f_l]<;>(repeat' apply A7)<;>first|rfl|exact⟨_,rfl⟩|exact⟨_,_,rfl⟩|simp [AR,AB]
def Ak(s_:DK)(f:Int→Int→Option Bool):Option (Bool):= (Am s_ f).bind fun pF=> some (decide (0≤pF))
def A3V:SC:= .seq (.ops [oX 4 BS 4]) (.seq (.ops [oM 5 0 123,oM 6 1 167,oC 7 177 [(tK 5),(tK 6)] [123,167] 3,oB 8 .geq 3 (tK 7) (iK 0) 3 4,oA 4 8 4]) .ret)
theorem uW:Try.f160.body.map (BV lends)=some A3V:=by kernel_rfl
theorem AAd:Bl Try.f160 2=true:=by kernel_rfl
theorem AGU{a l:List D}{r:D×List D}(h:Br Y.env A3V (Fa Ag l.length [ce 4] r) (entry a l))(ha:a.length=2):Y.call 160 a l=some r:=
 Af (Y:=Y) rfl Try.func160 (ha▸AAd) uW h
theorem Bg(s_:DK)(f:Int→Int→Option Bool)(f_f:FuncId)(f_c:List D)(f_h: ∀(a0_0:Int) (a0_1:Int) (r:Bool),f a0_0 a0_1=some r→Y.call f_f (cm [bh .i64 a0_0,bh .i64 a0_1]::f_c) []=some (cc r,[]))(f_l:lends f_f=false){r:Bool}(h:Ak s_ f=some r):Y.call 160 [b9 125 (Az .i64 .i64 s_),D.clo f_f f_c] []=some (cc r,[]):=by
 refine AGU ?_ rfl;unfold A3V;unfold Ak at h;obtain⟨pF,hl1,h⟩:=BD h;try dsimp only at h
 have c1:=Bo s_ f f_f f_c f_h f_l hl1
 obtain rfl:=Option.some.inj h
 simp (maxDischargeDepth:=9) only [↓AU,AV,Ap,↓reduceIte,bk,bl,bm,bo,bp,br,bt,bw,bx,bO,b0,b3,b4,b5,b6,b7,b8,f_l,c1]<;>(repeat' apply A7)<;>first|rfl|exact⟨_,rfl⟩|exact⟨_,_,rfl⟩|simp [AR,AB]
def F7(e_Node:Int)(e_Port:Int)(c0_:Int):Option (Bool):= some (decide (e_Node=c0_))
def A3W:SC:= .seq (.ops [oX 2 (.box 125 (tK 0)) 0,oX 3 BS 4]) (.seq (.ops [oF 4 125 2 0,oL 5 3 4 3,oL 6 3 1 3,oB 7 .eql 3 (tK 5) (tK 6) 3 4,oA 3 7 4]) .ret)
theorem uX:Try.f161.body.map (BV lends)=some A3W:=by kernel_rfl
theorem AAe:Bl Try.f161 2=true:=by kernel_rfl
theorem AGV{a l:List D}{r:D×List D}(h:Br Y.env A3W (Fa Ag l.length [ce 3] r) (entry a l))(ha:a.length=2):Y.call 161 a l=some r:=
 Af (Y:=Y) rfl Try.func161 (ha▸AAe) uX h
theorem PG(e_Node:Int)(e_Port:Int)(c0_:Int){r:Bool}(h:F7 e_Node e_Port c0_=some r):Y.call 161 [cm [bh .i64 e_Node,bh .i64 e_Port],D.cptr [bh .i64 c0_]] []=some (cc r,[]):=by
 refine AGV ?_ rfl;unfold A3W;unfold F7 at h
 obtain rfl:=Option.some.inj h
 simp (maxDischargeDepth:=9) only [↓AU,AV,Ap,↓reduceIte,bk,bl,bm,bo,bp,br,bt,bw,bx,bO,b0,b3,b4,b5,b6,b7,b8]<;>(repeat' apply A7)<;>first|rfl|exact⟨_,rfl⟩|exact⟨_,_,rfl⟩|simp [AR,AB]
def Jp(AO:Ay)(AX:AP)(AJ:AP)(u:Int)(v_:Int):Option (Bool):= ck (0≤u∧u.toNat<AO.length)<| (Ak (AO.getD u.toNat bj) (fun a0_0 a0_1=>F7 a0_0 a0_1 v_)).bind fun ed=> some ed
def A3X:SC:= .seq (.ops [oX 3 (.box 47 (tK 0)) 0,oX 5 (.box 3 (tK 2)) 0,oX 6 BS 4]) (.seq (.ops [oF 7 47 3 0,oL 8 45 7 45,oM 9 1 3,oI 10 45 8 9,oL 11 123 10 123,oX 12 (.makeFunc (Fn.func 161) #[] #[(tK 5)]) 167,oC 13 160 [(tK 11),(tK 12)] [123,167] 4,oA 6 13 4]) .ret)
theorem uY:Try.f131.body.map (BV lends)=some A3X:=by kernel_rfl
theorem AAf:Bl Try.f131 3=true:=by kernel_rfl
theorem AGW{a l:List D}{r:D×List D}(h:Br Y.env A3X (Fa Ag l.length [ce 6] r) (entry a l))(ha:a.length=3):Y.call 131 a l=some r:=
 Af (Y:=Y) rfl Try.func131 (ha▸AAf) uY h
theorem R3(AO:Ay)(AX:AP)(AJ:AP)(u:Int)(v_:Int){r:Bool}(h:Jp AO AX AJ u v_=some r):Y.call 131 [cm [b9 123 (AR (fun x=>b9 125 (Az .i64 .i64 x)) AO),b9 3 (AR (bh .i64) AX),b9 3 (AR (bh .i64) AJ)],bh .i64 u,bh .i64 v_] []=some (cc r,[]):=by
 refine AGW ?_ rfl;unfold A3X;unfold Jp at h;obtain⟨e1,h⟩:=Bw h;obtain⟨ed,hl2,h⟩:=BD h;try dsimp only at h
 have c2:=Bg (AO.getD u.toNat bj) (fun a0_0 a0_1=>F7 a0_0 a0_1 v_) 161 [D.cptr [bh .i64 v_]] (fun a0_0 a0_1 _ hh=>PG a0_0 a0_1 v_ hh) oW hl2
 obtain rfl:=Option.some.inj h
 simp (maxDischargeDepth:=9) only [↓AU,AV,Ap,↓reduceIte,bk,bl,bm,bo,bp,br,bt,bw,bx,bO,b0,b3,b4,b5,b6,b7,b8,e1.1,e1.2,c2]<;>(repeat' apply A7)<;>first|rfl|exact⟨_,rfl⟩|exact⟨_,_,rfl⟩|simp [AR,AB]
def FO(t1_Task:Int)(t1_Class:AP)(t1_U:Int)(t1_V:Int)(Il:DK)(ET:Int):Option ((DK×Int)⊕(DK)):= if ET<(t1_Class.length:Int)then ck (0≤ET∧ET.toNat<t1_Class.length)<| some (cd ((UE Il (t1_Class.getD ET.toNat bj) (cf.wrap (((M3 Il (t1_Class.getD ET.toNat bj)).1)+1))),cf.wrap (ET+1))) else some (ca Il)
def JA(t1_Task:Int)(t1_Class:AP)(t1_U:Int)(t1_V:Int)(v:DK×Int):Option (DK):=JB (fun v=>FO t1_Task t1_Class t1_U t1_V v.1 v.2) v
def MG(AA:Ay)(AQ:AP)(AC:AP)(t1_Task:Int)(t1_Class:AP)(t1_U:Int)(t1_V:Int):Option (Bool):= if t1_Task=1 then (JA t1_Task t1_Class t1_U t1_V (([]:DK),0)).bind fun Ae=> if(Ae.any fun p=>p.2==1)=true then some false else if t1_U=0 then some (decide (t1_V=0)) else some false else (CS AA AQ AC t1_U).bind fun uZ=> if uZ=true then (CS AA AQ AC t1_V).bind fun uf=> if uf=true then ck (0≤t1_U∧t1_U.toNat<t1_Class.length)<| ck (0≤t1_V∧t1_V.toNat<t1_Class.length)<| if(t1_Class.getD t1_U.toNat bj)=(t1_Class.getD t1_V.toNat bj)then if t1_Task=2 then if t1_U≤t1_V then (Jp AA AQ AC t1_U t1_V).bind fun AAg=> some AAg else some false else some (decide (t1_U<t1_V)) else some false else some false else some false
def YU:SC:= .seq (.ops [oB 18 .lss 3 (tK 17) (tK 16) 3 0]) (.seq (.cond (tK 18) .skip (.exit 0)) (.seq (.block 1 (.seq (.ops [oI 19 26 15 17,oL 20 3 19 3,oA 7 20 3]) (.ops [oM 21 5 144,oM 22 7 3,oX 23 (.lookup 144 (tK 21) (tK 22) false) 3,oB 24 .add 3 (tK 23) (iK 1) 3 3,⟨none,(.mapUpdate 144 (tK 21) (tK 22) (tK 24)),0,none⟩]))) (.ops [oB 25 .add 3 (tK 17) (iK 1) 3 3,oM 17 25 3])))
def qG:SC:= .loop YU
abbrev JP:List Nat:=[42,43,44,45,46,47,48,49,50,51,52,53,54,55,56,57,58,59,60,61,62,63,64,65,66,67,68]
def k82:SC:= .seq (.ops [oX 2 (.box 47 (tK 0)) 0,oX 3 (.box 57 (tK 1)) 0,oX 4 BS 4]) (.seq (.seq (.ops [oF 10 57 3 0,oL 11 3 10 3,oB 12 .eql 3 (tK 11) (iK 1) 3 4]) (.cond (tK 12) (.seq (.ops [oX 13 (.makeMap 144 none) 144,oA 5 13 144]) (.seq (.seq (.ops [oF 14 57 3 1,oL 15 26 14 26,oN 16 15 26,oX 17 (.move (iK 0)) 3]) (.block 0 qG)) (.seq (.any ⟨5,26,27,28,29,30,31,9,32,33,4,144,3,1,false⟩) (.seq (.ops [oF 34 57 3 2,oL 35 3 34 3,oB 36 .eql 3 (tK 35) (iK 0) 3 4,oM 37 36 4,⟨(some 38),(.fieldAddr 57 (tK 3) 3),0,(some (some 37,true))⟩,⟨(some 39),(.load 3 (tK 38)),3,(some (some 37,true))⟩,⟨(some 40),(.binOp .eql 3 (tK 39) (iK 0) 3),4,(some (some 37,true))⟩,oX 41 (.pick (tK 37) (tK 40) Py) 4,oA 4 41 4]) .ret)))) .skip)) (.seq (.seq (.draws [(⟨[42,2,2],JP,[42]⟩,oL 42 47 2 47),(⟨[43,3,3],JP,[43]⟩,oF 43 57 3 2),(⟨[44,43,3],JP,[44]⟩,oL 44 3 43 3),(⟨[45,42,44,2,3],JP,[45]⟩,oC 45 130 [(tK 42),(tK 44)] [47,3] 4),(⟨[46,45,45],JP,[46]⟩,oX 46 (.unOp .not 4 (tK 45)) 4),(⟨[47,46,46],JP,[47]⟩,oM 47 46 4),(⟨[48,2,2,47],JP,[48]⟩,⟨(some 48),(.load 47 (tK 2)),47,(some (some 47,false))⟩),(⟨[49,3,3,47],JP,[49]⟩,⟨(some 49),(.fieldAddr 57 (tK 3) 3),0,(some (some 47,false))⟩),(⟨[50,49,3,47],JP,[50]⟩,⟨(some 50),(.load 3 (tK 49)),3,(some (some 47,false))⟩),
 (⟨[51,48,50,2,3,47],JP,[51]⟩,⟨(some 51),(.call ⟨(.value (.func 130)), #[(tK 48),(tK 50)], #[47,3]⟩),4,(some (some 47,false))⟩),(⟨[52,51,51,47],JP,[52]⟩,⟨(some 52),(.unOp .not 4 (tK 51)),4,(some (some 47,false))⟩),(⟨[53,47,52,46,52],JP,[53]⟩,oX 53 (.pick (tK 47) Dl (tK 52)) 4),(⟨[54,53,53],JP,[54]⟩,oM 54 53 4),(⟨[55,3,3,54],JP,[55]⟩,⟨(some 55),(.fieldAddr 57 (tK 3) 1),0,(some (some 54,false))⟩),(⟨[56,55,3,54],JP,[56]⟩,⟨(some 56),(.load 26 (tK 55)),26,(some (some 54,false))⟩),(⟨[57,3,3,54],JP,[57]⟩,⟨(some 57),(.fieldAddr 57 (tK 3) 2),0,(some (some 54,false))⟩),(⟨[58,57,3,54],JP,[58]⟩,⟨(some 58),(.load 3 (tK 57)),3,(some (some 54,false))⟩),(⟨[59,56,58,3,3,54],JP,[59]⟩,⟨(some 59),(.indexAddr 26 (tK 56) (tK 58)),0,(some (some 54,false))⟩),(⟨[60,59,3,54],JP,[60]⟩,⟨(some 60),(.load 3 (tK 59)),3,(some (some 54,false))⟩),(⟨[61,3,3,54],JP,[61]⟩,⟨(some 61),(.fieldAddr 57 (tK 3) 1),0,(some (some 54,false))⟩),(⟨[62,61,3,54],JP,[62]⟩,⟨(some 62),(.load 26 (tK 61)),26,(some (some 54,false))⟩),(⟨[63,3,3,54],JP,[63]⟩,⟨(some 63),(.fieldAddr 57 (tK 3) 3),0,(some (some 54,false))⟩),(⟨[64,63,3,54],JP,[64]⟩,⟨(some 64),(.load 3 (tK 63)),3,(some (some 54,false))⟩),(⟨[65,62,64,3,3,54],JP,[65]⟩,⟨(some 65),(.indexAddr 26 (tK 62) (tK 64)),0,(some (some 54,false))⟩),
 (⟨[66,65,3,54],JP,[66]⟩,⟨(some 66),(.load 3 (tK 65)),3,(some (some 54,false))⟩),(⟨[67,60,66,3,3,54],JP,[67]⟩,⟨(some 67),(.binOp .neq 3 (tK 60) (tK 66) 3),4,(some (some 54,false))⟩),(⟨[68,54,67,53,67],JP,[68]⟩,oX 68 (.pick (tK 54) Dl (tK 67)) 4)]) (.cond (tK 68) (.seq (.ops [oX 4 BS 4]) .ret) .skip)) (.seq (.seq (.ops [oF 69 57 3 0,oL 70 3 69 3,oB 71 .eql 3 (tK 70) (iK 2) 3 4]) (.cond (tK 71) (.seq (.ops [oF 72 57 3 2,oL 73 3 72 3,oF 74 57 3 3,oL 75 3 74 3,oB 76 .leq 3 (tK 73) (tK 75) 3 4,oM 77 76 4,⟨(some 78),(.load 47 (tK 2)),47,(some (some 77,true))⟩,⟨(some 79),(.fieldAddr 57 (tK 3) 2),0,(some (some 77,true))⟩,⟨(some 80),(.load 3 (tK 79)),3,(some (some 77,true))⟩,⟨(some 81),(.fieldAddr 57 (tK 3) 3),0,(some (some 77,true))⟩,⟨(some 82),(.load 3 (tK 81)),3,(some (some 77,true))⟩,⟨(some 83),(.call ⟨(.value (.func 131)), #[(tK 78),(tK 80),(tK 82)], #[47,3,3]⟩),4,(some (some 77,true))⟩,oX 84 (.pick (tK 77) (tK 83) Py) 4,oA 4 84 4]) .ret) .skip)) (.seq (.ops [oF 85 57 3 2,oL 86 3 85 3,oF 87 57 3 3,oL 88 3 87 3,oB 89 .lss 3 (tK 86) (tK 88) 3 4,oA 4 89 4]) .ret))))
theorem A3Y:Try.f82.body.map (BV lends)=some k82:=by kernel_rfl
theorem AGY:Bl Try.f82 2=true:=by kernel_rfl
theorem c82{a l:List D}{r:D×List D}(h:Br Y.env k82 (Fa Ag l.length [ce 4] r) (entry a l))(ha:a.length=2):Y.call 82 a l=some r:=
 Af (Y:=Y) rfl Try.func82 (ha▸AGY) A3Y h
def FP(t1_Task:Int)(t1_Class:AP)(t1_U:Int)(t1_V:Int)(Il:DK)(ET:Int)(s:St):Prop:=s.v 3=cj [bh .i64 t1_Task,b9 3 (AR (bh .i64) t1_Class),bh .i64 t1_U,bh .i64 t1_V]∧s.v 5=D.mp 3 3 (Vr Il)∧s.v 15=b9 3 (AR (bh .i64) t1_Class)∧s.v 16=bh .i64 (t1_Class.length:Int)∧s.v 17=bh .i64 ET
def Ha(t1_Task:Int)(t1_Class:AP)(t1_U:Int)(t1_V:Int)(r:DK)(ex:Ex)(s:St):Prop:=ex= .exit 0∧s.v 3=cj [bh .i64 t1_Task,b9 3 (AR (bh .i64) t1_Class),bh .i64 t1_U,bh .i64 t1_V]∧s.v 5=D.mp 3 3 (Vr r)
theorem SQ(t1_Task:Int)(t1_Class:AP)(t1_U:Int)(t1_V:Int){v:DK×Int}{s:St}{r:DK}(h:JA t1_Task t1_Class t1_U t1_V v=some r)(hM:FP t1_Task t1_Class t1_U t1_V v.1 v.2 s):Br Y.env qG (Ha t1_Task t1_Class t1_U t1_V r) s:=by
 unfold JA at h;refine BX (c:=YU) (fun v=>FO t1_Task t1_Class t1_U t1_V v.1 v.2) (fun v s=>FP t1_Task t1_Class t1_U t1_V v.1 v.2 s) (Ha t1_Task t1_Class t1_U t1_V) ?_ h hM;clear h hM s v r;intro v s o hM h;obtain⟨Il,ET⟩:=v;dsimp only at h hM;unfold FO at h;unfold FP at hM;obtain⟨m0,m1,m2,m3,m4⟩:=hM;unfold YU;by_cases e2:ET<(t1_Class.length:Int)
 ·rw [if_pos e2]at h;obtain⟨e3,h⟩:=Bw h
  obtain rfl:=Option.some.inj h
  simp (maxDischargeDepth:=9) only [↓AU,AV,Ap,↓reduceIte,bk,bl,bm,bo,bp,br,bt,bw,bx,bO,b0,b3,b4,b5,b6,b7,b8,m0,m1,m2,m3,m4,e2,e3.1,e3.2,FP,Ha,Ca,Cb,Cc]<;>(repeat' apply A7)<;>first|rfl|exact⟨_,rfl⟩|exact⟨_,_,rfl⟩|simp [AR,AB]
 ·rw [if_neg e2]at h
  obtain rfl:=Option.some.inj h
  simp (maxDischargeDepth:=9) only [↓AU,AV,Ap,↓reduceIte,bk,bl,bm,bo,bp,br,bt,bw,bx,bO,b0,b3,b4,b5,b6,b7,b8,m0,m1,m2,m3,m4,e2,FP,Ha,Ca,Cb,Cc]<;>(repeat' apply A7)<;>first|rfl|exact⟨_,rfl⟩|exact⟨_,_,rfl⟩|simp [AR,AB]
theorem VL(AA:Ay)(AQ:AP)(AC:AP)(t1_Task:Int)(t1_Class:AP)(t1_U:Int)(t1_V:Int){r:Bool}(h:MG AA AQ AC t1_Task t1_Class t1_U t1_V=some r):Y.call 82 [cm [b9 123 (AR (fun x=>b9 125 (Az .i64 .i64 x)) AA),b9 3 (AR (bh .i64) AQ),b9 3 (AR (bh .i64) AC)],cm [bh .i64 t1_Task,b9 3 (AR (bh .i64) t1_Class),bh .i64 t1_U,bh .i64 t1_V]] []=some (cc r,[]):=by
 refine c82 ?_ rfl;unfold k82;unfold MG at h;by_cases e1:t1_Task=1
 ·rw [if_pos e1]at h;obtain⟨Ae,hl3,h⟩:=BD h;try dsimp only at h
  simp (maxDischargeDepth:=9) only [↓AU,AV,Ap,↓reduceIte,bk,bl,bm,bo,bp,br,bt,bw,bx,bO,b0,b3,b4,b5,b6,b7,b8,decide_eq_true e1];refine BL (SQ t1_Task t1_Class t1_U t1_V hl3 ?_) ?_
  ·simp (maxDischargeDepth:=9) only [↓AU,AV,Ap,↓reduceIte,bk,bl,bm,bo,bp,br,bt,bw,bx,bO,b0,b3,b4,b5,b6,b7,b8,decide_eq_true e1,FP]<;>(repeat' apply A7)<;>first|rfl|exact⟨_,rfl⟩|exact⟨_,_,rfl⟩|simp [AR,AB]
  ·intro ex3 s3 hX3;unfold Ha at hX3;obtain⟨rfl,n3_0,n3_1⟩:=hX3;by_cases e4:(Ae.any fun p=>p.2==1)=true
   ·rw [if_pos e4]at h
    obtain rfl:=Option.some.inj h
    simp (maxDischargeDepth:=9) only [↓AU,AV,Ap,↓reduceIte,bk,bl,bm,bo,bp,br,bt,bw,bx,bO,b0,b3,b4,b5,b6,b7,b8,decide_eq_true e1,n3_0,n3_1,e4]<;>(repeat' apply A7)<;>first|rfl|exact⟨_,rfl⟩|exact⟨_,_,rfl⟩|simp [AR,AB]
   ·rw [if_neg e4]at h;have e4f:(Ae.any fun p=>p.2==1)=false:=K7.mpr e4;by_cases e5:t1_U=0
    ·rw [if_pos e5]at h
     obtain rfl:=Option.some.inj h
     simp (maxDischargeDepth:=9) only [↓AU,AV,Ap,↓reduceIte,bk,bl,bm,bo,bp,br,bt,bw,bx,bO,b0,b3,b4,b5,b6,b7,b8,decide_eq_true e1,n3_0,n3_1,e4f,decide_eq_true e5]<;>(repeat' apply A7)<;>first|rfl|exact⟨_,rfl⟩|exact⟨_,_,rfl⟩|simp [AR,AB]
    ·rw [if_neg e5]at h
     obtain rfl:=Option.some.inj h
     simp (maxDischargeDepth:=9) only [↓AU,AV,Ap,↓reduceIte,bk,bl,bm,bo,bp,br,bt,bw,bx,bO,b0,b3,b4,b5,b6,b7,b8,decide_eq_true e1,n3_0,n3_1,e4f,e5]<;>(repeat' apply A7)<;>first|rfl|exact⟨_,rfl⟩|exact⟨_,_,rfl⟩|simp [AR,AB]
 ·rw [if_neg e1]at h;obtain⟨uZ,hl2,h⟩:=BD h;try dsimp only at h
  have c2:=Fq AA AQ AC t1_U hl2;by_cases e3:uZ=true
  ·rw [if_pos e3]at h;obtain⟨uf,hl4,h⟩:=BD h;try dsimp only at h
   have c4:=Fq AA AQ AC t1_V hl4;by_cases e5:uf=true
   ·rw [if_pos e5]at h;obtain⟨e6,h⟩:=Bw h;obtain⟨e7,h⟩:=Bw h;by_cases e8:(t1_Class.getD t1_U.toNat bj)=(t1_Class.getD t1_V.toNat bj)
    ·rw [if_pos e8]at h;by_cases e9:t1_Task=2
     ·rw [if_pos e9]at h;by_cases e10:t1_U≤t1_V
      ·rw [if_pos e10]at h;obtain⟨AAg,hl11,h⟩:=BD h;try dsimp only at h
       have c11:=R3 AA AQ AC t1_U t1_V hl11
       obtain rfl:=Option.some.inj h
       simp (maxDischargeDepth:=9) only [↓AU,AV,Ap,↓reduceIte,bk,bl,bm,bo,bp,br,bt,bw,bx,bO,b0,b3,b4,b5,b6,b7,b8,e1,c2,e3,c4,e5,e6.1,e6.2,e7.1,e7.2,decide_eq_true e8,decide_eq_true e9,e10,c11]<;>(repeat' apply A7)<;>first|rfl|exact⟨_,rfl⟩|exact⟨_,_,rfl⟩|simp [AR,AB]
      ·rw [if_neg e10]at h
       obtain rfl:=Option.some.inj h
       simp (maxDischargeDepth:=9) only [↓AU,AV,Ap,↓reduceIte,bk,bl,bm,bo,bp,br,bt,bw,bx,bO,b0,b3,b4,b5,b6,b7,b8,e1,c2,e3,c4,e5,e6.1,e6.2,e7.1,e7.2,decide_eq_true e8,decide_eq_true e9,e10]<;>(repeat' apply A7)<;>first|rfl|exact⟨_,rfl⟩|exact⟨_,_,rfl⟩|simp [AR,AB]
     ·rw [if_neg e9]at h
      obtain rfl:=Option.some.inj h
      simp (maxDischargeDepth:=9) only [↓AU,AV,Ap,↓reduceIte,bk,bl,bm,bo,bp,br,bt,bw,bx,bO,b0,b3,b4,b5,b6,b7,b8,e1,c2,e3,c4,e5,e6.1,e6.2,e7.1,e7.2,decide_eq_true e8,e9]<;>(repeat' apply A7)<;>first|rfl|exact⟨_,rfl⟩|exact⟨_,_,rfl⟩|simp [AR,AB]
    ·rw [if_neg e8]at h
     obtain rfl:=Option.some.inj h
     simp (maxDischargeDepth:=9) only [↓AU,AV,Ap,↓reduceIte,bk,bl,bm,bo,bp,br,bt,bw,bx,bO,b0,b3,b4,b5,b6,b7,b8,e1,c2,e3,c4,e5,e6.1,e6.2,e7.1,e7.2,e8]<;>(repeat' apply A7)<;>first|rfl|exact⟨_,rfl⟩|exact⟨_,_,rfl⟩|simp [AR,AB]
   ·rw [if_neg e5]at h;have e5f:uf=false:=K7.mpr e5
    obtain rfl:=Option.some.inj h
    simp (maxDischargeDepth:=9) only [↓AU,AV,Ap,↓reduceIte,bk,bl,bm,bo,bp,br,bt,bw,bx,bO,b0,b3,b4,b5,b6,b7,b8,e1,c2,e3,c4,e5f]<;>(repeat' apply A7)<;>first|rfl|exact⟨_,rfl⟩|exact⟨_,_,rfl⟩|simp [AR,AB]
  ·rw [if_neg e3]at h;have e3f:uZ=false:=K7.mpr e3
   obtain rfl:=Option.some.inj h
   simp (maxDischargeDepth:=9) only [↓AU,AV,Ap,↓reduceIte,bk,bl,bm,bo,bp,br,bt,bw,bx,bO,b0,b3,b4,b5,b6,b7,b8,e1,c2,e3f]<;>(repeat' apply A7)<;>first|rfl|exact⟨_,rfl⟩|exact⟨_,_,rfl⟩|simp [AR,AB]
def EG(AO:Ay)(AX:AP)(AJ:AP)(task:Int)(EY:Int×AP)(JQ:Int)(YV:Int):Option ((Int)⊕(Int⊕Unit)):= if YV<(EY.2.length:Int)then (MG AO AX AJ task EY.2 JQ YV).bind fun ug=> if ug=true then some (ca (cd YV)) else some (cd (cf.wrap (YV+1))) else some (ca (ca ()))
def Hd(AO:Ay)(AX:AP)(AJ:AP)(task:Int)(EY:Int×AP)(JQ:Int)(v:Int):Option (Int⊕Unit):=JB (fun v=>EG AO AX AJ task EY JQ v) v
def EH(AO:Ay)(AX:AP)(AJ:AP)(task:Int)(EY:Int×AP)(JQ:Int):Option ((Int)⊕((Int×Int)⊕Unit)):=
 if JQ<(EY.2.length:Int)then
  (Hd AO AX AJ task EY JQ 0).bind fun Ae=>
  match Ae with
  | .inl q1000_=>
   some (ca (cd (JQ,q1000_)))
  | .inr q1000_=>
   some (cd (cf.wrap (JQ+1)))
 else
  some (ca (ca ()))
def He(AO:Ay)(AX:AP)(AJ:AP)(task:Int)(EY:Int×AP)(v:Int):Option ((Int×Int)⊕Unit):=JB (fun v=>EH AO AX AJ task EY v) v
def Jq(AO:Ay)(AX:AP)(AJ:AP)(task:Int):Option (Int×AP×Int×Int×Bool):=
 ck (C9 AO)<|
 ck (AX.length<1099511627776)<|
 ck (AJ.length<1099511627776)<|
 if(IL AO AX AJ)=true then
  (QI task).bind fun NH=>
  if NH=true then
   (Nz AO AX AJ).bind fun EY=>
   (He AO AX AJ task EY 0).bind fun Cz=>
   match Cz with
   | .inl q1001_=>
    some (task,EY.2,q1001_.1,q1001_.2,true)
   | .inr q1001_=>
    some (0,[],0,0,false)
  else
   some (0,[],0,0,false)
 else
  some (0,[],0,0,false)
def YW:SC:= .seq (.ops [oB 33 .lss 3 (tK 32) (tK 31) 3 0]) (.seq (.cond (tK 33) .skip (.exit 2)) (.seq (.block 3 (.seq (.ops [oM 34 32 3,oA 9 34 3]) (.seq (.ops [oM 35 1 3,oM 36 7 26,oM 37 8 3,oM 38 9 3,oX 39 (.build 57 #[(0,(tK 35)),(1,(tK 36)),(2,(tK 37)),(3,(tK 38))]) 900015,oX 10 (.alloc 57) 0,⟨none,(.store 57 (tK 10) (tK 39)),900016,none⟩]) (.seq (.ops [oL 40 47 2 47,oL 41 57 10 57,oC 42 82 [(tK 40),(tK 41)] [47,57] 4]) (.cond (tK 42) (.seq (.ops [oL 43 57 10 57,oS 57 4 43,oX 5 (.assign Dl) 4]) .ret) .skip))))) (.ops [oB 44 .add 3 (tK 32) (iK 1) 3 3,oM 32 44 3])))
def qH:SC:= .loop YW
def YX:SC:= .seq (.ops [oB 28 .lss 3 (tK 27) (tK 26) 3 0]) (.seq (.cond (tK 28) .skip (.exit 0)) (.seq (.block 1 (.seq (.ops [oM 29 27 3,oA 8 29 3]) (.seq (.ops [oM 30 7 26,oN 31 30 26,oX 32 (.move (iK 0)) 3]) (.block 2 qH)))) (.ops [oB 45 .add 3 (tK 27) (iK 1) 3 3,oM 27 45 3])))
def qI:SC:= .loop YX
def k32:SC:= .seq (.ops [oX 2 (.box 47 (tK 0)) 0,oX 4 (.alloc 57) 0,oX 5 BS 4]) (.seq (.seq (.ops [oL 11 47 2 47,oC 12 67 [(tK 11)] [47] 4,oX 13 (.unOp .not 4 (tK 12)) 4,oM 14 13 4,⟨(some 15),(.move (tK 1)),3,(some (some 14,false))⟩,⟨(some 16),(.call ⟨(.value (.func 68)), #[(tK 15)], #[3]⟩),4,(some (some 14,false))⟩,⟨(some 17),(.unOp .not 4 (tK 16)),4,(some (some 14,false))⟩,oX 18 (.pick (tK 14) Dl (tK 17)) 4]) (.cond (tK 18) (.seq (.ops [oX 19 (.build 57 #[]) 57,oS 57 4 19,oX 5 BS 4]) .ret) .skip)) (.seq (.ops [oL 21 47 2 47,oC 22 78 [(tK 21)] [47] 97,oM 20 22 97,oE 23 20 0 3,oE 24 20 1 26,oA 6 23 3,oA 7 24 26]) (.seq (.seq (.ops [oM 25 7 26,oN 26 25 26,oX 27 (.move (iK 0)) 3]) (.block 0 qI)) (.seq (.ops [oX 46 (.build 57 #[]) 57,oS 57 4 46,oX 5 BS 4]) .ret))))
theorem A3Z:Try.f32.body.map (BV lends)=some k32:=by kernel_rfl
theorem AGa:Bl Try.f32 2=true:=by kernel_rfl
theorem c32{a l:List D}{r:D×List D}(h:Br Y.env k32 (Fa Ag l.length [ResultVar.cell 4 57,ce 5] r) (entry a l))(ha:a.length=2):Y.call 32 a l=some r:=
 Af (Y:=Y) rfl Try.func32 (ha▸AGa) A3Z h
def DD(AO:Ay)(AX:AP)(AJ:AP)(task:Int)(EY:Int×AP)(JQ:Int)(YV:Int)(s:St):Prop:=s.v 1=bh .i64 task∧s.v 2=cj [b9 123 (AR (fun x=>b9 125 (Az .i64 .i64 x)) AO),b9 3 (AR (bh .i64) AX),b9 3 (AR (bh .i64) AJ)]∧s.v 4=cj [bh .i64 0,cb 3 [],bh .i64 0,bh .i64 0]∧s.v 7=cb 3 (AR (bh .i64) EY.2)∧s.v 8=bh .i64 JQ∧s.v 26=bh .i64 (EY.2.length:Int)∧s.v 27=bh .i64 JQ∧s.v 31=bh .i64 (EY.2.length:Int)∧s.v 32=bh .i64 YV
def DF(AO:Ay)(AX:AP)(AJ:AP)(task:Int)(EY:Int×AP)(JQ:Int)(r:Int⊕Unit)(ex:Ex)(s:St):Prop:=match r with
 | .inl q=>ex= .ret∧s.v 4=cj [bh .i64 task,cb 3 (AR (bh .i64) EY.2),bh .i64 JQ,bh .i64 q]∧s.v 5=cc true
 | .inr q=>ex= .exit 2∧s.v 1=bh .i64 task∧s.v 2=cj [b9 123 (AR (fun x=>b9 125 (Az .i64 .i64 x)) AO),b9 3 (AR (bh .i64) AX),b9 3 (AR (bh .i64) AJ)]∧s.v 4=cj [bh .i64 0,cb 3 [],bh .i64 0,bh .i64 0]∧s.v 7=cb 3 (AR (bh .i64) EY.2)∧s.v 26=bh .i64 (EY.2.length:Int)∧s.v 27=bh .i64 JQ
theorem QK(AO:Ay)(AX:AP)(AJ:AP)(task:Int)(EY:Int×AP)(JQ:Int){v:Int}{s:St}{r:Int⊕Unit}(h:Hd AO AX AJ task EY JQ v=some r)(hM:DD AO AX AJ task EY JQ v s):Br Y.env qH (DF AO AX AJ task EY JQ r) s:=by
 unfold Hd at h;refine BX (c:=YW) (fun v=>EG AO AX AJ task EY JQ v) (fun v s=>DD AO AX AJ task EY JQ v s) (DF AO AX AJ task EY JQ) ?_ h hM;clear h hM s v r;intro YV s o hM h;unfold EG at h;unfold DD at hM;obtain⟨m0,m1,m2,m3,m4,m5,m6,m7,m8⟩:=hM;unfold YW;by_cases e10:YV<(EY.2.length:Int)
 ·rw [if_pos e10]at h;obtain⟨ug,hl11,h⟩:=BD h;try dsimp only at h
  have c11:=VL AO AX AJ task EY.2 JQ YV hl11;by_cases e12:ug=true
  ·rw [if_pos e12]at h
   obtain rfl:=Option.some.inj h
   simp (maxDischargeDepth:=9) only [↓AU,AV,Ap,↓reduceIte,bk,bl,bm,bo,bp,br,bt,bw,bx,bO,b0,b3,b4,b5,b6,b7,b8,m0,m1,m2,m3,m4,m5,m6,m7,m8,e10,c11,e12,DD,DF,Ca,Cb,Cc]<;>(repeat' apply A7)<;>first|rfl|exact⟨_,rfl⟩|exact⟨_,_,rfl⟩|simp [AR,AB]
  ·rw [if_neg e12]at h;have e12f:ug=false:=K7.mpr e12
   obtain rfl:=Option.some.inj h
   simp (maxDischargeDepth:=9) only [↓AU,AV,Ap,↓reduceIte,bk,bl,bm,bo,bp,br,bt,bw,bx,bO,b0,b3,b4,b5,b6,b7,b8,m0,m1,m2,m3,m4,m5,m6,m7,m8,e10,c11,e12f,DD,DF,Ca,Cb,Cc]<;>(repeat' apply A7)<;>first|rfl|exact⟨_,rfl⟩|exact⟨_,_,rfl⟩|simp [AR,AB]
 ·rw [if_neg e10]at h
  obtain rfl:=Option.some.inj h
  simp (maxDischargeDepth:=9) only [↓AU,AV,Ap,↓reduceIte,bk,bl,bm,bo,bp,br,bt,bw,bx,bO,b0,b3,b4,b5,b6,b7,b8,m0,m1,m2,m3,m4,m5,m6,m7,m8,e10,DD,DF,Ca,Cb,Cc]<;>(repeat' apply A7)<;>first|rfl|exact⟨_,rfl⟩|exact⟨_,_,rfl⟩|simp [AR,AB]
def DI(AO:Ay)(AX:AP)(AJ:AP)(task:Int)(EY:Int×AP)(JQ:Int)(s:St):Prop:=s.v 1=bh .i64 task∧s.v 2=cj [b9 123 (AR (fun x=>b9 125 (Az .i64 .i64 x)) AO),b9 3 (AR (bh .i64) AX),b9 3 (AR (bh .i64) AJ)]∧s.v 4=cj [bh .i64 0,cb 3 [],bh .i64 0,bh .i64 0]∧s.v 7=cb 3 (AR (bh .i64) EY.2)∧s.v 26=bh .i64 (EY.2.length:Int)∧s.v 27=bh .i64 JQ
def DJ(AO:Ay)(AX:AP)(AJ:AP)(task:Int)(EY:Int×AP)(r:(Int×Int)⊕Unit)(ex:Ex)(s:St):Prop:=match r with
 | .inl q=>ex= .ret∧s.v 4=cj [bh .i64 task,cb 3 (AR (bh .i64) EY.2),bh .i64 q.1,bh .i64 q.2]∧s.v 5=cc true
 | .inr q=>ex= .exit 0∧s.v 4=cj [bh .i64 0,cb 3 [],bh .i64 0,bh .i64 0]
theorem QL(AO:Ay)(AX:AP)(AJ:AP)(task:Int)(EY:Int×AP){v:Int}{s:St}{r:(Int×Int)⊕Unit}(h:He AO AX AJ task EY v=some r)(hM:DI AO AX AJ task EY v s):Br Y.env qI (DJ AO AX AJ task EY r) s:=by
 unfold He at h;refine BX (c:=YX) (fun v=>EH AO AX AJ task EY v) (fun v s=>DI AO AX AJ task EY v s) (DJ AO AX AJ task EY) ?_ h hM;clear h hM s v r;intro JQ s o hM h;unfold EH at h;unfold DI at hM;obtain⟨m0,m1,m2,m3,m4,m5⟩:=hM;unfold YX;by_cases e9:JQ<(EY.2.length:Int)
 ·rw [if_pos e9]at h;obtain⟨Ae,hl11,h⟩:=BD h;try dsimp only at h
  simp (maxDischargeDepth:=9) only [↓AU,AV,Ap,↓reduceIte,bk,bl,bm,bo,bp,br,bt,bw,bx,bO,b0,b3,b4,b5,b6,b7,b8,m0,m1,m2,m3,m4,m5,e9];refine BL (QK AO AX AJ task EY JQ hl11 ?_) ?_
  ·simp (maxDischargeDepth:=9) only [↓AU,AV,Ap,↓reduceIte,bk,bl,bm,bo,bp,br,bt,bw,bx,bO,b0,b3,b4,b5,b6,b7,b8,m0,m1,m2,m3,m4,m5,e9,DD]<;>(repeat' apply A7)<;>first|rfl|exact⟨_,rfl⟩|exact⟨_,_,rfl⟩|simp [AR,AB]
  ·intro ex11 s11 hX11;rcases Ae with q1000_|q1000_
   ·unfold DF at hX11;dsimp only at hX11 h;obtain⟨rfl,n11_0,n11_1⟩:=hX11
    obtain rfl:=Option.some.inj h
    simp (maxDischargeDepth:=9) only [↓AU,AV,Ap,↓reduceIte,bk,bl,bm,bo,bp,br,bt,bw,bx,bO,b0,b3,b4,b5,b6,b7,b8,e9,n11_0,n11_1,DI,DJ,Ca,Cb,Cc]<;>(repeat' apply A7)<;>first|rfl|exact⟨_,rfl⟩|exact⟨_,_,rfl⟩|simp [AR,AB]
   ·unfold DF at hX11;dsimp only at hX11 h;obtain⟨rfl,n11_0,n11_1,n11_2,n11_3,n11_4,n11_5⟩:=hX11
    obtain rfl:=Option.some.inj h
    simp (maxDischargeDepth:=9) only [↓AU,AV,Ap,↓reduceIte,bk,bl,bm,bo,bp,br,bt,bw,bx,bO,b0,b3,b4,b5,b6,b7,b8,e9,n11_0,n11_1,n11_2,n11_3,n11_4,n11_5,DI,DJ,Ca,Cb,Cc]<;>(repeat' apply A7)<;>first|rfl|exact⟨_,rfl⟩|exact⟨_,_,rfl⟩|simp [AR,AB]
 ·rw [if_neg e9]at h
  obtain rfl:=Option.some.inj h
  simp (maxDischargeDepth:=9) only [↓AU,AV,Ap,↓reduceIte,bk,bl,bm,bo,bp,br,bt,bw,bx,bO,b0,b3,b4,b5,b6,b7,b8,m0,m1,m2,m3,m4,m5,e9,DI,DJ,Ca,Cb,Cc]<;>(repeat' apply A7)<;>first|rfl|exact⟨_,rfl⟩|exact⟨_,_,rfl⟩|simp [AR,AB]
theorem R4(AO:Ay)(AX:AP)(AJ:AP)(task:Int){r:Int×AP×Int×Int×Bool}(h:Jq AO AX AJ task=some r):Y.call 32 [cm [b9 123 (AR (fun x=>b9 125 (Az .i64 .i64 x)) AO),b9 3 (AR (bh .i64) AX),b9 3 (AR (bh .i64) AJ)],bh .i64 task] []=some (D.tup [cm [bh .i64 r.1,cb 3 (AR (bh .i64) r.2.1),bh .i64 r.2.2.1,bh .i64 r.2.2.2.1],cc r.2.2.2.2],[]):=by
 refine c32 ?_ rfl;unfold k32;unfold Jq at h;obtain⟨e1,h⟩:=Bw h;obtain⟨e2,h⟩:=Bw h;obtain⟨e3,h⟩:=Bw h;have c4:=Ur AO AX AJ e1 e2 e3;by_cases e5:(IL AO AX AJ)=true
 ·rw [if_pos e5]at h;obtain⟨NH,hl6,h⟩:=BD h;try dsimp only at h
  have c6:=WN task hl6;by_cases e7:NH=true
  ·rw [if_pos e7]at h;obtain⟨EY,hl8,h⟩:=BD h;try dsimp only at h
   have c8:=WL AO AX AJ hl8;obtain⟨Cz,hl10,h⟩:=BD h;try dsimp only at h
   simp (maxDischargeDepth:=9) only [↓AU,AV,Ap,↓reduceIte,bk,bl,bm,bo,bp,br,bt,bw,bx,bO,b0,b3,b4,b5,b6,b7,b8,e1,e2,e3,c4,e5,c6,e7,c8];refine BL (QL AO AX AJ task EY hl10 ?_) ?_
   ·simp (maxDischargeDepth:=9) only [↓AU,AV,Ap,↓reduceIte,bk,bl,bm,bo,bp,br,bt,bw,bx,bO,b0,b3,b4,b5,b6,b7,b8,e1,e2,e3,c4,e5,c6,e7,c8,DI]<;>(repeat' apply A7)<;>first|rfl|exact⟨_,rfl⟩|exact⟨_,_,rfl⟩|simp [AR,AB]
   ·intro ex10 s10 hX10;rcases Cz with q1001_|q1001_
    ·unfold DJ at hX10;dsimp only at hX10 h;obtain⟨rfl,n10_0,n10_1⟩:=hX10
     obtain rfl:=Option.some.inj h
     simp (maxDischargeDepth:=9) only [↓AU,AV,Ap,↓reduceIte,bk,bl,bm,bo,bp,br,bt,bw,bx,bO,b0,b3,b4,b5,b6,b7,b8,e1,e2,e3,c4,e5,c6,e7,c8,n10_0,n10_1]<;>(repeat' apply A7)<;>first|rfl|exact⟨_,rfl⟩|exact⟨_,_,rfl⟩|simp [AR,AB]
    ·unfold DJ at hX10;dsimp only at hX10 h;obtain⟨rfl,n10_0⟩:=hX10
     obtain rfl:=Option.some.inj h
     simp (maxDischargeDepth:=9) only [↓AU,AV,Ap,↓reduceIte,bk,bl,bm,bo,bp,br,bt,bw,bx,bO,b0,b3,b4,b5,b6,b7,b8,e1,e2,e3,c4,e5,c6,e7,c8,n10_0]<;>(repeat' apply A7)<;>first|rfl|exact⟨_,rfl⟩|exact⟨_,_,rfl⟩|simp [AR,AB]
  ·rw [if_neg e7]at h;have e7f:NH=false:=K7.mpr e7
   obtain rfl:=Option.some.inj h
   simp (maxDischargeDepth:=9) only [↓AU,AV,Ap,↓reduceIte,bk,bl,bm,bo,bp,br,bt,bw,bx,bO,b0,b3,b4,b5,b6,b7,b8,e1,e2,e3,c4,e5,c6,e7f]<;>(repeat' apply A7)<;>first|rfl|exact⟨_,rfl⟩|exact⟨_,_,rfl⟩|simp [AR,AB]
 ·rw [if_neg e5]at h;have e5f:(IL AO AX AJ)=false:=K7.mpr e5
  obtain rfl:=Option.some.inj h
  simp (maxDischargeDepth:=9) only [↓AU,AV,Ap,↓reduceIte,bk,bl,bm,bo,bp,br,bt,bw,bx,bO,b0,b3,b4,b5,b6,b7,b8,e1,e2,e3,c4,e5f]<;>(repeat' apply A7)<;>first|rfl|exact⟨_,rfl⟩|exact⟨_,_,rfl⟩|simp [AR,AB]
def Jr(AO:Ay)(AX:AP)(AJ:AP)(task:Int):Option (Int×AP×Int×Int×Bool):= ck (C9 AO)<| ck (AX.length<1099511627776)<| ck (AJ.length<1099511627776)<| if(IL AO AX AJ)=true then (QJ task).bind fun Jg=> if Jg=true then (MF AO AX AJ).bind fun Ie=> (OE AO AX AJ task Ie).bind fun uh=> if uh=true then some (0,[],0,0,false) else if task=2 then (Ji AO AX AJ Ie).bind fun kV=> some (task,Ie,kV.1,kV.2.1,true) else if task=3 then (Jk Ie).bind fun aQ=> some (task,Ie,aQ.1,aQ.2.1,true) else some (task,Ie,0,0,true) else some (0,[],0,0,false) else some (0,[],0,0,false)
abbrev PH:List Nat:=[13,14,15,16,17,18,19,20,21,22,23,24,25,26,27]
def k31:SC:= .seq (.ops [oX 2 (.box 47 (tK 0)) 0,oX 4 (.alloc 57) 0,oX 5 BS 4]) (.seq (.seq (.draws [(⟨[13,2,2],PH,[13]⟩,oL 13 47 2 47),(⟨[14,13,2],PH,[14]⟩,oC 14 60 [(tK 13)] [47] 4),(⟨[15,14,14],PH,[15]⟩,oX 15 (.unOp .not 4 (tK 14)) 4),(⟨[16,15,15],PH,[16]⟩,oM 16 15 4),(⟨[17,1,1,16],PH,[17]⟩,⟨(some 17),(.move (tK 1)),3,(some (some 16,false))⟩),(⟨[18,17,1,16],PH,[18]⟩,⟨(some 18),(.call ⟨(.value (.func 61)), #[(tK 17)], #[3]⟩),4,(some (some 16,false))⟩),(⟨[19,18,18,16],PH,[19]⟩,⟨(some 19),kP,4,(some (some 16,false))⟩),(⟨[20,16,19,15,19],PH,[20]⟩,oX 20 (.pick (tK 16) Dl (tK 19)) 4),(⟨[21,20,20],PH,[21]⟩,oM 21 20 4),(⟨[22,2,2,21],PH,[22]⟩,⟨(some 22),(.load 47 (tK 2)),47,(some (some 21,false))⟩),(⟨[23,1,1,21],PH,[23]⟩,⟨(some 23),(.move (tK 1)),3,(some (some 21,false))⟩),(⟨[24,2,2,21],PH,[24]⟩,⟨(some 24),(.load 47 (tK 2)),47,(some (some 21,false))⟩),(⟨[25,24,2,21],PH,[25]⟩,⟨(some 25),(.call ⟨(.value (.func 74)), #[(tK 24)], #[47]⟩),26,(some (some 21,false))⟩),(⟨[26,22,23,25,2,1,25,21],PH,[26]⟩,⟨(some 26),(.call ⟨(.value (.func 63)), #[(tK 22),(tK 23),(tK 25)], #[47,3,26]⟩),4,(some (some 21,false))⟩),(⟨[27,21,26,20,26],PH,[27]⟩,oX 27 (.pick (tK 21) Dl (tK 26)) 4)]) (.cond (tK 27)
 (.seq (.ops [oX 28 (.build 57 #[]) 57,oS 57 4 28,oX 5 BS 4]) .ret) .skip)) (.seq (.ops [oM 29 1 3,oL 30 47 2 47,oC 31 74 [(tK 30)] [47] 26,oX 32 (.build 57 #[(0,(tK 29)),(1,(tK 31))]) 57,oX 6 (.alloc 57) 0,oS 57 6 32]) (.seq (.seq (.ops [oM 33 1 3]) (.block 0 (.seq (.ops [oB 35 .eql 3 (tK 33) (iK 2) 3 4,oA 34 35 4]) (.cond (tK 34) (.seq (.ops [oL 37 47 2 47,oF 38 57 6 1,oL 39 26 38 26,oC 40 80 [(tK 37),(tK 39)] [47,26] 100,oM 36 40 100,oE 41 36 0 3,oE 42 36 1 3,oE 43 36 2 4,oA 7 41 3,oA 8 42 3,oA 9 43 4]) (.seq (.ops [oM 44 7 3,oF 45 57 6 2,oS 3 45 44]) (.ops [oM 46 8 3,oF 47 57 6 3,oS 3 47 46]))) (.seq (.ops [oB 49 .eql 3 (tK 33) (iK 3) 3 4,oA 48 49 4]) (.cond (tK 48) (.seq (.ops [oF 51 57 6 1,oL 52 26 51 26,oC 53 81 [(tK 52)] [26] 100,oM 50 53 100,oE 54 50 0 3,oE 55 50 1 3,oE 56 50 2 4,oA 10 54 3,oA 11 55 3,oA 12 56 4]) (.seq (.ops [oM 57 10 3,oF 58 57 6 2,oS 3 58 57]) (.ops [oM 59 11 3,oF 60 57 6 3,oS 3 60 59]))) .skip)))))) (.seq (.ops [oL 61 57 6 57,oS 57 4 61,oX 5 (.assign Dl) 4]) .ret))))
theorem A3a:Try.f31.body.map (BV lends)=some k31:=by kernel_rfl
theorem AGc:Bl Try.f31 2=true:=by kernel_rfl
theorem c31{a l:List D}{r:D×List D}(h:Br Y.env k31 (Fa Ag l.length [ResultVar.cell 4 57,ce 5] r) (entry a l))(ha:a.length=2):Y.call 31 a l=some r:=
 Af (Y:=Y) rfl Try.func31 (ha▸AGc) A3a h
theorem R5(AO:Ay)(AX:AP)(AJ:AP)(task:Int){r:Int×AP×Int×Int×Bool}(h:Jr AO AX AJ task=some r):Y.call 31 [cm [b9 123 (AR (fun x=>b9 125 (Az .i64 .i64 x)) AO),b9 3 (AR (bh .i64) AX),b9 3 (AR (bh .i64) AJ)],bh .i64 task] []=some (D.tup [cm [bh .i64 r.1,cb 3 (AR (bh .i64) r.2.1),bh .i64 r.2.2.1,bh .i64 r.2.2.2.1],cc r.2.2.2.2],[]):=by
 refine c31 ?_ rfl;unfold k31;unfold Jr at h;obtain⟨e1,h⟩:=Bw h;obtain⟨e2,h⟩:=Bw h;obtain⟨e3,h⟩:=Bw h;have c4:=aS AO AX AJ e1 e2 e3;by_cases e5:(IL AO AX AJ)=true
 ·rw [if_pos e5]at h;obtain⟨Jg,hl6,h⟩:=BD h;try dsimp only at h
  have c6:=WP task hl6;by_cases e7:Jg=true
  ·rw [if_pos e7]at h;obtain⟨Ie,hl8,h⟩:=BD h;try dsimp only at h
   have c8:=VH AO AX AJ hl8;obtain⟨uh,hl9,h⟩:=BD h;try dsimp only at h
   have c9:=YT AO AX AJ task Ie hl9;by_cases e10:uh=true
   ·rw [if_pos e10]at h
    obtain rfl:=Option.some.inj h
    simp (maxDischargeDepth:=9) only [↓AU,AV,Ap,↓reduceIte,bk,bl,bm,bo,bp,br,bt,bw,bx,bO,b0,b3,b4,b5,b6,b7,b8,e1,e2,e3,c4,e5,c6,e7,c8,c9,e10]<;>(repeat' apply A7)<;>first|rfl|exact⟨_,rfl⟩|exact⟨_,_,rfl⟩|simp [AR,AB]
   ·rw [if_neg e10]at h;have e10f:uh=false:=K7.mpr e10;by_cases e11:task=2
    ·rw [if_pos e11]at h;obtain⟨kV,hl12,h⟩:=BD h;try dsimp only at h
     have ak:=Oe AO AX AJ Ie hl12
     obtain rfl:=Option.some.inj h
     simp (maxDischargeDepth:=9) only [↓AU,AV,Ap,↓reduceIte,bk,bl,bm,bo,bp,br,bt,bw,bx,bO,b0,b3,b4,b5,b6,b7,b8,e1,e2,e3,c4,e5,c6,e7,c8,c9,e10f,decide_eq_true e11,ak]<;>(repeat' apply A7)<;>first|rfl|exact⟨_,rfl⟩|exact⟨_,_,rfl⟩|simp [AR,AB]
    ·rw [if_neg e11]at h;by_cases e12:task=3
     ·rw [if_pos e12]at h;obtain⟨aQ,hl13,h⟩:=BD h;try dsimp only at h
      have c13:=Og Ie hl13
      obtain rfl:=Option.some.inj h
      simp (maxDischargeDepth:=9) only [↓AU,AV,Ap,↓reduceIte,bk,bl,bm,bo,bp,br,bt,bw,bx,bO,b0,b3,b4,b5,b6,b7,b8,e1,e2,e3,c4,e5,c6,e7,c8,c9,e10f,e11,decide_eq_true e12,c13]<;>(repeat' apply A7)<;>first|rfl|exact⟨_,rfl⟩|exact⟨_,_,rfl⟩|simp [AR,AB]
     ·rw [if_neg e12]at h
      obtain rfl:=Option.some.inj h
      simp (maxDischargeDepth:=9) only [↓AU,AV,Ap,↓reduceIte,bk,bl,bm,bo,bp,br,bt,bw,bx,bO,b0,b3,b4,b5,b6,b7,b8,e1,e2,e3,c4,e5,c6,e7,c8,c9,e10f,e11,e12]<;>(repeat' apply A7)<;>first|rfl|exact⟨_,rfl⟩|exact⟨_,_,rfl⟩|simp [AR,AB]
  ·rw [if_neg e7]at h;have e7f:Jg=false:=K7.mpr e7
   obtain rfl:=Option.some.inj h
   simp (maxDischargeDepth:=9) only [↓AU,AV,Ap,↓reduceIte,bk,bl,bm,bo,bp,br,bt,bw,bx,bO,b0,b3,b4,b5,b6,b7,b8,e1,e2,e3,c4,e5,c6,e7f]<;>(repeat' apply A7)<;>first|rfl|exact⟨_,rfl⟩|exact⟨_,_,rfl⟩|simp [AR,AB]
 ·rw [if_neg e5]at h;have e5f:(IL AO AX AJ)=false:=K7.mpr e5
  obtain rfl:=Option.some.inj h
  simp (maxDischargeDepth:=9) only [↓AU,AV,Ap,↓reduceIte,bk,bl,bm,bo,bp,br,bt,bw,bx,bO,b0,b3,b4,b5,b6,b7,b8,e1,e2,e3,c4,e5f]<;>(repeat' apply A7)<;>first|rfl|exact⟨_,rfl⟩|exact⟨_,_,rfl⟩|simp [AR,AB]
def aW(k:Int)(n:Nat):DK:=(an n).map fun(i:Nat)=>(k+2*(i:Int),k+2*(i:Int)+1)
theorem YY(k:Int)(n:Nat):(aW k n).length=n:=by simp [aW]
theorem qJ(k:Int)(n:Nat):aW k (n+1)=aW k n++[(k+2*(n:Int),k+2*(n:Int)+1)]:=by simp [aW,List.range_succ]
theorem A3b{α:Type}(A xs:List α)(i:Nat)(v:α)(hA:A.length=i)(h:i<xs.length):(A++xs.drop i).set i v=(A++[v])++xs.drop (i+1):=by
 rw [cA _ _ (by omega),hA,QU,iU h,Yk,Rn];rfl
theorem qK(t:DK)(i:Nat)(p:Int×Int)(h:i<t.length):BQ (t.set i p) i=p.1:=by
 unfold BQ;simp [KR,h]
def Ee(k:Int)(k1:Int)(i:Int)(BJ:DK):Option ((Int×Int×DK)⊕(Int×DK)):= if i<(BJ.length:Int)then ck (0≤i∧i.toNat<BJ.length)<| ck (0≤i∧i.toNat<(BJ.set i.toNat (k1,(CU BJ i.toNat))).length)<| some (cd (cf.wrap ((cf.wrap (k1+1))+1),cf.wrap (i+1),((BJ.set i.toNat (k1,(CU BJ i.toNat))).set i.toNat ((BQ (BJ.set i.toNat (k1,(CU BJ i.toNat))) i.toNat),cf.wrap (k1+1))))) else some (ca (k1,BJ))
def JU(k:Int)(v:Int×Int×DK):Option (Int×DK):=JB (fun v=>Ee k v.1 v.2.1 v.2.2) v
def Mo(a:DK)(k:Int):Option (Int×DK):= (JU k (k,0,a)).bind fun Ae=> some (Ae.1,Ae.2)
def VM:SC:= .seq (.seq (.ops [oM 6 5 3,oM 7 0 123,oN 8 7 123,oB 9 .lss 3 (tK 6) (tK 8) 3 4]) (.cond (tK 9) .skip (.exit 0))) (.seq (.block 1 (.seq (.ops [oM 12 0 123,oM 13 5 3,oM 14 1 3,oI 15 123 12 13,oF 16 125 15 0,oS 3 16 14]) (.seq (.ops [oM 17 1 3,oB 18 .add 3 (tK 17) (iK 1) 3 3,oA 1 18 3]) (.seq (.ops [oM 19 0 123,oM 20 5 3,oM 21 1 3,oI 22 123 19 20,oF 23 125 22 1,oS 3 23 21]) (.ops [oM 24 1 3,oB 25 .add 3 (tK 24) (iK 1) 3 3,oA 1 25 3]))))) (.ops [oM 10 5 3,oB 11 .add 3 (tK 10) (iK 1) 3 3,oA 5 11 3]))
def iE:SC:= .loop VM
def A3c:SC:= .seq (.ops [oX 4 (.assign (iK 0)) 3]) (.seq (.seq (.ops [oX 5 (.assign (iK 0)) 3]) (.block 0 iE)) (.seq (.ops [oM 26 1 3,oA 4 26 3]) .ret))
theorem uj:Try.f128.body.map (BV lends)=some A3c:=by kernel_rfl
theorem AAh:Bl Try.f128 2=true:=by kernel_rfl
theorem AGd{a l:List D}{r:D×List D}(h:Br Y.env A3c (Fa Ag l.length [ce 4] r) (entry a l))(ha:a.length=2):Y.call 128 a l=some r:=
 Af (Y:=Y) rfl Try.func128 (ha▸AAh) uj h
def Ef(k:Int)(k1:Int)(i:Int)(BJ:DK)(s:St):Prop:=(∃w_,s.v 0=D.vw [100000] (s.k 100000) w_)∧s.v 1=bh .i64 k1∧s.v 5=bh .i64 i∧s.v 100000=cb 125 (Az .i64 .i64 BJ)
def G8(k:Int)(r:Int×DK)(ex:Ex)(s:St):Prop:=ex= .exit 0∧s.v 1=bh .i64 r.1∧s.v 100000=cb 125 (Az .i64 .i64 r.2)
theorem R6(k:Int){v:Int×Int×DK}{s:St}{r:Int×DK}(h:JU k v=some r)(hM:Ef k v.1 v.2.1 v.2.2 s):Br Y.env iE (G8 k r) s:=by
 unfold JU at h;refine BX (c:=VM) (fun v=>Ee k v.1 v.2.1 v.2.2) (fun v s=>Ef k v.1 v.2.1 v.2.2 s) (G8 k) ?_ h hM;clear h hM s v r;intro v s o hM h;obtain⟨k1,i,BJ⟩:=v;dsimp only at h hM;unfold Ee at h;unfold Ef at hM;obtain⟨⟨w0_,m0⟩,m1,m2,m3⟩:=hM;unfold VM;by_cases e1:i<(BJ.length:Int)
 ·rw [if_pos e1]at h;obtain⟨e2,h⟩:=Bw h;obtain⟨e3,h⟩:=Bw h
  obtain rfl:=Option.some.inj h
  simp (maxDischargeDepth:=9) only [↓AU,AV,Ap,↓reduceIte,bk,bl,bm,bo,bp,br,bt,bw,bx,bO,b0,b3,b4,b5,b6,b7,b8,m0,m1,m2,m3,e1,e2.1,e2.2,e3.1,e3.2,Ef,G8,Ca,Cb,Cc]<;>(repeat' apply A7)<;>first|rfl|exact⟨_,rfl⟩|exact⟨_,_,rfl⟩|simp [AR,AB]
 ·rw [if_neg e1]at h
  obtain rfl:=Option.some.inj h
  simp (maxDischargeDepth:=9) only [↓AU,AV,Ap,↓reduceIte,bk,bl,bm,bo,bp,br,bt,bw,bx,bO,b0,b3,b4,b5,b6,b7,b8,m0,m1,m2,m3,e1,Ef,G8,Ca,Cb,Cc]<;>(repeat' apply A7)<;>first|rfl|exact⟨_,rfl⟩|exact⟨_,_,rfl⟩|simp [AR,AB]
theorem SS(a:DK)(k:Int){r:Int×DK}(h:Mo a k=some r):Y.call 128 [D.vw [100000] 0 0,bh .i64 k] [cb 125 (Az .i64 .i64 a)]=some (bh .i64 r.1,[cb 125 (Az .i64 .i64 r.2)]):=by
 refine AGd ?_ rfl;unfold A3c;unfold Mo at h;obtain⟨Ae,hl2,h⟩:=BD h;try dsimp only at h
 simp (maxDischargeDepth:=9) only [↓AU,AV,Ap,↓reduceIte,bk,bl,bm,bo,bp,br,bt,bw,bx,bO,b0,b3,b4,b5,b6,b7,b8];refine BL (R6 k hl2 ?_) ?_
 ·simp (maxDischargeDepth:=9) only [↓AU,AV,Ap,↓reduceIte,bk,bl,bm,bo,bp,br,bt,bw,bx,bO,b0,b3,b4,b5,b6,b7,b8,Ef]<;>(repeat' apply A7)<;>first|rfl|exact⟨_,rfl⟩|exact⟨_,_,rfl⟩|simp [AR,AB]
 ·intro ex2 s2 hX2;unfold G8 at hX2;obtain⟨rfl,n2_0,n2_1⟩:=hX2
  obtain rfl:=Option.some.inj h
  simp (maxDischargeDepth:=9) only [↓AU,AV,Ap,↓reduceIte,bk,bl,bm,bo,bp,br,bt,bw,bx,bO,b0,b3,b4,b5,b6,b7,b8,n2_0,n2_1]<;>(repeat' apply A7)<;>first|rfl|exact⟨_,rfl⟩|exact⟨_,_,rfl⟩|simp [AR,AB]
theorem WS(a:DK)(k:Int)(ha:a.length<549755813888)(hk:0≤k∧k+2*(a.length:Int)<1099511627776):Mo a k=some (k+2*(a.length:Int),aW k a.length):=by
 have key:=CJ (fun v=>Ee k v.1 v.2.1 v.2.2) (fun i=>(k+2*(i:Int),(i:Int),aW k i++a.drop i)) a.length (k+2*(a.length:Int),aW k a.length) ?_ ?_
 ·unfold Mo JU;have e0:aW k 0=[]:=rfl;simp only [LQ,Int.mul_zero,Int.add_zero,List.drop_zero,e0,PP]at key;rw [key];rfl
 ·intro i hi;simp only [Ee];have el:(aW k i++a.drop i).length=a.length:=by simp [YY];omega
  rw [el,if_pos (Bb hi),Bq (I8 hi),K3,Bq (by rw [PO,el];omega),qK _ _ _ (by rw [el];exact hi),List.set_set,KO i (by omega),LZ (k+2*(i:Int)+1) (by omega),LZ (k+2*(i:Int)+1+1) (by omega),A3b _ _ _ _ (YY k i) hi,←qJ]
  rw [show k+2*(i:Int)+1+1=k+2*((i+1:Nat):Int) by omega]
 ·simp only [Ee];have el:(aW k a.length++a.drop a.length).length=a.length:=by simp [YY]
  rw [el,if_neg (BB _)];simp
theorem WT(a:DK)(k:Int)(h0:a.length<549755813888)(h1:0≤k∧k+2*(a.length:Int)<1099511627776):Y.call 128 [D.vw [100000] 0 0,bh .i64 k] [cb 125 (Az .i64 .i64 a)]=some (bh .i64 (k+2*(a.length:Int)),[cb 125 (Az .i64 .i64 (aW k a.length))]):=SS a k (WS a k h0 h1)
def FQ(k:Int)(k1:Int)(i:Int)(BJ:Ay):Option ((Int×Int×Ay)⊕(Int×Ay)):= if i<(BJ.length:Int)then ck (0≤i∧i.toNat<BJ.length)<| ck ((BJ.getD i.toNat bj).length<549755813888)<| ck (0≤k1∧k1+2*((BJ.getD i.toNat bj).length:Int)<1099511627776)<| some (cd ((k1+2*((BJ.getD i.toNat bj).length:Int)),cf.wrap (i+1),(BJ.set i.toNat (aW k1 (BJ.getD i.toNat bj).length)))) else some (ca (k1,BJ))
def FR(k:Int)(v:Int×Int×Ay):Option (Int×Ay):=JB (fun v=>FQ k v.1 v.2.1 v.2.2) v
def LH(a:Ay)(k:Int):Option (Int×Ay):= (FR k (k,0,a)).bind fun Ae=> some (Ae.1,Ae.2)
def YZ:SC:= .seq (.seq (.ops [oM 6 5 3,oM 7 0 45,oN 8 7 45,oB 9 .lss 3 (tK 6) (tK 8) 3 4]) (.cond (tK 9) .skip (.exit 0))) (.seq (.block 1 (.ops [oM 12 0 45,oM 13 5 3,oI 14 45 12 13,oL 15 123 14 123,oM 16 1 3,oC 17 128 [(tK 15),(tK 16)] [123,3] 3,oA 1 17 3])) (.ops [oM 10 5 3,oB 11 .add 3 (tK 10) (iK 1) 3 3,oA 5 11 3]))
def qL:SC:= .loop YZ
def k79:SC:= .seq (.ops [oX 4 (.assign (iK 0)) 3]) (.seq (.seq (.ops [oX 5 (.assign (iK 0)) 3]) (.block 0 qL)) (.seq (.ops [oM 18 1 3,oA 4 18 3]) .ret))
theorem A3d:Try.f79.body.map (BV lends)=some k79:=by kernel_rfl
theorem AGf:Bl Try.f79 2=true:=by kernel_rfl
theorem c79{a l:List D}{r:D×List D}(h:Br Y.env k79 (Fa Ag l.length [ce 4] r) (entry a l))(ha:a.length=2):Y.call 79 a l=some r:=
 Af (Y:=Y) rfl Try.func79 (ha▸AGf) A3d h
def EI(k:Int)(k1:Int)(i:Int)(BJ:Ay)(s:St):Prop:=(∃w_,s.v 0=D.vw [100000] (s.k 100000) w_)∧s.v 1=bh .i64 k1∧s.v 5=bh .i64 i∧s.v 100000=cb 123 (AR (fun x=>cb 125 (Az .i64 .i64 x)) BJ)
def FT(k:Int)(r:Int×Ay)(ex:Ex)(s:St):Prop:=ex= .exit 0∧s.v 1=bh .i64 r.1∧s.v 100000=cb 123 (AR (fun x=>cb 125 (Az .i64 .i64 x)) r.2)
theorem QM(k:Int){v:Int×Int×Ay}{s:St}{r:Int×Ay}(h:FR k v=some r)(hM:EI k v.1 v.2.1 v.2.2 s):Br Y.env qL (FT k r) s:=by
 unfold FR at h;refine BX (c:=YZ) (fun v=>FQ k v.1 v.2.1 v.2.2) (fun v s=>EI k v.1 v.2.1 v.2.2 s) (FT k) ?_ h hM;clear h hM s v r;intro v s o hM h;obtain⟨k1,i,BJ⟩:=v;dsimp only at h hM;unfold FQ at h;unfold EI at hM;obtain⟨⟨w0_,m0⟩,m1,m2,m3⟩:=hM;unfold YZ;by_cases e1:i<(BJ.length:Int)
 ·rw [if_pos e1]at h;obtain⟨e2,h⟩:=Bw h;obtain⟨e3,h⟩:=Bw h;obtain⟨e4,h⟩:=Bw h;have c5:=WT (BJ.getD i.toNat bj) k1 e3 e4
  obtain rfl:=Option.some.inj h
  simp (maxDischargeDepth:=9) only [↓AU,AV,Ap,↓reduceIte,bk,bl,bm,bo,bp,br,bt,bw,bx,bO,b0,b3,b4,b5,b6,b7,b8,m0,m1,m2,m3,e1,e2.1,e2.2,e3,e4.1,e4.2,c5,EI,FT,Ca,Cb,Cc]<;>(repeat' apply A7)<;>first|rfl|exact⟨_,rfl⟩|exact⟨_,_,rfl⟩|simp [AR,AB]
 ·rw [if_neg e1]at h
  obtain rfl:=Option.some.inj h
  simp (maxDischargeDepth:=9) only [↓AU,AV,Ap,↓reduceIte,bk,bl,bm,bo,bp,br,bt,bw,bx,bO,b0,b3,b4,b5,b6,b7,b8,m0,m1,m2,m3,e1,EI,FT,Ca,Cb,Cc]<;>(repeat' apply A7)<;>first|rfl|exact⟨_,rfl⟩|exact⟨_,_,rfl⟩|simp [AR,AB]
theorem R7(a:Ay)(k:Int){r:Int×Ay}(h:LH a k=some r):Y.call 79 [D.vw [100000] 0 0,bh .i64 k] [cb 123 (AR (fun x=>cb 125 (Az .i64 .i64 x)) a)]=some (bh .i64 r.1,[cb 123 (AR (fun x=>cb 125 (Az .i64 .i64 x)) r.2)]):=by
 refine c79 ?_ rfl;unfold k79;unfold LH at h;obtain⟨Ae,hl2,h⟩:=BD h;try dsimp only at h
 simp (maxDischargeDepth:=9) only [↓AU,AV,Ap,↓reduceIte,bk,bl,bm,bo,bp,br,bt,bw,bx,bO,b0,b3,b4,b5,b6,b7,b8];refine BL (QM k hl2 ?_) ?_
 ·simp (maxDischargeDepth:=9) only [↓AU,AV,Ap,↓reduceIte,bk,bl,bm,bo,bp,br,bt,bw,bx,bO,b0,b3,b4,b5,b6,b7,b8,EI]<;>(repeat' apply A7)<;>first|rfl|exact⟨_,rfl⟩|exact⟨_,_,rfl⟩|simp [AR,AB]
 ·intro ex2 s2 hX2;unfold FT at hX2;obtain⟨rfl,n2_0,n2_1⟩:=hX2
  obtain rfl:=Option.some.inj h
  simp (maxDischargeDepth:=9) only [↓AU,AV,Ap,↓reduceIte,bk,bl,bm,bo,bp,br,bt,bw,bx,bO,b0,b3,b4,b5,b6,b7,b8,n2_0,n2_1]<;>(repeat' apply A7)<;>first|rfl|exact⟨_,rfl⟩|exact⟨_,_,rfl⟩|simp [AR,AB]
def O0:Int→Ay→Ay
 |_,[]=>[]
 |k,x::l=>aW k x.length::O0 (k+2*(x.length:Int)) l
theorem iF(x:DK)(l:Ay):FV (fE (x::l))=x.length+FV (fE l):=by
 rw [show fE (x::l)=x.map Prod.fst::fE l from rfl,Nr,XA]
theorem QN(kk:Int): ∀(b a:Ay) (k:Int),C9 b→a.length+b.length<1099511627776→0≤k→k+2*FV (fE b)<1099511627776→
  FR kk (k,(a.length:Int),a++b)=some (k+2*FV (fE b),a++O0 k b):=by
 intro b
 induction b with
 |nil=>
  intro a k hb hab hk hkt;unfold FR;rw [O9 (r:=(k,a++[]))]
  ·rw [show FV (fE [])=0 from rfl,Int.mul_zero,Int.add_zero];rfl
  ·simp only [FQ];rw [if_neg (gM _)]
 |cons x b ih=>
  intro a k hb hab hk hkt;rw [iF]at hkt;simp only [ND]at hab;have hx:x.length<549755813888:=hb.2 x (Kq ..);have ht:=Gx (fE b);have:=ih (a++[aW k x.length]) (k+2*(x.length:Int)) ⟨by omega,fun y hy=>hb.2 y (JJ _ hy)⟩ (by simp;omega) (by omega) (by omega)
  unfold FR at this ⊢;have eg:(a++x::b).getD (a.length:Int).toNat bj=x:=by rw [K3];exact Nj a (x::b) a.length rfl (by simp)
  rw [Sj (s':=(k+2*(x.length:Int),((a++[aW k x.length]).length:Int),(a++[aW k x.length])++b)),this]
  ·rw [iF,show k+2*(x.length:Int)+2*FV (fE b)=k+2*(x.length+FV (fE b)) by omega]
   simp [O0]
  ·simp only [FQ];rw [if_pos (dz ..),Bq (eB ..),Bq (by rw [eg];exact hx),Bq (by rw [eg];omega),eg,KO _ (by omega),K3,cA _ _ (Hm _),QU,Yk]
   simp
theorem VN(a:Ay)(k:Int)(ha:C9 a)(hk:0≤k∧k+2*FV (fE a)<1099511627776):LH a k=some (k+2*FV (fE a),O0 k a):=by
 unfold LH;have:=QN k a [] k ha (by have:=ha.1;simp;omega) hk.1 hk.2
 simp only [QS,PP,LQ]at this;rw [this];rfl
theorem VO(a:Ay)(k:Int)(h0:C9 a)(h1:0≤k∧k+2*FV (fE a)<1099511627776):Y.call 79 [D.vw [100000] 0 0,bh .i64 k] [cb 123 (AR (fun x=>cb 125 (Az .i64 .i64 x)) a)]=some (bh .i64 (k+2*FV (fE a)),[cb 123 (AR (fun x=>cb 125 (Az .i64 .i64 x)) (O0 k a))]):=R7 a k (VN a k h0 h1)
def JV(Ao:Ay)(BM:AP)(Ar:AP)(k:Int):Option (Int×Ay×AP×AP):= ck (C9 Ao)<| ck (0≤k∧k+2*FV (fE Ao)<1099511627776)<| ck (BM.length<1099511627776)<| ck (0≤(k+2*FV (fE Ao))∧(k+2*FV (fE Ao))<1099511627776)<| ck (Ar.length<1099511627776)<| ck (0≤((k+2*FV (fE Ao))+BM.length)∧((k+2*FV (fE Ao))+BM.length)<1099511627776)<| some ((((k+2*FV (fE Ao))+BM.length)+Ar.length),(O0 k Ao),(upto (k+2*FV (fE Ao)) BM.length),(upto ((k+2*FV (fE Ao))+BM.length) Ar.length))
def k30:SC:= .seq (.ops [oX 2 (.box 47 (tK 0)) 0,oX 4 (.assign (iK 0)) 3]) (.seq (.ops [oF 5 47 2 0,oL 6 45 5 45,oM 7 1 3,oC 8 79 [(tK 6),(tK 7)] [45,3] 3,oA 1 8 3]) (.seq (.ops [oF 9 47 2 1,oL 10 26 9 26,oM 11 1 3,oC 12 17 [(tK 10),(tK 11)] [26,3] 3,oA 1 12 3]) (.seq (.ops [oF 13 47 2 2,oL 14 26 13 26,oM 15 1 3,oC 16 17 [(tK 14),(tK 15)] [26,3] 3,oA 1 16 3]) (.seq (.ops [oM 17 1 3,oA 4 17 3]) .ret))))
theorem A3e:Try.f30.body.map (BV lends)=some k30:=by kernel_rfl
theorem AGh:Bl Try.f30 2=true:=by kernel_rfl
theorem c30{a l:List D}{r:D×List D}(h:Br Y.env k30 (Fa Ag l.length [ce 4] r) (entry a l))(ha:a.length=2):Y.call 30 a l=some r:=
 Af (Y:=Y) rfl Try.func30 (ha▸AGh) A3e h
theorem PI(Ao:Ay)(BM:AP)(Ar:AP)(k:Int){r:Int×Ay×AP×AP}(h:JV Ao BM Ar k=some r):Y.call 30 [cm [D.vw [100000] 0 0,D.vw [100001] 0 0,D.vw [100002] 0 0],bh .i64 k] [cb 123 (AR (fun x=>cb 125 (Az .i64 .i64 x)) Ao),cb 3 (AR (bh .i64) BM),cb 3 (AR (bh .i64) Ar)]=some (bh .i64 r.1,[cb 123 (AR (fun x=>cb 125 (Az .i64 .i64 x)) r.2.1),cb 3 (AR (bh .i64) r.2.2.1),cb 3 (AR (bh .i64) r.2.2.2)]):=by
 refine c30 ?_ rfl;unfold k30;unfold JV at h;obtain⟨e1,h⟩:=Bw h;obtain⟨e2,h⟩:=Bw h;have c3:=VO Ao k e1 e2;obtain⟨e4,h⟩:=Bw h;obtain⟨e5,h⟩:=Bw h;have c6:=La BM (k+2*FV (fE Ao)) e4 e5;obtain⟨e7,h⟩:=Bw h;obtain⟨e8,h⟩:=Bw h;have c9:=La Ar ((k+2*FV (fE Ao))+BM.length) e7 e8
 obtain rfl:=Option.some.inj h
 simp (maxDischargeDepth:=9) only [↓AU,AV,Ap,↓reduceIte,bk,bl,bm,bo,bp,br,bt,bw,bx,bO,b0,b3,b4,b5,b6,b7,b8,e1,e2.1,e2.2,c3,e4,e5.1,e5.2,c6,e7,e8.1,e8.2,c9]<;>(repeat' apply A7)<;>first|rfl|exact⟨_,rfl⟩|exact⟨_,_,rfl⟩|simp [AR,AB]
theorem R8(a:Ay)(b c:AP)(k:Int)(ha:C9 a)(hb:b.length<1099511627776)(hc:c.length<1099511627776)(hk:0≤k∧k+2*FV (fE a)+b.length+c.length<1099511627776):
  JV a b c k=some (k+2*FV (fE a)+b.length+c.length,O0 k a,upto (k+2*FV (fE a)) b.length,upto (k+2*FV (fE a)+b.length) c.length):=by
 have ht:=Gx (fE a);unfold JV;rw [Bq ha,Bq (by omega),Bq hb,Bq (by omega),Bq hc,Bq (by omega)]
theorem MH(Ao:Ay)(BM:AP)(Ar:AP)(k:Int)(h0:C9 Ao)(h1:BM.length<1099511627776)(h2:Ar.length<1099511627776)(h3:0≤k∧k+2*FV (fE Ao)+BM.length+Ar.length<1099511627776):Y.call 30 [cm [D.vw [100000] 0 0,D.vw [100001] 0 0,D.vw [100002] 0 0],bh .i64 k] [cb 123 (AR (fun x=>cb 125 (Az .i64 .i64 x)) Ao),cb 3 (AR (bh .i64) BM),cb 3 (AR (bh .i64) Ar)]=some (bh .i64 (k+2*FV (fE Ao)+BM.length+Ar.length),[cb 123 (AR (fun x=>cb 125 (Az .i64 .i64 x)) (O0 k Ao)),cb 3 (AR (bh .i64) (upto (k+2*FV (fE Ao)) BM.length)),cb 3 (AR (bh .i64) (upto (k+2*FV (fE Ao)+BM.length) Ar.length))]):=PI Ao BM Ar k (R8 Ao BM Ar k h0 h1 h2 h3)
def LJ(a_Task:Int)(a_Class:AP)(a_U:Int)(a_V:Int)(b_Task:Int)(b_Class:AP)(b_U:Int)(b_V:Int):Option (Bool):= if a_Task=b_Task then ck (a_Class.length<1099511627776)<| if(decide (a_Class=b_Class))=true then if a_U=b_U then if a_V=b_V then some true else some false else some false else some false else some false
def k33:SC:= .seq (.ops [oX 2 (.box 57 (tK 0)) 0,oX 3 (.box 57 (tK 1)) 0,oX 4 BS 4]) (.seq (.seq (.ops [oF 5 57 2 0,oL 6 3 5 3,oF 7 57 3 0,oL 8 3 7 3,oB 9 .neq 3 (tK 6) (tK 8) 3 4]) (.cond (tK 9) (.seq (.ops [oX 4 BS 4]) .ret) .skip)) (.seq (.seq (.ops [oF 10 57 2 1,oL 11 26 10 26,oF 12 57 3 1,oL 13 26 12 26,oC 14 14 [(tK 11),(tK 13)] [26,26] 4,oX 15 (.unOp .not 4 (tK 14)) 4]) (.cond (tK 15) (.seq (.ops [oX 4 BS 4]) .ret) .skip)) (.seq (.seq (.ops [oF 16 57 2 2,oL 17 3 16 3,oF 18 57 3 2,oL 19 3 18 3,oB 20 .neq 3 (tK 17) (tK 19) 3 4]) (.cond (tK 20) (.seq (.ops [oX 4 BS 4]) .ret) .skip)) (.seq (.seq (.ops [oF 21 57 2 3,oL 22 3 21 3,oF 23 57 3 3,oL 24 3 23 3,oB 25 .neq 3 (tK 22) (tK 24) 3 4]) (.cond (tK 25) (.seq (.ops [oX 4 BS 4]) .ret) .skip)) (.seq (.ops [oX 4 (.assign Dl) 4]) .ret)))))
theorem A3f:Try.f33.body.map (BV lends)=some k33:=by kernel_rfl
theorem AGj:Bl Try.f33 2=true:=by kernel_rfl
theorem c33{a l:List D}{r:D×List D}(h:Br Y.env k33 (Fa Ag l.length [ce 4] r) (entry a l))(ha:a.length=2):Y.call 33 a l=some r:=
 Af (Y:=Y) rfl Try.func33 (ha▸AGj) A3f h
theorem R9(a_Task:Int)(a_Class:AP)(a_U:Int)(a_V:Int)(b_Task:Int)(b_Class:AP)(b_U:Int)(b_V:Int){r:Bool}(h:LJ a_Task a_Class a_U a_V b_Task b_Class b_U b_V=some r):Y.call 33 [cm [bh .i64 a_Task,b9 3 (AR (bh .i64) a_Class),bh .i64 a_U,bh .i64 a_V],cm [bh .i64 b_Task,b9 3 (AR (bh .i64) b_Class),bh .i64 b_U,bh .i64 b_V]] []=some (cc r,[]):=by
 refine c33 ?_ rfl;unfold k33;unfold LJ at h;by_cases e1:a_Task=b_Task
 ·rw [if_pos e1]at h;obtain⟨e2,h⟩:=Bw h;have c3:=Nq a_Class b_Class e2;by_cases e4:(decide (a_Class=b_Class))=true
  ·rw [if_pos e4]at h;by_cases e5:a_U=b_U
   ·rw [if_pos e5]at h;by_cases e6:a_V=b_V
    ·rw [if_pos e6]at h
     obtain rfl:=Option.some.inj h
     simp (maxDischargeDepth:=9) only [↓AU,AV,Ap,↓reduceIte,bk,bl,bm,bo,bp,br,bt,bw,bx,bO,b0,b3,b4,b5,b6,b7,b8,decide_eq_true e1,e2,c3,e4,decide_eq_true e5,decide_eq_true e6]<;>(repeat' apply A7)<;>first|rfl|exact⟨_,rfl⟩|exact⟨_,_,rfl⟩|simp [AR,AB]
    ·rw [if_neg e6]at h
     obtain rfl:=Option.some.inj h
     simp (maxDischargeDepth:=9) only [↓AU,AV,Ap,↓reduceIte,bk,bl,bm,bo,bp,br,bt,bw,bx,bO,b0,b3,b4,b5,b6,b7,b8,decide_eq_true e1,e2,c3,e4,decide_eq_true e5,e6]<;>(repeat' apply A7)<;>first|rfl|exact⟨_,rfl⟩|exact⟨_,_,rfl⟩|simp [AR,AB]
   ·rw [if_neg e5]at h
    obtain rfl:=Option.some.inj h
    simp (maxDischargeDepth:=9) only [↓AU,AV,Ap,↓reduceIte,bk,bl,bm,bo,bp,br,bt,bw,bx,bO,b0,b3,b4,b5,b6,b7,b8,decide_eq_true e1,e2,c3,e4,e5]<;>(repeat' apply A7)<;>first|rfl|exact⟨_,rfl⟩|exact⟨_,_,rfl⟩|simp [AR,AB]
  ·rw [if_neg e4]at h;have e4f:(decide (a_Class=b_Class))=false:=K7.mpr e4
   obtain rfl:=Option.some.inj h
   simp (maxDischargeDepth:=9) only [↓AU,AV,Ap,↓reduceIte,bk,bl,bm,bo,bp,br,bt,bw,bx,bO,b0,b3,b4,b5,b6,b7,b8,decide_eq_true e1,e2,c3,e4f]<;>(repeat' apply A7)<;>first|rfl|exact⟨_,rfl⟩|exact⟨_,_,rfl⟩|simp [AR,AB]
 ·rw [if_neg e1]at h
  obtain rfl:=Option.some.inj h
  simp (maxDischargeDepth:=9) only [↓AU,AV,Ap,↓reduceIte,bk,bl,bm,bo,bp,br,bt,bw,bx,bO,b0,b3,b4,b5,b6,b7,b8,e1]<;>(repeat' apply A7)<;>first|rfl|exact⟨_,rfl⟩|exact⟨_,_,rfl⟩|simp [AR,AB]
def IW(a_Task:Int)(a_Class:AP)(a_U:Int)(a_V:Int)(k:Int):Option (Int×AP):= ck (a_Class.length<1099511627776)<| ck (0≤k∧k<1099511627776)<| some ((k+a_Class.length),(upto k a_Class.length))
def k34:SC:= .seq (.ops [oX 2 (.box 57 (tK 0)) 0,oX 4 (.assign (iK 0)) 3]) (.seq (.ops [oF 5 57 2 1,oL 6 26 5 26,oM 7 1 3,oC 8 17 [(tK 6),(tK 7)] [26,3] 3,oA 1 8 3]) (.seq (.ops [oM 9 1 3,oA 4 9 3]) .ret))
theorem A3g:Try.f34.body.map (BV lends)=some k34:=by kernel_rfl
theorem AGl:Bl Try.f34 2=true:=by kernel_rfl
theorem c34{a l:List D}{r:D×List D}(h:Br Y.env k34 (Fa Ag l.length [ce 4] r) (entry a l))(ha:a.length=2):Y.call 34 a l=some r:=
 Af (Y:=Y) rfl Try.func34 (ha▸AGl) A3g h
theorem Kn(a_Task:Int)(a_Class:AP)(a_U:Int)(a_V:Int)(k:Int){r:Int×AP}(h:IW a_Task a_Class a_U a_V k=some r):Y.call 34 [cm [bh .i64 a_Task,D.vw [100000] 0 0,bh .i64 a_U,bh .i64 a_V],bh .i64 k] [cb 3 (AR (bh .i64) a_Class)]=some (bh .i64 r.1,[cb 3 (AR (bh .i64) r.2)]):=by
 refine c34 ?_ rfl;unfold k34;unfold IW at h;obtain⟨e1,h⟩:=Bw h;obtain⟨e2,h⟩:=Bw h;have c3:=La a_Class k e1 e2
 obtain rfl:=Option.some.inj h
 simp (maxDischargeDepth:=9) only [↓AU,AV,Ap,↓reduceIte,bk,bl,bm,bo,bp,br,bt,bw,bx,bO,b0,b3,b4,b5,b6,b7,b8,e1,e2.1,e2.2,c3]<;>(repeat' apply A7)<;>first|rfl|exact⟨_,rfl⟩|exact⟨_,_,rfl⟩|simp [AR,AB]
def IX(a_Task:Int)(a_Class:AP)(a_U:Int)(a_V:Int)(k:Int):Option (Int):= ck (a_Class.length<1099511627776)<| ck (0≤k∧k+a_Class.length<1099511627776)<| if(Mc k a_Class)<0 then some (-1) else some (Mc k a_Class)
def k35:SC:= .seq (.ops [oX 2 (.box 57 (tK 0)) 0,oX 4 (.assign (iK 0)) 3]) (.seq (.ops [oF 5 57 2 1,oL 6 26 5 26,oM 7 1 3,oC 8 18 [(tK 6),(tK 7)] [26,3] 3,oA 1 8 3]) (.seq (.seq (.ops [oM 9 1 3,oB 10 .lss 3 (tK 9) (iK 0) 3 4]) (.cond (tK 10) (.seq (.ops [oX 4 P6 3]) .ret) .skip)) (.seq (.ops [oM 11 1 3,oA 4 11 3]) .ret)))
theorem A3h:Try.f35.body.map (BV lends)=some k35:=by kernel_rfl
theorem AGn:Bl Try.f35 2=true:=by kernel_rfl
theorem c35{a l:List D}{r:D×List D}(h:Br Y.env k35 (Fa Ag l.length [ce 4] r) (entry a l))(ha:a.length=2):Y.call 35 a l=some r:=
 Af (Y:=Y) rfl Try.func35 (ha▸AGn) A3h h
theorem Ko(a_Task:Int)(a_Class:AP)(a_U:Int)(a_V:Int)(k:Int){r:Int}(h:IX a_Task a_Class a_U a_V k=some r):Y.call 35 [cm [bh .i64 a_Task,b9 3 (AR (bh .i64) a_Class),bh .i64 a_U,bh .i64 a_V],bh .i64 k] []=some (bh .i64 r,[]):=by
 refine c35 ?_ rfl;unfold k35;unfold IX at h;obtain⟨e1,h⟩:=Bw h;obtain⟨e2,h⟩:=Bw h;have c3:=WA a_Class k e1 e2;by_cases e4:(Mc k a_Class)<0
 ·rw [if_pos e4]at h
  obtain rfl:=Option.some.inj h
  simp (maxDischargeDepth:=9) only [↓AU,AV,Ap,↓reduceIte,bk,bl,bm,bo,bp,br,bt,bw,bx,bO,b0,b3,b4,b5,b6,b7,b8,e1,e2.1,e2.2,c3,e4]<;>(repeat' apply A7)<;>first|rfl|exact⟨_,rfl⟩|exact⟨_,_,rfl⟩|simp [AR,AB]
 ·rw [if_neg e4]at h
  obtain rfl:=Option.some.inj h
  simp (maxDischargeDepth:=9) only [↓AU,AV,Ap,↓reduceIte,bk,bl,bm,bo,bp,br,bt,bw,bx,bO,b0,b3,b4,b5,b6,b7,b8,e1,e2.1,e2.2,c3,e4]<;>(repeat' apply A7)<;>first|rfl|exact⟨_,rfl⟩|exact⟨_,_,rfl⟩|simp [AR,AB]
def Fw(AA:Ay)(AQ:AP)(AC:AP)(Gn:Int):Option (Bool):= ck (Od AA)<| ck (AQ.length<9223372036854775808)<| ck (AC.length<9223372036854775808)<| ck (0≤(1048576:Int)∧(1048576:Int)≤1048576)<| if(qi (1048576:Int) AA AQ AC)<0 then some true else ck (C9 AA)<| ck (AQ.length<1099511627776)<| ck (AC.length<1099511627776)<| (Jr AA AQ AC Gn).bind fun Ie=> (Jq AA AQ AC Gn).bind fun EX=> (LJ EX.1 EX.2.1 EX.2.2.1 EX.2.2.2.1 Ie.1 Ie.2.1 Ie.2.2.1 Ie.2.2.2.1).bind fun uk=> if uk=true then if EX.2.2.2.2=true then if Ie.2.2.2.2=true then if(Nt AA AQ AC AA AQ AC)=true then ck (0≤(1:Int)∧(1:Int)+2*FV (fE AA)+AQ.length+AC.length<1099511627776)<| if((1:Int)+2*FV (fE AA)+AQ.length+AC.length)<0 then some false else (IW EX.1 EX.2.1 EX.2.2.1 EX.2.2.2.1 (1:Int)).bind fun VP=> (IX EX.1 VP.2 EX.2.2.1 EX.2.2.2.1 (1:Int)).bind fun VQ=> if VQ<0 then some false else if VQ=VP.1 then some true else some false else some false else some false else if Ie.2.2.2.2=true then some false else if(Nt AA AQ AC AA AQ AC)=true then ck (0≤(1:Int)∧(1:Int)+2*FV (fE AA)+AQ.length+AC.length<1099511627776)<| if((1:Int)+2*FV (fE AA)+AQ.length+AC.length)<0 then some false else (IW EX.1 EX.2.1 EX.2.2.1 EX.2.2.2.1 (1:Int)).bind fun VP=>
 (IX EX.1 VP.2 EX.2.2.1 EX.2.2.2.1 (1:Int)).bind fun VQ=> if VQ<0 then some false else if VQ=VP.1 then some true else some false else some false else some false
def k8:SC:= .seq (.ops [oX 2 (.box 41 (tK 0)) 0,oX 4 BS 4]) (.seq (.ops [oX 5 (.assign (iK 1048576)) 3]) (.seq (.ops [oL 16 41 2 41,oM 17 5 3,oC 18 21 [(tK 16),(tK 17)] [41,3] 3,oA 5 18 3]) (.seq (.seq (.ops [oM 19 5 3,oB 20 .lss 3 (tK 19) (iK 0) 3 4]) (.cond (tK 20) (.seq (.ops [oX 4 (.assign Dl) 4]) .ret) .skip)) (.seq (.ops [oL 22 41 2 41,oC 23 23 [(tK 22)] [41] 47,oM 24 1 3,oC 25 31 [(tK 23),(tK 24)] [47,3] 58,oM 21 25 58,oE 26 21 0 57,oE 27 21 1 4,oX 6 (.alloc 57) 0,oS 57 6 26,oA 7 27 4]) (.seq (.ops [oL 28 41 2 41,oC 29 23 [(tK 28)] [41] 47,oX 8 (.alloc 47) 0,oS 47 8 29]) (.seq (.ops [oL 31 47 8 47,oM 32 1 3,oC 33 32 [(tK 31),(tK 32)] [47,3] 58,oM 30 33 58,oE 34 30 0 57,oE 35 30 1 4,oX 9 (.alloc 57) 0,oS 57 9 34,oA 10 35 4]) (.seq (.seq (.ops [oL 36 57 9 57,oL 37 57 6 57,oC 38 33 [(tK 36),(tK 37)] [57,57] 4,oX 39 (.unOp .not 4 (tK 38)) 4,oM 40 39 4,⟨(some 41),(.move (tK 10)),4,(some (some 40,false))⟩,⟨(some 42),(.move (tK 7)),4,(some (some 40,false))⟩,⟨(some 43),(.binOp .neq 4 (tK 41) (tK 42) 4),4,(some (some 40,false))⟩,oX 44 (.pick (tK 40) Dl (tK 43)) 4]) (.cond (tK 44) (.seq (.ops [oX 4 BS 4]) .ret) .skip)) (.seq (.seq (.draws [(⟨[45,8,8],[45,46,47,48,49],[45]⟩,oL 45 47 8 47),
 (⟨[46,2,2],[45,46,47,48,49],[46]⟩,oL 46 41 2 41),(⟨[47,46,2],[45,46,47,48,49],[47]⟩,oC 47 23 [(tK 46)] [41] 47),(⟨[48,45,47,8,47],[45,46,47,48,49],[48]⟩,oC 48 25 [(tK 45),(tK 47)] [47,47] 4),(⟨[49,48,48],[45,46,47,48,49],[49]⟩,oX 49 (.unOp .not 4 (tK 48)) 4)]) (.cond (tK 49) (.seq (.ops [oX 4 BS 4]) .ret) .skip)) (.seq (.ops [oX 11 (.assign (iK 1)) 3]) (.seq (.ops [oL 50 47 8 47,oM 51 11 3,oC 52 30 [(tK 50),(tK 51)] [47,3] 3,oA 11 52 3]) (.seq (.seq (.ops [oM 53 11 3,oB 54 .lss 3 (tK 53) (iK 0) 3 4,oM 55 54 4,⟨(some 56),(.load 57 (tK 9)),57,(some (some 55,false))⟩,⟨(some 57),(.load 57 (tK 6)),57,(some (some 55,false))⟩,⟨(some 58),(.call ⟨(.value (.func 33)), #[(tK 56),(tK 57)], #[57,57]⟩),4,(some (some 55,false))⟩,⟨(some 59),(.unOp .not 4 (tK 58)),4,(some (some 55,false))⟩,oX 60 (.pick (tK 55) Dl (tK 59)) 4,oM 61 60 4,⟨(some 62),(.move (tK 10)),4,(some (some 61,false))⟩,⟨(some 63),(.move (tK 7)),4,(some (some 61,false))⟩,⟨(some 64),(.binOp .neq 4 (tK 62) (tK 63) 4),4,(some (some 61,false))⟩,oX 65 (.pick (tK 61) Dl (tK 64)) 4]) (.cond (tK 65) (.seq (.ops [oX 4 BS 4]) .ret) .skip)) (.seq (.ops [oX 12 (.assign (iK 1)) 3]) (.seq (.ops [oL 66 57 9 57,oM 67 12 3,
 oC 68 34 [(tK 66),(tK 67)] [57,3] 3,oA 12 68 3]) (.seq (.ops [oX 13 (.assign (iK 1)) 3]) (.seq (.ops [oL 69 57 9 57,oM 70 13 3,oC 71 35 [(tK 69),(tK 70)] [57,3] 3,oA 13 71 3]) (.seq (.seq (.ops [oM 72 13 3,oB 73 .lss 3 (tK 72) (iK 0) 3 4]) (.cond (tK 73) (.seq (.ops [oX 4 BS 4]) .ret) .skip)) (.seq (.seq (.ops [oM 74 13 3,oM 75 12 3,oB 76 .neq 3 (tK 74) (tK 75) 3 4]) (.cond (tK 76) (.seq (.ops [oX 4 BS 4]) .ret) .skip)) (.seq (.ops [oL 78 41 2 41,oC 79 23 [(tK 78)] [41] 47,oM 80 1 3,oC 81 32 [(tK 79),(tK 80)] [47,3] 58,oM 77 81 58,oE 82 77 0 57,oE 83 77 1 4,oX 14 (.alloc 57) 0,oS 57 14 82,oA 15 83 4]) (.seq (.seq (.ops [oL 84 57 14 57,oL 85 57 6 57,oC 86 33 [(tK 84),(tK 85)] [57,57] 4,oX 87 (.unOp .not 4 (tK 86)) 4,oM 88 87 4,⟨(some 89),(.move (tK 15)),4,(some (some 88,false))⟩,⟨(some 90),(.move (tK 7)),4,(some (some 88,false))⟩,⟨(some 91),(.binOp .neq 4 (tK 89) (tK 90) 4),4,(some (some 88,false))⟩,oX 92 (.pick (tK 88) Dl (tK 91)) 4]) (.cond (tK 92) (.seq (.ops [oX 4 BS 4]) .ret) .skip)) (.seq (.ops [oX 13 (.assign (iK 1)) 3]) (.seq (.ops [oL 93 57 9 57,oM 94 13 3,oC 95 35 [(tK 93),(tK 94)] [57,3] 3,oA 13 95 3]) (.seq (.seq (.ops [oM 96 13 3,oB 97 .lss 3 (tK 96) (iK 0) 3 4])
 (.cond (tK 97) (.seq (.ops [oX 4 BS 4]) .ret) .skip)) (.seq (.seq (.ops [oM 98 13 3,oM 99 12 3,oB 100 .neq 3 (tK 98) (tK 99) 3 4]) (.cond (tK 100) (.seq (.ops [oX 4 BS 4]) .ret) .skip)) (.seq (.ops [oX 4 (.assign Dl) 4]) .ret))))))))))))))))))))))))
theorem AAi:Try.f8.body.map (BV lends)=some k8:=by kernel_rfl
theorem ok8:Bl Try.f8 2=true:=by kernel_rfl
theorem c8{a l:List D}{r:D×List D}(h:Br Y.env k8 (Fa Ag l.length [ce 4] r) (entry a l))(ha:a.length=2):Y.call 8 a l=some r:=
 Af (Y:=Y) rfl Try.func8 (ha▸ok8) AAi h
theorem MI(AA:Ay)(AQ:AP)(AC:AP)(Gn:Int){r:Bool}(h:Fw AA AQ AC Gn=some r):Y.call 8 [cm [b9 121 (AR (fun x=>b9 159 (Az .i64 .i64 x)) AA),b9 3 (AR (bh .i64) AQ),b9 3 (AR (bh .i64) AC)],bh .i64 Gn] []=some (cc r,[]):=by
 refine c8 ?_ rfl;unfold k8;unfold Fw at h;obtain⟨e1,h⟩:=Bw h;obtain⟨e2,h⟩:=Bw h;obtain⟨e3,h⟩:=Bw h;obtain⟨e4,h⟩:=Bw h;have c5:=Ui AA AQ AC (1048576:Int) e1 e2 e3 e4;by_cases e6:(qi (1048576:Int) AA AQ AC)<0
 ·rw [if_pos e6]at h
  obtain rfl:=Option.some.inj h
  simp (maxDischargeDepth:=9) only [↓AU,AV,Ap,↓reduceIte,bk,bl,bm,bo,bp,br,bt,bw,bx,bO,b0,b3,b4,b5,b6,b7,b8,e1,e2,e3,e4.1,e4.2,c5,e6]<;>(repeat' apply A7)<;>first|rfl|exact⟨_,rfl⟩|exact⟨_,_,rfl⟩|simp [AR,AB]
 ·rw [if_neg e6]at h;obtain⟨e7,h⟩:=Bw h;obtain⟨e8,h⟩:=Bw h;obtain⟨e9,h⟩:=Bw h;have gN:=FF AA AQ AC e7 e8 e9;obtain⟨Ie,hl11,h⟩:=BD h;try dsimp only at h
  have c11:=R5 AA AQ AC Gn hl11;have ak:=FF AA AQ AC e7 e8 e9;obtain⟨EX,hl13,h⟩:=BD h;try dsimp only at h
  have c13:=R4 AA AQ AC Gn hl13;obtain⟨uk,hl14,h⟩:=BD h;try dsimp only at h
  have dw:=R9 EX.1 EX.2.1 EX.2.2.1 EX.2.2.2.1 Ie.1 Ie.2.1 Ie.2.2.1 Ie.2.2.2.1 hl14;by_cases e15:uk=true
  ·rw [if_pos e15]at h;by_cases e16:EX.2.2.2.2=true
   ·rw [if_pos e16]at h;by_cases e17:Ie.2.2.2.2=true
    ·rw [if_pos e17]at h;have aH:=FF AA AQ AC e7 e8 e9;have c19:=Nu AA AQ AC AA AQ AC e7 e8 e9;by_cases e20:(Nt AA AQ AC AA AQ AC)=true
     ·rw [if_pos e20]at h;obtain⟨e21,h⟩:=Bw h;have qj:=MH AA AQ AC (1:Int) e7 e8 e9 e21;by_cases e23:((1:Int)+2*FV (fE AA)+AQ.length+AC.length)<0
      ·rw [if_pos e23]at h
       obtain rfl:=Option.some.inj h
       simp (maxDischargeDepth:=9) only [↓AU,AV,Ap,↓reduceIte,bk,bl,bm,bo,bp,br,bt,bw,bx,bO,b0,b3,b4,b5,b6,b7,b8,e1,e2,e3,e4.1,e4.2,c5,e6,e7,e8,e9,gN,c11,ak,c13,dw,e15,e16,e17,aH,c19,e20,e21.1,e21.2,qj,e23]<;>(repeat' apply A7)<;>first|rfl|exact⟨_,rfl⟩|exact⟨_,_,rfl⟩|simp [AR,AB]
      ·rw [if_neg e23]at h;obtain⟨VP,hl24,h⟩:=BD h;try dsimp only at h
       have c24:=Kn EX.1 EX.2.1 EX.2.2.1 EX.2.2.2.1 (1:Int) hl24;obtain⟨VQ,hl25,h⟩:=BD h;try dsimp only at h
       have u6:=Ko EX.1 VP.2 EX.2.2.1 EX.2.2.2.1 (1:Int) hl25;by_cases e26:VQ<0
       ·rw [if_pos e26]at h
        obtain rfl:=Option.some.inj h
        simp (maxDischargeDepth:=9) only [↓AU,AV,Ap,↓reduceIte,bk,bl,bm,bo,bp,br,bt,bw,bx,bO,b0,b3,b4,b5,b6,b7,b8,e1,e2,e3,e4.1,e4.2,c5,e6,e7,e8,e9,gN,c11,ak,c13,dw,e15,e16,e17,aH,c19,e20,e21.1,e21.2,qj,e23,c24,u6,e26]<;>(repeat' apply A7)<;>first|rfl|exact⟨_,rfl⟩|exact⟨_,_,rfl⟩|simp [AR,AB]
       ·rw [if_neg e26]at h;by_cases e27:VQ=VP.1
        ·rw [if_pos e27]at h;have c28:=FF AA AQ AC e7 e8 e9
         obtain rfl:=Option.some.inj h
         simp (maxDischargeDepth:=9) only [↓AU,AV,Ap,↓reduceIte,bk,bl,bm,bo,bp,br,bt,bw,bx,bO,b0,b3,b4,b5,b6,b7,b8,e1,e2,e3,e4.1,e4.2,c5,e6,e7,e8,e9,gN,c11,ak,c13,dw,e15,e16,e17,aH,c19,e20,e21.1,e21.2,qj,e23,c24,u6,e26,decide_eq_true e27,c28]<;>(repeat' apply A7)<;>first|rfl|exact⟨_,rfl⟩|exact⟨_,_,rfl⟩|simp [AR,AB]
        ·rw [if_neg e27]at h
         obtain rfl:=Option.some.inj h
         simp (maxDischargeDepth:=9) only [↓AU,AV,Ap,↓reduceIte,bk,bl,bm,bo,bp,br,bt,bw,bx,bO,b0,b3,b4,b5,b6,b7,b8,e1,e2,e3,e4.1,e4.2,c5,e6,e7,e8,e9,gN,c11,ak,c13,dw,e15,e16,e17,aH,c19,e20,e21.1,e21.2,qj,e23,c24,u6,e26,e27]<;>(repeat' apply A7)<;>first|rfl|exact⟨_,rfl⟩|exact⟨_,_,rfl⟩|simp [AR,AB]
     ·rw [if_neg e20]at h;have e20f:(Nt AA AQ AC AA AQ AC)=false:=K7.mpr e20
      obtain rfl:=Option.some.inj h
      simp (maxDischargeDepth:=9) only [↓AU,AV,Ap,↓reduceIte,bk,bl,bm,bo,bp,br,bt,bw,bx,bO,b0,b3,b4,b5,b6,b7,b8,e1,e2,e3,e4.1,e4.2,c5,e6,e7,e8,e9,gN,c11,ak,c13,dw,e15,e16,e17,aH,c19,e20f]<;>(repeat' apply A7)<;>first|rfl|exact⟨_,rfl⟩|exact⟨_,_,rfl⟩|simp [AR,AB]
    ·rw [if_neg e17]at h;have e17f:Ie.2.2.2.2=false:=K7.mpr e17
     obtain rfl:=Option.some.inj h
     simp (maxDischargeDepth:=9) only [↓AU,AV,Ap,↓reduceIte,bk,bl,bm,bo,bp,br,bt,bw,bx,bO,b0,b3,b4,b5,b6,b7,b8,e1,e2,e3,e4.1,e4.2,c5,e6,e7,e8,e9,gN,c11,ak,c13,dw,e15,e16,e17f]<;>(repeat' apply A7)<;>first|rfl|exact⟨_,rfl⟩|exact⟨_,_,rfl⟩|simp [AR,AB]
   ·rw [if_neg e16]at h;have e16f:EX.2.2.2.2=false:=K7.mpr e16;by_cases e17:Ie.2.2.2.2=true
    ·rw [if_pos e17]at h
     obtain rfl:=Option.some.inj h
     simp (maxDischargeDepth:=9) only [↓AU,AV,Ap,↓reduceIte,bk,bl,bm,bo,bp,br,bt,bw,bx,bO,b0,b3,b4,b5,b6,b7,b8,e1,e2,e3,e4.1,e4.2,c5,e6,e7,e8,e9,gN,c11,ak,c13,dw,e15,e16f,e17]<;>(repeat' apply A7)<;>first|rfl|exact⟨_,rfl⟩|exact⟨_,_,rfl⟩|simp [AR,AB]
    ·rw [if_neg e17]at h;have e17f:Ie.2.2.2.2=false:=K7.mpr e17;have aH:=FF AA AQ AC e7 e8 e9;have c19:=Nu AA AQ AC AA AQ AC e7 e8 e9;by_cases e20:(Nt AA AQ AC AA AQ AC)=true
     ·rw [if_pos e20]at h;obtain⟨e21,h⟩:=Bw h;have qj:=MH AA AQ AC (1:Int) e7 e8 e9 e21;by_cases e23:((1:Int)+2*FV (fE AA)+AQ.length+AC.length)<0
      ·rw [if_pos e23]at h
       obtain rfl:=Option.some.inj h
       simp (maxDischargeDepth:=9) only [↓AU,AV,Ap,↓reduceIte,bk,bl,bm,bo,bp,br,bt,bw,bx,bO,b0,b3,b4,b5,b6,b7,b8,e1,e2,e3,e4.1,e4.2,c5,e6,e7,e8,e9,gN,c11,ak,c13,dw,e15,e16f,e17f,aH,c19,e20,e21.1,e21.2,qj,e23]<;>(repeat' apply A7)<;>first|rfl|exact⟨_,rfl⟩|exact⟨_,_,rfl⟩|simp [AR,AB]
      ·rw [if_neg e23]at h;obtain⟨VP,hl24,h⟩:=BD h;try dsimp only at h
       have c24:=Kn EX.1 EX.2.1 EX.2.2.1 EX.2.2.2.1 (1:Int) hl24;obtain⟨VQ,hl25,h⟩:=BD h;try dsimp only at h
       have u6:=Ko EX.1 VP.2 EX.2.2.1 EX.2.2.2.1 (1:Int) hl25;by_cases e26:VQ<0
       ·rw [if_pos e26]at h
        obtain rfl:=Option.some.inj h
        simp (maxDischargeDepth:=9) only [↓AU,AV,Ap,↓reduceIte,bk,bl,bm,bo,bp,br,bt,bw,bx,bO,b0,b3,b4,b5,b6,b7,b8,e1,e2,e3,e4.1,e4.2,c5,e6,e7,e8,e9,gN,c11,ak,c13,dw,e15,e16f,e17f,aH,c19,e20,e21.1,e21.2,qj,e23,c24,u6,e26]<;>(repeat' apply A7)<;>first|rfl|exact⟨_,rfl⟩|exact⟨_,_,rfl⟩|simp [AR,AB]
       ·rw [if_neg e26]at h;by_cases e27:VQ=VP.1
        ·rw [if_pos e27]at h;have c28:=FF AA AQ AC e7 e8 e9
         obtain rfl:=Option.some.inj h
         simp (maxDischargeDepth:=9) only [↓AU,AV,Ap,↓reduceIte,bk,bl,bm,bo,bp,br,bt,bw,bx,bO,b0,b3,b4,b5,b6,b7,b8,e1,e2,e3,e4.1,e4.2,c5,e6,e7,e8,e9,gN,c11,ak,c13,dw,e15,e16f,e17f,aH,c19,e20,e21.1,e21.2,qj,e23,c24,u6,e26,decide_eq_true e27,c28]<;>(repeat' apply A7)<;>first|rfl|exact⟨_,rfl⟩|exact⟨_,_,rfl⟩|simp [AR,AB]
        ·rw [if_neg e27]at h
         obtain rfl:=Option.some.inj h
         simp (maxDischargeDepth:=9) only [↓AU,AV,Ap,↓reduceIte,bk,bl,bm,bo,bp,br,bt,bw,bx,bO,b0,b3,b4,b5,b6,b7,b8,e1,e2,e3,e4.1,e4.2,c5,e6,e7,e8,e9,gN,c11,ak,c13,dw,e15,e16f,e17f,aH,c19,e20,e21.1,e21.2,qj,e23,c24,u6,e26,e27]<;>(repeat' apply A7)<;>first|rfl|exact⟨_,rfl⟩|exact⟨_,_,rfl⟩|simp [AR,AB]
     ·rw [if_neg e20]at h;have e20f:(Nt AA AQ AC AA AQ AC)=false:=K7.mpr e20
      obtain rfl:=Option.some.inj h
      simp (maxDischargeDepth:=9) only [↓AU,AV,Ap,↓reduceIte,bk,bl,bm,bo,bp,br,bt,bw,bx,bO,b0,b3,b4,b5,b6,b7,b8,e1,e2,e3,e4.1,e4.2,c5,e6,e7,e8,e9,gN,c11,ak,c13,dw,e15,e16f,e17f,aH,c19,e20f]<;>(repeat' apply A7)<;>first|rfl|exact⟨_,rfl⟩|exact⟨_,_,rfl⟩|simp [AR,AB]
  ·rw [if_neg e15]at h;have e15f:uk=false:=K7.mpr e15
   obtain rfl:=Option.some.inj h
   simp (maxDischargeDepth:=9) only [↓AU,AV,Ap,↓reduceIte,bk,bl,bm,bo,bp,br,bt,bw,bx,bO,b0,b3,b4,b5,b6,b7,b8,e1,e2,e3,e4.1,e4.2,c5,e6,e7,e8,e9,gN,c11,ak,c13,dw,e15f]<;>(repeat' apply A7)<;>first|rfl|exact⟨_,rfl⟩|exact⟨_,_,rfl⟩|simp [AR,AB]
def Aj(n:Nat)(P:Nat→Bool):Option Nat:=(an n).find? P
theorem I6{n:Nat}{P:Nat→Bool}(h: ∀i,i<n→P i=false):Aj n P=none:=by
 unfold Aj;rw [cC];intro i hi;rw [h i (Oj.1 hi)];decide
theorem Ig{n m:Nat}{P:Nat→Bool}(hm:m<n)(h:P m=true)(h0: ∀i,i<m→P i=false):Aj n P=some m:=by
 unfold Aj;rw [List.find?_range_eq_some]
 exact⟨h,Oj.2 hm,fun j hj=>by rw [h0 j hj];rfl⟩
theorem Cu{n m:Nat}{P:Nat→Bool}(h:Aj n P=some m):m<n∧P m=true:=by
 unfold Aj at h
 exact⟨Oj.1 (List.mem_of_find?_eq_some h),List.find?_some h⟩
theorem Hf{σ ρ:Type}(f:σ→Option (σ⊕ρ))(st:Nat→σ)(n:Nat)(P:Nat→Bool)(hit:Nat→ρ)(miss:ρ)
  (h: ∀i,i<n→f (st i)=if P i=true then some (.inr (hit i))else some (.inl (st (i+1))))(e:f (st n)=some (.inr miss)):
  JB f (st 0)=some (match Aj n P with|some i=>hit i|none=>miss):=by
 by_cases hp: ∀i,i<n→(!P i)=true
 ·have h0: ∀i,i<n→P i=false:=fun i hi=>by simpa using hp i hi
  rw [I6 h0];exact CJ f st n miss (fun i hi=>by rw [h i hi,h0 i hi,if_neg (by decide)]) e
 ·obtain⟨m,hm,hpm,h0⟩:=Oy hp;have hpm':P m=true:=by simpa using hpm
  have h0': ∀i,i<m→P i=false:=fun i hi=>by simpa using h0 i hi
  rw [Ig hm hpm' h0'];exact CJ f st m (hit m) (fun i hi=>by rw [h i (by omega),h0' i hi,if_neg (by decide)]) (by rw [h m hm,if_pos hpm'])
theorem Hg{n:Nat}{P:Nat→Bool}:(Aj n P).isSome=true↔ ∃i,i<n∧P i=true:=by
 constructor
 ·intro h
  cases hq:Aj n P with
  |none=>rw [hq]at h;cases h
  |some m=>exact⟨m,Cu hq⟩
 ·rintro⟨i,hi,hp⟩
  cases hq:Aj n P with
  |some m=>rfl
  |none=>
   unfold Aj at hq;rw [cC]at hq;exact absurd hp (hq i (Oj.2 hi))
theorem LK{n m:Nat}{P:Nat→Bool}(h:Aj n P=some m): ∀i,i<m→P i=false:=by
 unfold Aj at h;rw [List.find?_range_eq_some]at h;intro i hi;simpa using h.2.2 i hi

theorem kX(l:DK)(k v k':Int):M3 (UE l k v) k'=if k'=k then(v,true)else M3 l k':=by
 have key: ∀l:DK,(match (match l.findIdx? (fun p:Int×Int=>p.1==k)with|some i=>l.set i (k,v)|none=>l++[(k,v)]).find? (fun p:Int×Int=>p.1==k')with|some p=>(p.2,true)|none=>((0:Int),false))=if k'=k then(v,true)else(match l.find? (fun p:Int×Int=>p.1==k')with|some p=>(p.2,true)|none=>((0:Int),false)):=by
  intro l
  induction l with
  |nil=>
   by_cases e:k'=k
   ·subst e;simp
   ·rw [if_neg e];have:(k==k')=false:=by simpa using fun c:k=k'=>e c.symm
    simp [this]
  |cons p l ih=>
   rw [List.findIdx?_cons];by_cases h1:p.1=k
   ·rw [if_pos (by simpa using h1)]
    simp only [Yk];by_cases e:k'=k
    ·subst e;simp
    ·rw [if_neg e];have h2:(k==k')=false:=by simpa using fun c:k=k'=>e c.symm
     have h3:(p.1==k')=false:=by rw [h1];exact h2
     rw [Ro,h2,Ro,h3]
   ·rw [if_neg (by simpa using h1)]
    cases hf:l.findIdx? (fun p:Int×Int=>p.1==k)with
    |none=>
     rw [hf]at ih;simp only [Option.map_none];rw [PN,Ro];by_cases e:p.1=k'
     ·have: ¬k'=k:=fun c=>h1 (e.trans c)
      rw [if_neg this,Ro];have h3:(p.1==k')=true:=by simpa using e
      rw [h3]
     ·have h3:(p.1==k')=false:=by simpa using e
      rw [h3];simp only [Ro,h3];exact ih
    |some i=>
     rw [hf]at ih;simp only [LU,X9];rw [Ro];by_cases e:p.1=k'
     ·have: ¬k'=k:=fun c=>h1 (e.trans c)
      rw [if_neg this,Ro];have h3:(p.1==k')=true:=by simpa using e
      rw [h3]
     ·have h3:(p.1==k')=false:=by simpa using e
      rw [h3];simp only [Ro,h3];exact ih
 exact key l
structure EqvB(con:Nat→Nat→Bool)(n:Nat):Prop where
 rfl': ∀x,x<n→con x x=true
 sym: ∀x y,x<n→y<n→con x y=true→con y x=true
 trn: ∀x y z,x<n→y<n→z<n→con x y=true→con y z=true→con x z=true

theorem iG(E:Ay)(ids ins:AP)(v:Nat)(hv:v<E.length)(hd:(E.getD v bj).length≤6):Nw E ids ins (v:Int)=some ((E.getD v bj).map (·.1)):=by
 unfold Nw LF;rw [Bq (by omega)]
 have key:=CJ (fun x=>GR E (v:Int) x.1 x.2) (fun i=>(((E.getD v bj).take i).map (·.1),(i:Int))) (E.getD v bj).length ((E.getD v bj).map (·.1)) ?_ ?_
 ·have e:((0:Nat):Int)=0:=rfl;simp only [e,List.take_zero,List.map_nil]at key;rw [key];rfl
 ·intro i hi;simp only [GR,K3];rw [if_pos (Bb hi),Bq (by omega),Bq (by rw [XA,OM];omega),KO i (by omega),cx,Gl hi,List.map_append]
  unfold BQ;rw [BN (E.getD v bj) _ hi];rfl
 ·simp only [GR,K3];rw [if_neg (BB _),co]
def PK(E:Ay)(l:AP)(u i:Nat):Bool:=((E.getD u bj).map (·.1)).contains (((u+i:Nat):Int))&&decide (l.getD u bj=l.getD (u+i) bj)
theorem ul(E:Ay)(ids ins l:AP)(hE:E.length≤40)(hd: ∀v,v<E.length→(E.getD v bj).length≤6)(hl:l.length=E.length):
  ∃a b,Ji E ids ins l=some (a,b,(Aj E.length fun u=>(Aj (E.length-u) (PK E l u)).isSome).isSome):=by
 have inner: ∀u:Nat,u<E.length→H7 E ids ins l (u:Int) ((E.getD u bj).map (·.1)) (u:Int)=some (match Aj (E.length-u) (PK E l u)with|some i=> .inl (((u+i:Nat):Int))|none=> .inr ()):=by
  intro u hu;have hdu:=hd u hu;have key:=Hf (fun v=>DU E ids ins l (u:Int) ((E.getD u bj).map (·.1)) v) (fun i=>((u+i:Nat):Int)) (E.length-u) (PK E l u) (fun i=> .inl (((u+i:Nat):Int))) (.inr ()) ?_ ?_
  ·unfold H7;rw [cq]at key;exact key
  ·intro i hi;simp only [DU,K3];rw [if_pos (Bb (by omega)),Bq (by rw [XA];omega),KO (u+i) (by omega)]
   unfold PK
   cases hc:((E.getD u bj).map (·.1)).contains (((u+i:Nat):Int))with
   |false=>rfl
   |true=>
    rw [if_pos rfl,Bq (by omega),Bq (by omega),Ju]
    by_cases e:l.getD u bj=l.getD (u+i) bj
    ·rw [if_pos e,decide_eq_true e];rfl
    ·rw [if_neg e,decide_eq_false e];rfl
  ·simp only [DU];rw [if_neg (by omega)]
 have key:=Hf (fun v=>DV E ids ins l v) (fun i=>(i:Int)) E.length (fun u=>(Aj (E.length-u) (PK E l u)).isSome) (fun u=> .inl ((u:Int),match Aj (E.length-u) (PK E l u)with|some i=>((u+i:Nat):Int)|none=>0)) (.inr ()) ?_ ?_
 ·unfold Ji Jh;rw [LQ]at key;rw [key]
  cases Aj E.length fun u=>(Aj (E.length-u) (PK E l u)).isSome with
  |none=>exact⟨0,0,rfl⟩
  |some u=>exact⟨_,_,rfl⟩
 ·intro u hu;simp only [DV];rw [if_pos (Bb hu),iG E ids ins u hu (hd u hu),Cn,inner u hu,Cn,KO u (by omega)]
  cases Aj (E.length-u) (PK E l u)<;>rfl
 ·simp only [DV];rw [if_neg (BB _)]
theorem MJ{E:Ay}{ids ins:AP}(h:IL E ids ins=true):E.length≤40∧1≤E.length∧(∀v,v<E.length→(E.getD v bj).length≤6)∧
  ∀v i,v<E.length→i<(E.getD v bj).length→ ∃w p:Nat,BQ (E.getD v bj) i=(w:Int)∧CU (E.getD v bj) i=(p:Int)∧w<E.length∧p<(E.getD w bj).length∧BQ (E.getD w bj) p=(v:Int)∧CU (E.getD w bj) p=(i:Int):=by
 unfold IL at h;simp only [FU]at h;obtain⟨h1,_,_,_,h5⟩:=h;have h1:=J6.1 h1;have hn: ∀v,v<E.length→QF E v=true:=GG.1 h5
 refine⟨by omega,by omega,fun v hv=> ?_,fun v i hv hi=> ?_⟩
 ·have:=hn v hv
  rw [OD,FU,decide_eq_true_eq]at this;exact this.1
 ·have:=hn v hv
  rw [OD,FU]at this;have:=GG.1 this.2 i hi
  rw [Qw]at this;simp only [FU,beq_iff_eq]at this;obtain⟨k1,k2,k3,k4⟩:=this;have k1:=J6.1 k1;have k2:=J6.1 k2
  refine⟨(BQ (E.getD v bj) i).toNat,(CU (E.getD v bj) i).toNat,by omega,by omega,by omega,by omega,k3,k4⟩
theorem um(l:AP)(hl:l.length≤1000): ∃a b,Jk l=some (a,b,decide (¬l.Nodup)):=by
 have inner: ∀u:Nat,u<l.length→H8 l (u:Int) (((u+1:Nat):Int))=some (match Aj (l.length-(u+1)) (fun i=>decide (l.getD u bj=l.getD (u+1+i) bj))with|some i=> .inl (((u+1+i:Nat):Int))|none=> .inr ()):=by
  intro u hu;have key:=Hf (fun v=>DW l (u:Int) v) (fun i=>((u+1+i:Nat):Int)) (l.length-(u+1)) (fun i=>decide (l.getD u bj=l.getD (u+1+i) bj)) (fun i=> .inl (((u+1+i:Nat):Int))) (.inr ()) ?_ ?_
  ·unfold H8;rw [cq]at key;exact key
  ·intro i hi;simp only [DW,K3];rw [if_pos (Bb (by omega)),Bq (by omega),Bq (by omega),KO (u+1+i) (by omega)]
   by_cases e:l.getD u bj=l.getD (u+1+i) bj
   ·rw [if_pos e,decide_eq_true e];rfl
   ·rw [if_neg e,decide_eq_false e];rfl
  ·simp only [DW];rw [if_neg (by omega)]
 have key:=Hf (fun v=>DX l v) (fun i=>(i:Int)) l.length (fun u=>(Aj (l.length-(u+1)) (fun i=>decide (l.getD u bj=l.getD (u+1+i) bj))).isSome) (fun u=> .inl ((u:Int),match Aj (l.length-(u+1)) (fun i=>decide (l.getD u bj=l.getD (u+1+i) bj))with|some i=>((u+1+i:Nat):Int)|none=>0)) (.inr ()) ?_ ?_
 ·have hq:(Aj l.length fun u=>(Aj (l.length-(u+1)) (fun i=>decide (l.getD u bj=l.getD (u+1+i) bj))).isSome).isSome=decide (¬l.Nodup):=by
   rw [QT,Hg,decide_eq_true_eq,List.nodup_iff_pairwise_ne,lD]
   constructor
   ·rintro⟨u,hu,hs⟩ hn
    obtain⟨i,hi,hs⟩:=Hg.1 hs;rw [decide_eq_true_eq,BN _ _ hu,BN _ _ (by omega)]at hs
    exact hn u (u+1+i) hu (by omega) (by omega) hs
   ·intro hn;refine Classical.byContradiction fun hc=>hn fun i j hi hj hij he=>hc ⟨i,hi,Hg.2 ⟨j-(i+1),by omega, ?_⟩⟩
    rw [decide_eq_true_eq,show i+1+(j-(i+1))=j by omega,BN _ _ hi,BN _ _ hj]
    exact he
  rw [←hq];unfold Jk Jj;rw [LQ]at key;rw [key]
  cases Aj l.length fun u=>(Aj (l.length-(u+1)) (fun i=>decide (l.getD u bj=l.getD (u+1+i) bj))).isSome with
  |none=>exact⟨0,0,rfl⟩
  |some u=>exact⟨_,_,rfl⟩
 ·intro u hu;simp only [DX];rw [if_pos (Bb hu),KO u (by omega),inner u hu,Cn]
  cases Aj (l.length-(u+1)) (fun i=>decide (l.getD u bj=l.getD (u+1+i) bj))<;>rfl
 ·simp only [DX];rw [if_neg (BB _)]
def oT(l:AP):Nat→Int
 |0=> -1
 |i+1=>if l.count (l.getD i bj)=1 then(if oT l i<0 then l.getD i bj else if l.getD i bj<oT l i then l.getD i bj else oT l i)else oT l i
theorem qM(l:AP)(h: ∀x∈l,0≤x): ∀i,i≤l.length→((oT l i<0↔ ∀j,j<i→l.count (l.getD j bj)≠1)∧ -1≤oT l i)
 |0,_=>⟨by simp [oT],by simp [oT]⟩
 |i+1,hi=>by
  obtain⟨ih,ih2⟩:=qM l h i (by omega)
  have hx:=h _ (LP (show i<l.length by omega))
  have hg:l.getD i bj=l[i]:=BN l i (by omega)
  unfold oT;rw [hg];by_cases c:l.count l[i]=1
  ·rw [if_pos c];have hge:0≤(if oT l i<0 then l[i]else if l[i]<oT l i then l[i]else oT l i):=by split;exact hx;split<;>omega
   refine⟨⟨fun hn=>by omega,fun hall=> ?_⟩,by omega⟩
   exact absurd c (by have:=hall i (by omega);rwa [hg]at this)
  ·rw [if_neg c]
   refine⟨⟨fun hn j hj=> ?_,fun hall=>ih.2 fun j hj=>hall j (by omega)⟩,ih2⟩
   by_cases e:j=i
   ·subst e;rw [hg];exact c
   ·exact ih.1 hn j (by omega)
theorem Ya(l:AP)(i:Nat)(hi:i<l.length)(x:Int):l.count x=(l.take i).count x+((if l[i]=x then 1 else 0)+(l.drop (i+1)).count x):=by
 have e:l=l.take i++(l[i]::l.drop (i+1)):=by rw [List.getElem_cons_drop,List.take_append_drop]
 have e2:=congrArg (List.count x) e;rw [List.count_append,List.count_cons]at e2;rw [e2];have:(if(l[i]==x)=true then 1 else 0)=(if l[i]=x then 1 else 0):=by simp only [beq_iff_eq]
 omega
theorem qN(l:AP)(h2:l.length≤1000):Km l=some (oT l l.length):=by
 have key:=CJ (fun w=>DY l w.1 w.2) (fun i=>(oT l i,(i:Int))) l.length (oT l l.length) (fun i hi=> ?_) ?_
 ·unfold Km;rw [show HZ l (-1,0)=_ from by unfold HZ;exact key,Cn]
 ·have hg:l.getD i bj=l[i]:=BN l i hi;have hd:((l.take i).drop 0)=l.take i:=List.drop_zero;have htk:l.take l.length=l:=co;have ho:oT l (i+1)=if l.count l[i]=1 then(if oT l i<0 then l[i]else if l[i]<oT l i then l[i]else oT l i)else oT l i:=by rw [oT,hg]
  simp only [DY,K3,hg];rw [if_pos (Bb hi),Bq ⟨by omega,hi⟩,Bq (by omega),Bq (by omega),Bq (by rw [hd,OM];omega),hd,KO i (by omega)]
  have cs:=Ya l i hi l[i];rw [if_pos rfl]at cs;by_cases c1:(l.take i).contains l[i]=true
  ·have m1:0<(l.take i).count l[i]:=cr.2 (by simpa using c1)
   rw [if_pos c1,ho,if_neg (by omega)]
  ·rw [if_neg c1];have m1:(l.take i).count l[i]=0:=ct.2 (by simpa using c1)
   simp only [K3,htk];rw [Bq (by omega),Bq (by omega),Bq (by rw [List.length_drop];omega)]
   by_cases c2:(l.drop (i+1)).contains l[i]=true
   ·have m2:0<(l.drop (i+1)).count l[i]:=cr.2 (by simpa using c2)
    rw [if_pos c2,ho,if_neg (by omega)]
   ·have m2:(l.drop (i+1)).count l[i]=0:=ct.2 (by simpa using c2)
    rw [if_neg c2,ho,if_pos (show l.count l[i]=1 by omega)]
    by_cases n1:oT l i<0
    ·rw [if_pos n1,if_pos n1]
    ·rw [if_neg n1,if_neg n1];by_cases n2:l[i]<oT l i
     ·rw [if_pos n2,if_pos n2]
     ·rw [if_neg n2,if_neg n2]
 ·simp only [DY];rw [if_neg (BB _)]
def mC(l:AP):Nat→DK
 |0=>[]
 |i+1=>UE (mC l i) (l.getD i bj) ((M3 (mC l i) (l.getD i bj)).1+1)
theorem ek(m:DK)(k v:Int)(h:(m.map (·.1)).Nodup):((UE m k v).map (·.1)).Nodup:=by
 unfold UE
 cases hf:m.findIdx? (fun p=>p.1==k)with
 |some i=>
  simp only;have hlt:i<m.length:=(cE.1 hf).1;have hk:(m[i].1==k)=true:=(cE.1 hf).2.1
  have:(m.set i (k,v)).map (·.1)=m.map (·.1):=by
   rw [List.map_set];refine List.ext_getElem (by simp) (fun j h1 h2=> ?_)
   rw [List.getElem_set];split
   ·rename_i e;subst e;simp only [cy];exact(by simpa using hk:m[i].1=k).symm
   ·rfl
  rw [this];exact h
 |none=>
  simp only;rw [List.map_append,List.nodup_append]
  refine⟨h,by simp,fun a ha b hb hab=> ?_⟩
  simp only [NF,List.map_nil,bA]at hb;obtain⟨p,hp,rfl⟩:=Gp.1 ha;have:=List.findIdx?_eq_none_iff.1 hf p hp
  rw [hab,hb]at this;simp at this
theorem X7(m:DK)(h:(m.map (·.1)).Nodup)(k v:Int):(k,v)∈m↔M3 m k=(v,true):=by
 unfold M3
 constructor
 ·intro hm
  have:m.find? (fun p=>p.1==k)=some (k,v):=by
   induction m with
   |nil=>cases hm
   |cons p m ih=>
    rw [NF,List.nodup_cons]at h;rw [Ro];rcases OP.1 hm with e|hm
    ·subst e;simp
    ·have:(p.1==k)=false:=by
      cases hb:(p.1==k)with
      |false=>rfl
      |true=>exact absurd (Gp.2 ⟨(k,v),hm,(by simpa using hb:p.1=k).symm⟩) h.1
     rw [this];exact ih h.2 hm
  rw [this]
 ·intro hg
  cases hf:m.find? (fun p=>p.1==k)with
  |none=>rw [hf]at hg;cases hg
  |some p=>
   rw [hf]at hg;have h1:=List.mem_of_find?_eq_some hf;have h2:p.1=k:=by simpa using List.find?_some hf
   injection hg with h3
   obtain⟨a,b⟩:=p;simp only at h2 h3;subst h2 h3;exact h1
theorem iH(l:AP): ∀i,((mC l i).map (·.1)).Nodup
 |0=>by simp [mC]
 |i+1=>ek _ _ _ (iH l i)
theorem fA(l:AP): ∀(i:Nat),i≤l.length→ ∀x,M3 (mC l i) x=(((l.take i).count x:Int),(l.take i).contains x)
 |0,_,x=>by simp [mC,M3]
 |i+1,hi,x=>by
  have ih:=fA l i (by omega)
  have hg:l.getD i bj=l[i]:=BN l i (by omega)
  rw [mC,kX,hg,ih,ih];rw [cx,Gl (by omega),List.count_append]
  have hc:((l.take i++[l[i]]).contains x)=((l.take i).contains x||(x==l[i])):=by
   rw [QT,OO,T9,T9,beq_iff_eq,NE,bA]
  show _=(((List.count x (l.take i)+List.count x [l[i]]:Nat):Int),(l.take i++[l[i]]).contains x)
  rw [hc];by_cases e:x=l[i]
  ·rw [if_pos e,e];simp
  ·rw [if_neg e];have e1:(x==l[i])=false:=by simpa using e
   have e2:List.count x [l[i]]=0:=ct.2 (by simpa using e)
   rw [e1,e2,cw,cq]
theorem A3i(l:AP):((mC l l.length).any fun p=>p.2==1)=true↔ ∃x∈l,l.count x=1:=by
 have hk:=iH l l.length;have hg:=fA l l.length (Hm _);rw [co]at hg;rw [List.any_eq_true]
 constructor
 ·rintro⟨⟨k,v⟩,hm,hv⟩
  have hv:v=1:=by simpa using hv
  have:=(X7 _ hk k v).1 hm
  rw [hg,Prod.mk.injEq]at this
  exact⟨k,by simpa using this.2,by omega⟩
 ·rintro⟨x,hx,hc⟩
  refine⟨(x,1),(X7 _ hk x 1).2 ?_,by simp⟩
  rw [hg,hc];simp [hx]
theorem kY(t:Int)(l:AP)(u v:Int)(h2:l.length≤1000):JA t l u v ([],0)=some (mC l l.length):=by
 have key:=CJ (fun w=>FO t l u v w.1 w.2) (fun i=>(mC l i,(i:Int))) l.length (mC l l.length) (fun i hi=> ?_) ?_
 ·unfold JA;exact key
 ·have hc:(l.take i).count (l.getD i bj)≤l.length:=Nat.le_trans List.count_le_length (by rw [OM];omega)
  have hw:cf.wrap ((M3 (mC l i) (l.getD i bj)).1+1)=(M3 (mC l i) (l.getD i bj)).1+1:=by
   rw [fA l i (by omega)]
   exact LZ _ (by simp only;omega)
  simp only [FO,K3,hw];rw [if_pos (Bb hi),Bq ⟨by omega,hi⟩,KO i (by omega),mC]
 ·simp only [FO];rw [if_neg (BB _)]
theorem kZ(l:AP)(h: ∀x∈l,0≤x):(oT l l.length<0)↔ ¬((mC l l.length).any fun p=>p.2==1)=true:=by
 rw [(qM l h l.length (Hm _)).1,A3i]
 constructor
 ·rintro hall ⟨x,hx,hc⟩
  obtain⟨j,hj,rfl⟩:=iY hx;have:=hall j hj
  rw [BN l j hj]at this;exact this hc
 ·intro hn j hj hc;rw [BN l j hj]at hc;exact hn ⟨l[j],LP hj,hc⟩
theorem kg(E:Ay)(ids ins:AP)(u:Nat)(v:Int)(hu:u<E.length)(hd:(E.getD u bj).length≤6):Jp E ids ins (u:Int) v=some (((E.getD u bj).map (·.1)).contains v):=by
 unfold Jp;simp only [K3];rw [Bq ⟨by omega,hu⟩]
 generalize E.getD u bj=s at hd;have key:=Hf (fun w=>Ad s (fun a0_0 a0_1=>F7 a0_0 a0_1 v) w) (fun i=>(i:Int)) s.length (fun i=>decide (BQ s i=v)) (fun i=> .inl (i:Int)) (.inr ()) (fun i hi=> ?_) ?_
 ·unfold Ak Am;rw [show Ah s (fun a0_0 a0_1=>F7 a0_0 a0_1 v) 0=_ from by unfold Ah;exact key,Cn]
  have hfst: ∀i (hi:i<s.length),BQ s i=s[i].1:=fun i hi=>by unfold BQ;rw [BN s i hi]
  cases hf:Aj s.length (fun i=>decide (BQ s i=v))with
  |some i=>
   obtain⟨h1,h2⟩:=Cu hf
   have:(s.map (·.1)).contains v=true:=by
    rw [T9];exact Gp.2 ⟨s[i],LP h1,by rw [←hfst i h1];simpa using h2⟩
   rw [this];show some (decide (0≤(i:Int)))=some true
   rw [decide_eq_true (by omega)]
  |none=>
   have:(s.map (·.1)).contains v=false:=by
    cases hb:(s.map (·.1)).contains v with
    |false=>rfl
    |true=>
     rw [T9]at hb;obtain⟨p,hp,he⟩:=Gp.1 hb;obtain⟨i,hi,rfl⟩:=iY hp;have:(Aj s.length (fun i=>decide (BQ s i=v))).isSome=true:=Hg.2 ⟨i,hi,by rw [hfst i hi];simpa using he⟩
     rw [hf]at this;cases this
   rw [this];rfl
 ·simp only [Ad,K3,F7];rw [if_pos (Bb hi),Bq ⟨by omega,hi⟩,Cn,KO i (by omega)]
 ·simp only [Ad];rw [if_neg (BB _)]
def Lc(E:Ay)(t:Int)(l:AP)(u v:Int):Bool:=
 if t=1 then decide (oT l l.length<0)&&(decide (u=0)&&decide (v=0))
 else(I9 u 0 ((E.length:Int)-1)&&I9 v 0 ((E.length:Int)-1))&&(decide (l.getD u.toNat bj=l.getD v.toNat bj)&&
  (if t=2 then decide (u≤v)&&((E.getD u.toNat bj).map (·.1)).contains v else decide (u<v)))
theorem uo{E:Ay}{ids ins:AP}(h:IL E ids ins=true)(t:Int)(l:AP)(u v:Int)(hl:l.length=E.length)(hx: ∀x∈l,0≤x):MG E ids ins t l u v=some (Lc E t l u v):=by
 obtain⟨hE,hE1,hd,_⟩:=MJ h;unfold MG Lc;by_cases t1:t=1
 ·rw [if_pos t1,if_pos t1,kY t l u v (by omega),Cn]
  have ho:=kZ l hx;by_cases c:((mC l l.length).any fun p=>p.2==1)=true
  ·rw [if_pos c,decide_eq_false (fun hn=>ho.1 hn c)];rfl
  ·rw [if_neg c,decide_eq_true (ho.2 c),Ju];by_cases hu:u=0
   ·rw [if_pos hu,decide_eq_true hu,Ju]
   ·rw [if_neg hu,decide_eq_false hu];rfl
 ·rw [if_neg t1,if_neg t1]
  have hn: ∀z,CS E ids ins z=some (I9 z 0 ((E.length:Int)-1)):=fun z=>by
   unfold CS;rw [LZ _ (by omega)]
  rw [hn,hn,Cn]
  cases r1:I9 u 0 ((E.length:Int)-1)with
  |false=>rfl
  |true=>
   rw [if_pos rfl,Cn]
   cases r2:I9 v 0 ((E.length:Int)-1)with
   |false=>rfl
   |true=>
    have q1:=J6.1 r1;have q2:=J6.1 r2;rw [if_pos rfl,Bq ⟨by omega,by omega⟩,Bq ⟨by omega,by omega⟩,Ju,Ju]
    by_cases c:l.getD u.toNat bj=l.getD v.toNat bj
    ·rw [if_pos c,decide_eq_true c,Ju];by_cases t2:t=2
     ·rw [if_pos t2,if_pos t2];by_cases c2:u≤v
      ·have hj:=kg E ids ins u.toNat v (by omega) (hd u.toNat (by omega))
       rw [show((u.toNat:Nat):Int)=u by omega]at hj
       rw [if_pos c2,decide_eq_true c2,Ju,hj,Cn]
      ·rw [if_neg c2,decide_eq_false c2];rfl
     ·rw [if_neg t2,if_neg t2]
    ·rw [if_neg c,decide_eq_false c];rfl
theorem ko(m:List (AP×Int))(k k':AP)(v:Int)(h:(J4 m k).2=false):J4 (m++[(k,v)]) k'=if k'=k then(v,true)else J4 m k':=by
 unfold J4 at h ⊢;rw [List.find?_append];by_cases e:k'=k
 ·subst e
  cases hf:m.find? (fun p=>p.1==k')with
  |some p=>rw [hf]at h;cases h
  |none=>simp
 ·rw [if_neg e];have e2:(k==k')=false:=by simpa using fun c:k=k'=>e c.symm
  cases hf:m.find? (fun p=>p.1==k')with
  |some p=>simp
  |none=>simp [e2]
theorem kr(m:List (AP×Int))(k:AP)(v:Int)(h:(J4 m k).2=false):UF m k v=m++[(k,v)]:=by
 unfold UF
 have:m.findIdx? (fun p=>p.1==k)=none:=by
  rw [List.findIdx?_eq_none_iff];intro x hx;unfold J4 at h
  cases hf:m.find? (fun p=>p.1==k)with
  |some p=>rw [hf]at h;cases h
  |none=>rw [cC]at hf;simpa using hf x hx
 rw [this]
theorem Mq(n:Nat)(P:Nat→Bool):Aj (n+1) P=match Aj n P with|some u=>some u|none=>if P n=true then some n else none:=by
 unfold Aj;rw [List.range_succ,List.find?_append]
 cases (an n).find? P with
 |some u=>rfl
 |none=>
  cases hp:P n
  ·simp [hp]
  ·simp [hp]
theorem EA{n:Nat}{P Q:Nat→Bool}(h: ∀i,i<n→P i=Q i):Aj n P=Aj n Q:=by
 induction n with
 |zero=>rfl
 |succ n ih=>rw [Mq,Mq,ih fun i hi=>h i (by omega),h n (by omega)]
theorem Ih{n:Nat}{P:Nat→Bool}(h:Aj n P=none): ∀i,i<n→P i=false:=by
 intro i hi
 cases hp:P i with
 |false=>rfl
 |true=>have:=Hg.2 ⟨i,hi,hp⟩;rw [h]at this;cases this
def cl(K:Nat→AP):Nat→AP×Nat
 |0=>([],0)
 |v+1=>match Aj v (fun u=>K u==K v)with
  |some u=>((cl K v).1++[(cl K v).1.getD u bj],(cl K v).2)
  |none=>((cl K v).1++[((cl K v).2:Int)],(cl K v).2+1)
def cv(K:Nat→AP)(v:Nat):Int:=(cl K (v+1)).1.getD v bj
theorem Sr{K:Nat→AP}{v u:Nat}(h:Aj v (fun u=>K u==K v)=some u):cl K (v+1)=((cl K v).1++[(cl K v).1.getD u bj],(cl K v).2):=by rw [cl,h]
theorem Su{K:Nat→AP}{v:Nat}(h:Aj v (fun u=>K u==K v)=none):cl K (v+1)=((cl K v).1++[((cl K v).2:Int)],(cl K v).2+1):=by rw [cl,h]
theorem Mr(K:Nat→AP): ∀v,(cl K v).1.length=v
 |0=>rfl
 |v+1=>by
  have:=Mr K v
  cases h:Aj v (fun u=>K u==K v)with
  |some u=>rw [Sr h];simp [this]
  |none=>rw [Su h];simp [this]
theorem RA{l m:AP}{i:Nat}(h:i<l.length):(l++m).getD i bj=l.getD i bj:=by
 rw [KR,OI h,KR]
theorem A3j(K:Nat→AP)(v u:Nat)(h:u<v):(cl K (v+1)).1.getD u bj=(cl K v).1.getD u bj:=by
 have hl:=Mr K v
 cases hf:Aj v (fun u=>K u==K v)with
 |some f=>rw [Sr hf];exact RA (by omega)
 |none=>rw [Su hf];exact RA (by omega)
theorem VS(K:Nat→AP): ∀(v u:Nat),u<v→(cl K v).1.getD u bj=cv K u
 |0,u,h=>by omega
 |v+1,u,h=>by
  by_cases e:u=v
  ·subst e;rfl
  ·rw [A3j K v u (by omega),VS K v u (by omega)]
theorem OG{K:Nat→AP}{v u:Nat}(h:Aj v (fun u=>K u==K v)=some u):cv K v=cv K u:=by
 have hl:=Mr K v;have hu:=(Cu h).1;unfold cv;rw [Sr h]
 show((cl K v).1++[(cl K v).1.getD u bj]).getD v bj=_
 rw [KR,NJ (by omega),hl,QU]
 show(cl K v).1.getD u bj=_
 rw [VS K v u hu];rfl
theorem Ms{K:Nat→AP}{v:Nat}(h:Aj v (fun u=>K u==K v)=none):cv K v=((cl K v).2:Int):=by
 have hl:=Mr K v;unfold cv;rw [Su h]
 show((cl K v).1++[((cl K v).2:Int)]).getD v bj=_
 rw [KR,NJ (by omega),hl,QU]
 rfl
theorem Yb(K:Nat→AP)(v:Nat):(cl K (v+1)).1=(cl K v).1++[cv K v]:=by
 cases h:Aj v (fun u=>K u==K v)with
 |some u=>rw [Sr h,OG h,VS K v u (Cu h).1]
 |none=>rw [Su h,Ms h]
theorem qO(K:Nat→AP): ∀v,(cl K v).1=(an v).map (cv K)
 |0=>rfl
 |v+1=>by rw [Yb,qO K v,List.range_succ,List.map_append];rfl
theorem Mt(K:Nat→AP)(v:Nat):(cl K (v+1)).2=match Aj v (fun u=>K u==K v)with|some _=>(cl K v).2|none=>(cl K v).2+1:=by
 rw [cl]
 split<;>rfl
theorem iI(K:Nat→AP): ∀v,(cl K v).2≤v
 |0=>Hm _
 |v+1=>by
  have:=iI K v
  rw [Mt];split
  ·exact Nat.le_succ_of_le this
  ·exact Nat.succ_le_succ this
theorem fB(K:Nat→AP): ∀v,(∀u,u<v→0≤cv K u∧cv K u<((cl K v).2:Int))∧ ∀u w,u<v→w<v→(cv K u=cv K w↔K u=K w)
 |0=>⟨fun u h=>by omega,fun u w h=>by omega⟩
 |v+1=>by
  obtain⟨h1,h2⟩:=fB K v;have hm:=Mt K v
  cases hf:Aj v (fun u=>K u==K v)with
  |some f=>
   have hfv:=(Cu hf).1;have hk:K f=K v:=by simpa using (Cu hf).2
   have hc:=OG hf;rw [hf]at hm
   refine⟨fun u hu=> ?_, ?_⟩
   ·rw [hm];by_cases e:u=v
    ·subst e;rw [hc];exact h1 f hfv
    ·exact h1 u (by omega)
   ·have key: ∀u,u<v→(cv K u=cv K v↔K u=K v):=fun u hu=>by rw [hc,←hk];exact h2 u f hu hfv
    intro u w hu hw;by_cases eu:u=v
    ·subst eu;by_cases ew:w=u
     ·subst ew;simp
     ·exact⟨fun h=>((key w (by omega)).1 h.symm).symm,fun h=>((key w (by omega)).2 h.symm).symm⟩
    ·by_cases ew:w=v
     ·subst ew;exact key u (by omega)
     ·exact h2 u w (by omega) (by omega)
  |none=>
   have hno:=Ih hf;have hc:=Ms hf;rw [hf]at hm;simp only at hm
   refine⟨fun u hu=> ?_, ?_⟩
   ·rw [hm];by_cases e:u=v
    ·subst e;rw [hc];omega
    ·have:=h1 u (by omega);omega
   ·have key: ∀u,u<v→(cv K u=cv K v↔K u=K v):=fun u hu=>by
     have a:=h1 u hu;have b:=hno u hu
     refine⟨fun h=>by rw [hc]at h;omega,fun h=> ?_⟩
     rw [h]at b;simp at b
    intro u w hu hw;by_cases eu:u=v
    ·subst eu;by_cases ew:w=u
     ·subst ew;simp
     ·exact⟨fun h=>((key w (by omega)).1 h.symm).symm,fun h=>((key w (by omega)).2 h.symm).symm⟩
    ·by_cases ew:w=v
     ·subst ew;exact key u (by omega)
     ·exact h2 u w (by omega) (by omega)
theorem A3k(K:Nat→AP)(u w:Nat):cv K u=cv K w↔K u=K w:=(fB K (u+w+1)).2 u w (by omega) (by omega)
theorem qP(K:Nat→AP)(v u:Nat)(h:u<v):0≤cv K u∧cv K u<((cl K v).2:Int):=(fB K v).1 u h
def Js(l:AP):Int:=l.foldl (fun a x=>max a (x+1)) 0
theorem X8(l:AP)(x:Int):Js (l++[x])=max (Js l) (x+1):=by unfold Js;rw [List.foldl_append];rfl
theorem iJ(K:Nat→AP): ∀v,Js (cl K v).1=((cl K v).2:Int)
 |0=>rfl
 |v+1=>by
  have hm:=Mt K v;rw [Yb,X8,iJ K v]
  cases hf:Aj v (fun u=>K u==K v)with
  |some f=>
   rw [hf]at hm;have:=qP K v f (Cu hf).1
   rw [OG hf,hm];simp only;omega
  |none=>
   rw [hf]at hm;have hm:(cl K (v+1)).2=(cl K v).2+1:=hm;rw [Ms hf,hm];omega
theorem iL{K K':Nat→AP}: ∀v,(∀u w,u<v→w<v→K' u=K' w→K u=K w)→(cl K v).2≤(cl K' v).2
 |0,_=>Hm _
 |v+1,h=>by
  have ih:=iL v fun u w hu hw=>h u w (by omega) (by omega)
  rw [Mt,Mt]
  cases hf:Aj v (fun u=>K u==K v)with
  |some f=>simp only;cases Aj v (fun u=>K' u==K' v)<;>simp only<;>omega
  |none=>
   have hno:=Ih hf
   have:Aj v (fun u=>K' u==K' v)=none:=I6 fun i hi=>by
    have:=hno i hi
    cases hb:(K' i==K' v)with
    |false=>rfl
    |true=>rw [h i v (by omega) (by omega) (by simpa using hb)]at this;simp at this
   rw [this];simp only;omega
def RB(K:Nat→AP):Nat→List (AP×Int)
 |0=>[]
 |v+1=>match Aj v (fun u=>K u==K v)with
  |some _=>RB K v
  |none=>RB K v++[(K v,((cl K v).2:Int))]
theorem Sv(K:Nat→AP): ∀(v:Nat) (k:AP),J4 (RB K v) k=match Aj v (fun u=>K u==k)with|some u=>(cv K u,true)|none=>(0,false)
 |0,k=>rfl
 |v+1,k=>by
  have ih:=Sv K v;rw [Mq]
  cases hf:Aj v (fun u=>K u==K v)with
  |some f=>
   rw [show RB K (v+1)=RB K v by rw [RB,hf],ih k]
   cases hk:Aj v (fun u=>K u==k)with
   |some u=>rfl
   |none=>
    have hno:=Ih hk f (Cu hf).1;have he:K f=K v:=by simpa using (Cu hf).2
    rw [he]at hno;simp only [hno];rfl
  |none=>
   have h0:(J4 (RB K v) (K v)).2=false:=by rw [ih,hf]
   rw [show RB K (v+1)=RB K v++[(K v,((cl K v).2:Int))] by rw [RB,hf],ko _ _ _ _ h0]
   by_cases e:k=K v
   ·subst e;rw [if_pos rfl,hf];simp only [beq_self_eq_true,if_true,Ms hf]
   ·rw [if_neg e,ih k];have e2:(K v==k)=false:=by simpa using fun c:K v=k=>e c.symm
    cases hk:Aj v (fun u=>K u==k)with
    |some u=>rfl
    |none=>simp only [e2];rfl
theorem Sw(K:Nat→AP): ∀v,(RB K v).length=(cl K v).2
 |0=>rfl
 |v+1=>by
  have ih:=Sw K v;rw [Mt,RB]
  split<;>simp [ih]
theorem iM(K:Nat→AP)(v:Nat)(h:Aj v (fun u=>K u==K v)=none):UF (RB K v) (K v) ((RB K v).length:Int)=RB K (v+1):=by
 rw [kr _ _ _ (by rw [Sv,h]),Sw,RB,h]
theorem qQ(l:AP)(n:Nat)(x:Int)(hi:l.length<n):(l++ao (n-l.length) 0).set l.length x=(l++[x])++ao (n-(l.length+1)) 0:=by
 rw [cA _ _ (Hm _),QU,show n-l.length=(n-(l.length+1))+1 by omega,iX,Yk,Rn]
 rfl
def SV(E:Ay)(v i:Nat):Int:=BQ (E.getD v bj) i
def Yc(E:Ay)(v i:Nat):Int:=CU (E.getD v bj) i
def FX(E:Ay)(v:Nat):Nat:=(E.getD v bj).length
def gk(E:Ay)(ins c:AP)(v i j:Nat):Int:=
 if j=0 then(FX E v:Int)else if j=1 then ins.getD v bj else
 if(j-2) / 2<i then(if j % 2=0 then Yc E v ((j-2) / 2)else c.getD (SV E v ((j-2) / 2)).toNat bj)else 0
def Yd(E:Ay)(ins c:AP)(v i:Nat):AP:=(an 14).map (gk E ins c v i)
def Kc(E:Ay)(ins c:AP)(v:Nat):AP:=Yd E ins c v (if c.isEmpty then 0 else FX E v)
def K5(E:Ay)(ins:AP):Prop:=1≤E.length∧E.length≤40∧ins.length=E.length∧(∀v,v<E.length→FX E v≤6)∧ ∀v i,v<E.length→i<FX E v→0≤SV E v i∧(SV E v i).toNat<E.length
theorem qR(E:Ay)(ins c:AP)(v:Nat):Yd E ins c v 0=[(FX E v:Int),ins.getD v bj,0,0,0,0,0,0,0,0,0,0,0,0]:=rfl
theorem Ye(E:Ay)(ins c:AP)(v i:Nat):(Yd E ins c v i).length=14:=by simp [Yd]
theorem qU(E:Ay)(ins c:AP)(v i:Nat)(hi:i<6):((Yd E ins c v i).set (2+2*i) (Yc E v i)).set (3+2*i) (c.getD (SV E v i).toNat bj)=Yd E ins c v (i+1):=by
 refine List.ext_getElem (by simp [Yd]) (fun j h1 h2=> ?_)
 have hj:j<14:=by simpa [Yd] using h2
 rw [List.getElem_set];split
 ·rename_i e
  subst e;simp only [Yd,cy,Yj,gk];rw [if_neg (by omega),if_neg (by omega),if_pos (by omega),if_neg (by omega),show(3+2*i-2) / 2=i by omega]
 ·rename_i e
  rw [List.getElem_set];split
  ·rename_i e2
   subst e2;simp only [Yd,cy,Yj,gk];rw [if_neg (by omega),if_neg (by omega),if_pos (by omega),if_pos (by omega),show(2+2*i-2) / 2=i by omega]
  ·rename_i e2
   simp only [Yd,cy,Yj,gk];by_cases h0:j=0
   ·rw [if_pos h0,if_pos h0]
   ·rw [if_neg h0,if_neg h0];by_cases h3:j=1
    ·rw [if_pos h3,if_pos h3]
    ·rw [if_neg h3,if_neg h3];by_cases h4:(j-2) / 2<i
     ·rw [if_pos h4,if_pos (show(j-2) / 2<i+1 by omega)]
     ·rw [if_neg h4,if_neg (show ¬(j-2) / 2<i+1 by omega)]
def alk(E:Ay)(ins c:AP)(u v:Nat):Prop:=
 FX E u=FX E v∧ins.getD u bj=ins.getD v bj∧(c≠[]→ ∀i,i<FX E u→Yc E u i=Yc E v i∧c.getD (SV E u i).toNat bj=c.getD (SV E v i).toNat bj)
theorem uq{E:Ay}{ins c:AP}{u v i k:Nat}:Yd E ins c u i=Yd E ins c v k↔ ∀j,j<14→gk E ins c u i j=gk E ins c v k j:=by
 unfold Yd
 constructor
 ·intro h j hj;have:=congrArg (fun l=>l[j]?) h
  simpa [List.getElem?_range hj] using this
 ·intro h;exact List.map_congr_left fun j hj=>h j (Oj.1 hj)
theorem VT{E:Ay}{ins c:AP}{u v:Nat}(hu:FX E u≤6)(hv:FX E v≤6):Kc E ins c u=Kc E ins c v↔alk E ins c u v:=by
 unfold Kc;rw [uq]
 cases c with
 |nil=>
  simp only [List.isEmpty_nil,if_true]
  constructor
  ·intro h;have h0:=h 0 (by omega)
   have h1:=h 1 (by omega)
   simp only [gk]at h0 h1;have h0:(FX E u:Int)=(FX E v:Int):=by simpa using h0
   exact⟨by omega,by simpa using h1,fun hc=>(hc rfl).elim⟩
  ·rintro⟨h0,h1,_⟩ j hj
   simp only [gk,h0,h1,Nat.not_lt_zero,if_false]
 |cons x xs=>
  simp only [List.isEmpty_cons,Ip,if_false]
  constructor
  ·intro h;have h0:=h 0 (by omega)
   have h1:=h 1 (by omega)
   simp only [gk]at h0 h1;have hd:(FX E u:Int)=(FX E v:Int):=by simpa using h0
   have hd:FX E u=FX E v:=by omega
   refine⟨hd,by simpa using h1,fun _ i hi=>⟨?_, ?_⟩⟩
   ·have:=h (2+2*i) (by omega)
    simp only [gk]at this;rw [if_neg (by omega),if_neg (by omega),if_pos (by omega),if_pos (by omega),if_neg (by omega),if_neg (by omega),if_pos (by omega),if_pos (by omega),show(2+2*i-2) / 2=i by omega]at this
    exact this
   ·have:=h (3+2*i) (by omega)
    simp only [gk]at this;rw [if_neg (by omega),if_neg (by omega),if_pos (by omega),if_neg (by omega),if_neg (by omega),if_neg (by omega),if_pos (by omega),if_neg (by omega),show(3+2*i-2) / 2=i by omega]at this
    exact this
  ·rintro⟨hd,h1,h2⟩ j hj
   have h2:=h2 (by simp)
   simp only [gk];by_cases e0:j=0
   ·rw [if_pos e0,if_pos e0,hd]
   ·rw [if_neg e0,if_neg e0];by_cases e1:j=1
    ·rw [if_pos e1,if_pos e1,h1]
    ·rw [if_neg e1,if_neg e1];by_cases e2:(j-2) / 2<FX E u
     ·obtain⟨q1,q2⟩:=h2 _ e2;rw [if_pos e2,if_pos (show(j-2) / 2<FX E v by omega),q1,q2]
     ·rw [if_neg e2,if_neg (show ¬(j-2) / 2<FX E v by omega)]
def K6(E:Ay)(ins c:AP):AP:=(cl (Kc E ins c) E.length).1
theorem qV{E:Ay}{ins:AP}(hN:K5 E ins)(ids c:AP)(hc:c.length=E.length)(t5:List (AP×Int))(t6:AP)(v:Nat)(hv:v<E.length):
  ED E ids ins c t5 t6 (v:Int) (Yd E ins c v 0,0)=some (Yd E ins c v (FX E v)):=by
 obtain⟨h1,h40,hin,hd,hp⟩:=hN;have hd6:=hd v hv;have key:=CJ (fun w=>D7 E ids ins c t5 t6 (v:Int) w.1 w.2) (fun i=>(Yd E ins c v i,(i:Int))) (FX E v) (Yd E ins c v (FX E v)) (fun i hi=> ?_) ?_
 ·unfold ED;exact key
 ·obtain⟨q1,q2⟩:=hp v i hv hi;have hn:0≤BQ (E.getD v bj) i∧(BQ (E.getD v bj) i).toNat<c.length:=⟨q1,by rw [hc];exact q2⟩
  have e1:cf.wrap (2*(i:Int))=((2*i:Nat):Int):=by rw [LZ _ (by omega)];omega
  have e2:cf.wrap (2+((2*i:Nat):Int))=((2+2*i:Nat):Int):=by rw [LZ _ (by omega)];omega
  have e3:cf.wrap (3+((2*i:Nat):Int))=((3+2*i:Nat):Int):=by rw [LZ _ (by omega)];omega
  have hi':i<(E.getD v bj).length:=hi;simp only [D7,K3,e1,e2,e3];rw [if_pos (Bb hi'),Bq ⟨by omega,hi'⟩,Bq (by omega),Bq hn,Bq (by omega),Bq (by rw [Ye];omega),Bq (by omega),Bq (by rw [Ye];omega),KO i (by omega)]
  have:=qU E ins c v i (by omega)
  unfold Yc SV at this;rw [this]
 ·simp only [D7,K3];rw [if_neg (show ¬(FX E v:Int)<((E.getD v bj).length:Int)from BB _)]
theorem OH(K:Nat→AP)(n i:Nat)(hi:i<n)(x:Int)(hx:x=cv K i):((cl K i).1++ao (n-i) 0).set i x=(cl K (i+1)).1++ao (n-(i+1)) 0:=by
 have hl:=Mr K i;have:=qQ (cl K i).1 n x (by omega)
 rw [hl]at this;rw [this,Yb,hx]
theorem fC{E:Ay}{ins:AP}(hN:K5 E ins)(ids c:AP)(hc:c.length=E.length):
  FK E ids ins c ([],ao E.length 0,0)=some (K6 E ins c):=by
 have hN':=hN;obtain⟨h1,h40,hin,hd,hp⟩:=hN;have hne:c.isEmpty=false:=by cases c with|nil=>simp at hc;omega|cons=>rfl
 have hK: ∀v,Kc E ins c v=Yd E ins c v (FX E v):=fun v=>by unfold Kc;rw [hne];rfl
 have key:=CJ (fun w=>D8 E ids ins c w.1 w.2.1 w.2.2) (fun i=>(RB (Kc E ins c) i,(cl (Kc E ins c) i).1++ao (E.length-i) 0,(i:Int))) E.length (K6 E ins c) (fun i hi=> ?_) ?_
 ·unfold FK;exact key
 ·have hlen:i<((cl (Kc E ins c) i).1++ao (E.length-i) 0).length:=by rw [OL,Mr,iV];omega
  have hk0:=qV hN' ids c hc (RB (Kc E ins c) i) ((cl (Kc E ins c) i).1++ao (E.length-i) 0) i hi;rw [qR,←hK i]at hk0;have hk0:ED E ids ins c (RB (Kc E ins c) i) ((cl (Kc E ins c) i).1++ao (E.length-i) 0) (i:Int) ([((E.getD i bj).length:Int),ins.getD i bj,0,0,0,0,0,0,0,0,0,0,0,0],0)=some (Kc E ins c i):=hk0;have hl14:(Kc E ins c i).length=14:=by rw [hK];exact Ye _ _ _ _ _
  simp only [D8,K3];rw [if_pos (Bb hi),Bq ⟨by omega,hi⟩,Bq ⟨by omega,by omega⟩,hk0,Cn,Bq (show(Kc E ins c i).length≤14∧14≤(Kc E ins c i).length by omega),Sv,KO i (by omega)]
  cases hf:Aj i (fun u=>Kc E ins c u==Kc E ins c i)with
  |some f=>
   simp only [if_true];rw [Bq ⟨by omega,hlen⟩,OH _ _ _ hi _ (OG hf).symm]
   rw [show RB (Kc E ins c) (i+1)=RB (Kc E ins c) i by rw [RB,hf]]
  |none=>
   simp only [Ip,if_false];rw [Bq ⟨by omega,hlen⟩,iM _ _ hf,OH _ _ _ hi _ (by rw [Ms hf,Sw])]
 ·simp only [D8];rw [if_neg (BB _),QU,cD,VY];rfl
theorem qW{E:Ay}{ins:AP}(hN:K5 E ins)(ids c:AP)(hc:c.length=E.length):IQ E ids ins c=some (K6 E ins c):=by
 have h40:=hN.2.1;unfold IQ;rw [Bq (by omega),fC hN ids c hc,Cn]
theorem ku{E:Ay}{ins:AP}(hN:K5 E ins)(ids:AP)(t5:List (AP×Int))(t6:AP)(v:Nat)(hv:v<E.length):
  Di E ids ins t5 t6 (v:Int) 0=some ():=by
 obtain⟨h1,h40,hin,hd,hp⟩:=hN;have hd6:=hd v hv;have key:=CJ (fun w=>CL E ids ins t5 t6 (v:Int) w) (fun i=>(i:Int)) (FX E v) () (fun i hi=> ?_) ?_
 ·unfold Di;exact key
 ·have hi':i<(E.getD v bj).length:=hi;simp only [CL,K3];rw [if_pos (Bb hi'),Bq ⟨by omega,hi'⟩,KO i (by omega)]
 ·simp only [CL,K3];rw [if_neg (show ¬(FX E v:Int)<((E.getD v bj).length:Int)from BB _)]
theorem aX{E:Ay}{ins:AP}(hN:K5 E ins)(ids:AP):
  Dj E ids ins ([],ao E.length 0,0)=some (K6 E ins []):=by
 have hN':=hN;obtain⟨h1,h40,hin,hd,hp⟩:=hN;have hK: ∀v,Kc E ins [] v=[((E.getD v bj).length:Int),ins.getD v bj,0,0,0,0,0,0,0,0,0,0,0,0]:=fun v=>rfl;have key:=CJ (fun w=>CO E ids ins w.1 w.2.1 w.2.2) (fun i=>(RB (Kc E ins []) i,(cl (Kc E ins []) i).1++ao (E.length-i) 0,(i:Int))) E.length (K6 E ins []) (fun i hi=> ?_) ?_
 ·unfold Dj;exact key
 ·have hlen:i<((cl (Kc E ins []) i).1++ao (E.length-i) 0).length:=by rw [OL,Mr,iV];omega
  have hk0:=ku hN' ids (RB (Kc E ins []) i) ((cl (Kc E ins []) i).1++ao (E.length-i) 0) i hi;simp only [CO,K3];rw [if_pos (Bb hi),Bq ⟨by omega,hi⟩,Bq ⟨by omega,by omega⟩,hk0,Cn,←hK i,Sv,KO i (by omega)]
  cases hf:Aj i (fun u=>Kc E ins [] u==Kc E ins [] i)with
  |some f=>
   simp only [if_true];rw [Bq ⟨by omega,hlen⟩,OH _ _ _ hi _ (OG hf).symm]
   rw [show RB (Kc E ins []) (i+1)=RB (Kc E ins []) i by rw [RB,hf]]
  |none=>
   simp only [Ip,if_false];rw [Bq ⟨by omega,hlen⟩,iM _ _ hf,OH _ _ _ hi _ (by rw [Ms hf,Sw])]
 ·simp only [CO];rw [if_neg (BB _),QU,cD,VY];rfl
theorem A3l{E:Ay}{ins:AP}(hN:K5 E ins)(ids:AP):En E ids ins=some (K6 E ins []):=by
 have h40:=hN.2.1;unfold En;rw [Bq (by omega),aX hN ids,Cn]
def fD(E:Ay)(c:AP)(u v i:Nat):Bool:=decide (Yc E u i=Yc E v i)&&decide (c.getD (SV E u i).toNat bj=c.getD (SV E v i).toNat bj)
def aY(E:Ay)(ins c:AP)(u v:Nat):Bool:=decide ((FX E u:Int)=(FX E v:Int))&&(decide (ins.getD u bj=ins.getD v bj)&&(an (FX E u)).all (fun i=>c.isEmpty||fD E c u v i))
theorem qX{E:Ay}{ins c:AP}{u v:Nat}:aY E ins c u v=true↔alk E ins c u v:=by
 unfold aY alk;rw [FU,FU,decide_eq_true_eq,decide_eq_true_eq,GG]
 constructor
 ·rintro⟨h1,h2,h3⟩
  refine⟨by omega,h2,fun hc i hi=> ?_⟩
  have:=h3 i hi
  rw [show c.isEmpty=false by cases c with|nil=>exact(hc rfl).elim|cons=>rfl,VZ]at this
  unfold fD at this;simpa using this
 ·rintro⟨h1,h2,h3⟩
  refine⟨by omega,h2,fun i hi=> ?_⟩
  cases c with
  |nil=>rfl
  |cons x xs=>
   obtain⟨a,b⟩:=h3 (by simp) i hi
   rw [List.isEmpty_cons,VZ];unfold fD;rw [a,b];simp
theorem AGp{E:Ay}{ins c:AP}{u v:Nat}(hu:FX E u≤6)(hv:FX E v≤6):(Kc E ins c u==Kc E ins c v)=aY E ins c u v:=by
 rw [QT,qX,←VT hu hv];simp
theorem qY{E:Ay}{ins:AP}(hN:K5 E ins)(ids c:AP)(hc:c=[]∨c.length=E.length)(u v:Nat)(hu:u<E.length)(hv:v<E.length):
  MC E ids ins c (u:Int) (v:Int)=some (aY E ins c u v):=by
 obtain⟨h1,h40,hin,hd,hp⟩:=hN;have hdu:=hd u hu;unfold MC aY;simp only [K3];rw [Bq ⟨by omega,hu⟩,Bq ⟨by omega,hv⟩]
 by_cases q1:(FX E u:Int)=(FX E v:Int)
 ·rw [if_pos (show((E.getD u bj).length:Int)=((E.getD v bj).length:Int)from q1),Bq ⟨by omega,by omega⟩,Bq ⟨by omega,by omega⟩,decide_eq_true q1,Ju]
  by_cases q2:ins.getD u bj=ins.getD v bj
  ·rw [if_pos q2,decide_eq_true q2,Ju];have key:=IZ (fun w=>FM E ids ins c (u:Int) (v:Int) w) (fun i=>(i:Int)) (FX E u) (fun i=>c.isEmpty||fD E c u v i) (.inl ()) (.inr ()) (fun i hi=> ?_) ?_
   ·rw [show J9 E ids ins c (u:Int) (v:Int) 0=some (if(an (FX E u)).all (fun i=>c.isEmpty||fD E c u v i)=true then .inr ()else .inl ())from by unfold J9;exact key,Cn]
    cases (an (FX E u)).all (fun i=>c.isEmpty||fD E c u v i)<;>rfl
   ·have hi1:i<(E.getD u bj).length:=hi
    have hi2:i<(E.getD v bj).length:=by
     have:FX E u=FX E v:=by omega
     unfold FX at this;omega
    simp only [FM,K3];rw [if_pos (Bb hi1),Bq ⟨by omega,hi1⟩,Bq ⟨by omega,hv⟩,Bq ⟨by omega,hi2⟩,KO i (by omega)]
    rcases hc with rfl|hc
    ·rw [if_neg (by simp)];rfl
    ·rw [if_pos (by omega)]
     have he:c.isEmpty=false:=by cases c with|nil=>simp at hc;omega|cons=>rfl
     have p1:=hp u i hu hi;have p2:=hp v i hv hi2;rw [he,VZ];unfold fD;by_cases r1:Yc E u i=Yc E v i
     ·rw [if_pos (show CU (E.getD u bj) i=CU (E.getD v bj) i from r1),Bq (show 0≤BQ (E.getD u bj) i∧(BQ (E.getD u bj) i).toNat<c.length from⟨p1.1,by rw [hc];exact p1.2⟩),
       Bq (show 0≤BQ (E.getD v bj) i∧(BQ (E.getD v bj) i).toNat<c.length from⟨p2.1,by rw [hc];exact p2.2⟩),decide_eq_true r1,Ju]
      by_cases r2:c.getD (SV E u i).toNat bj=c.getD (SV E v i).toNat bj
      ·rw [if_pos (show c.getD (BQ (E.getD u bj) i).toNat bj=c.getD (BQ (E.getD v bj) i).toNat bj from r2),decide_eq_true r2,if_pos rfl]
      ·rw [if_neg (show ¬c.getD (BQ (E.getD u bj) i).toNat bj=c.getD (BQ (E.getD v bj) i).toNat bj from r2),decide_eq_false r2,if_neg (by decide)]
     ·rw [if_neg (show ¬CU (E.getD u bj) i=CU (E.getD v bj) i from r1),decide_eq_false r1,Bool.false_and,if_neg (by decide)]
   ·simp only [FM,K3];rw [if_neg (show ¬(FX E u:Int)<((E.getD u bj).length:Int)from BB _)]
  ·rw [if_neg q2,decide_eq_false q2];rfl
 ·rw [if_neg (show ¬((E.getD u bj).length:Int)=((E.getD v bj).length:Int)from q1),decide_eq_false q1];rfl
theorem fF{E:Ay}{ins:AP}(hN:K5 E ins)(ids c:AP)(hc:c=[]∨c.length=E.length)(out:AP)(many:Int)(i:Nat)(hi:i<E.length):
  Im E ids ins c out many (i:Int) (-1,0)=some (match Aj i (fun u=>aY E ins c u i)with|some f=>(f:Int)|none=> -1):=by
 have h40:=hN.2.1
 have step: ∀j,j<i→CX E ids ins c out many (i:Int) (-1) (j:Int)=if aY E ins c j i=true then some (.inl ((j:Int),((j+1:Nat):Int)))else some (.inl (-1,((j+1:Nat):Int))):=fun j hj=>by
  simp only [CX];rw [if_pos (Bb hj),if_pos (by decide),qY hN ids c hc j i (by omega) hi,Cn,KO j (by omega)]
 cases hf:Aj i (fun u=>aY E ins c u i)with
 |none=>
  have hno:=Ih hf;have key:=CJ (fun w=>CX E ids ins c out many (i:Int) w.1 w.2) (fun j=>((-1:Int),(j:Int))) i (-1) (fun j hj=> ?_) ?_
  ·unfold Im;exact key
  ·show CX E ids ins c out many (i:Int) (-1) (j:Int)=_
   rw [step j hj,hno j hj,if_neg (by decide)]
  ·simp only [CX];rw [if_neg (BB _)]
 |some f=>
  have hfi:=Cu hf;have hmin:=LK hf;have key:=CJ (fun w=>CX E ids ins c out many (i:Int) w.1 w.2) (fun j=>if j≤f then((-1:Int),(j:Int))else((f:Int),((f+1:Nat):Int))) (f+1) (f:Int) (fun j hj=> ?_) ?_
  ·unfold Im;exact key
  ·rw [if_pos (by omega)]
   show CX E ids ins c out many (i:Int) (-1) (j:Int)=_
   rw [step j (by omega)]
   by_cases e:j=f
   ·subst e;rw [hfi.2,if_pos rfl,if_neg (by omega)]
   ·rw [hmin j (by omega),if_neg (by decide),if_pos (by omega)]
  ·rw [if_neg (by omega)]
   simp only [CX];by_cases e:((f+1:Nat):Int)<(i:Int)
   ·rw [if_pos e,if_neg (by omega)]
   ·rw [if_neg e]
theorem iO{E:Ay}{ins:AP}(hN:K5 E ins)(ids c:AP)(hc:c=[]∨c.length=E.length):Ki E ids ins c=some (K6 E ins c):=by
 have hN':=hN;obtain⟨h1,h40,hin,hd,hp⟩:=hN;have key:=CJ (fun w=>GV E ids ins c w.1 w.2.1 w.2.2) (fun i=>((cl (Kc E ins c) i).1++ao (E.length-i) 0,((cl (Kc E ins c) i).2:Int),(i:Int))) E.length (K6 E ins c) (fun i hi=> ?_) ?_
 ·unfold Ki;rw [Bq (by omega),show Jm E ids ins c (ao E.length 0,0,0)=_ from by unfold Jm;exact key,Cn]
 ·have hl:=Mr (Kc E ins c) i;have hlen:i<((cl (Kc E ins c) i).1++ao (E.length-i) 0).length:=by rw [OL,hl,iV];omega
  have hm:=Mt (Kc E ins c) i;have hle:=iI (Kc E ins c) i;simp only [GV,K3]
  rw [if_pos (Bb hi),fF hN' ids c hc _ _ i hi,Cn,KO i (by omega),
   ←EA (P:=fun u=>Kc E ins c u==Kc E ins c i) (fun u hu=>AGp (hd u (by omega)) (hd i hi))]
  cases hf:Aj i (fun u=>Kc E ins c u==Kc E ins c i)with
  |some f=>
   have hfi:=(Cu hf).1;rw [hf]at hm;simp only at hm;simp only [K3];rw [if_pos (by omega),Bq ⟨by omega,by omega⟩,Bq ⟨by omega,hlen⟩,RA (by omega),VS _ _ _ hfi,OH _ _ _ hi _ (OG hf).symm,hm]
  |none=>
   rw [hf]at hm;have hm:(cl (Kc E ins c) (i+1)).2=(cl (Kc E ins c) i).2+1:=hm;simp only;rw [if_neg (by decide),Bq ⟨by omega,hlen⟩,OH _ _ _ hi _ (Ms hf).symm,hm,KO _ (by omega)]
 ·simp only [GV];rw [if_neg (BB _),QU,cD,VY];rfl
def PL(E:Ay)(ins:AP):Nat→AP
 |0=>K6 E ins []
 |t+1=>K6 E ins (PL E ins t)
theorem JW(E:Ay)(ins:AP)(t:Nat):(PL E ins t).length=E.length:=by cases t<;>exact Mr _ _
theorem AAj{E:Ay}{ins:AP}(hN:K5 E ins)(ids:AP)(t:Nat)(ht:t≤1000):HY E ids ins (t:Int)=some (PL E ins t):=by
 have key:=CJ (fun w=>EE E ids ins w.1 w.2) (fun k=>((t:Int)-(k:Int),PL E ins k)) t (PL E ins t) (fun k hk=> ?_) ?_
 ·unfold HY;rw [iO hN ids [] (.inl rfl),Cn];have e:(t:Int)-((0:Nat):Int)=(t:Int):=by omega
  rw [e]at key;rw [show HV E ids ins ((t:Int),K6 E ins [])=_ from by unfold HV;exact key,Cn]
 ·simp only [EE];rw [if_pos (by omega),iO hN ids _ (.inr (JW E ins k)),Cn,LZ _ (by omega),show(t:Int)-(k:Int)-1=(t:Int)-((k+1:Nat):Int) by omega];rfl
 ·simp only [EE];rw [if_neg (by omega)]
def ql(l:AP):Prop:= ∀x∈l,0≤x∧x≤99
theorem QO: ∀(l:AP),ql l→0≤Js l∧Js l≤100:=by
 have key: ∀(l:AP) (a:Int),ql l→0≤a→a≤100→0≤l.foldl (fun a x=>max a (x+1)) a∧l.foldl (fun a x=>max a (x+1)) a≤100:=by
  intro l
  induction l with
  |nil=>intro a _ h1 h2;exact⟨h1,h2⟩
  |cons x l ih=>
   intro a h h1 h2;have:=h x Kq
   exact ih _ (fun y hy=>h y (JJ _ hy)) (show 0≤max a (x+1) by omega) (show max a (x+1)≤100 by omega)
 exact fun l h=>key l 0 h (by omega) (by omega)
theorem ql.take{l:AP}(h:ql l)(i:Nat):ql (l.take i):=fun x hx=>h x (List.mem_of_mem_take hx)
theorem RD(l:AP)(i:Nat)(hi:i<l.length):Js (l.take (i+1))=max (Js (l.take i)) (l.getD i bj+1):=by
 rw [cx,Gl hi,KR,Gl hi];exact X8 _ _
theorem ut(l:AP)(h:ql l)(h1:1≤l.length)(h2:l.length≤1000):Fv l=some (Js l):=by
 have key:=CJ (fun w=>Bd l w.1 w.2) (fun i=>(Js (l.take (i+1))-1,((i+1:Nat):Int))) (l.length-1) (Js l-1) (fun i hi=> ?_) ?_
 ·have h0:=RD l 0 (by omega)
  have hx:=h l[0] (LP (by omega))
  have hg:l.getD 0 bj=l[0]:=BN l 0 (by omega)
  have hr:=QO l h;simp only [List.take_zero]at h0;have e0:Js []=0:=rfl;have e:Js (l.take (0+1))-1=l.getD 0 bj:=by rw [h0,e0,hg];omega
  rw [e]at key;unfold Fv ER;rw [if_neg (by omega),Bq (by omega),show CY l (l.getD 0 bj,1)=_ from by unfold CY;exact key,Cn,Cn,LZ _ (by omega)]
  congr 1;omega
 ·have hi':i+1<l.length:=by omega
  have ht:=RD l (i+1) hi';have hr:=QO _ (h.take (i+1));have hx:=h l[i+1] (LP hi');have hg:l.getD (i+1) bj=l[i+1]:=BN l _ hi';simp only [Bd,K3];rw [if_pos (Bb hi'),Bq ⟨by omega,hi'⟩,KO _ (by omega),ht,hg]
  have:TD (Js (l.take (i+1))-1) l[i+1]=max (Js (l.take (i+1))) (l[i+1]+1)-1:=by unfold TD;split<;>omega
  rw [this]
 ·have hl:l.length-1+1=l.length:=by omega
  simp only [Bd,hl];rw [if_neg (BB _),co]
theorem uu(l:AP)(h:ql l)(h2:l.length≤1000):Kk l=some (Js l):=by
 have key:=CJ (fun w=>Ga l w.1 w.2) (fun i=>(Js (l.take i),(i:Int))) l.length (Js l) (fun i hi=> ?_) ?_
 ·unfold Kk;rw [show Jo l (0,0)=_ from by unfold Jo;exact key,Cn]
 ·have ht:=RD l i hi;have hr:=QO _ (h.take i);have hx:=h l[i] (LP hi);have hg:l.getD i bj=l[i]:=BN l i hi;simp only [Ga,K3];rw [if_pos (Bb hi),Bq ⟨by omega,hi⟩,hg,LZ _ (by omega),KO i (by omega),ht,hg]
  unfold QH;by_cases e:l[i]+1<Js (l.take i)
  ·rw [if_pos e,Cn,show max (Js (l.take i)) (l[i]+1)=Js (l.take i) by omega]
  ·rw [if_neg e,Cn,show max (Js (l.take i)) (l[i]+1)=l[i]+1 by omega]
 ·simp only [Ga];rw [if_neg (BB _),co]
def SX(E:Ay)(ins:AP):Nat→Nat→AP
 |0=>Kc E ins []
 |t+1=>Kc E ins (PL E ins t)
theorem Yf(E:Ay)(ins:AP)(t:Nat):PL E ins t=(cl (SX E ins t) E.length).1:=by cases t<;>rfl
theorem iP{E:Ay}{ins:AP}{t u:Nat}(hu:u<E.length):(PL E ins t).getD u bj=cv (SX E ins t) u:=by rw [Yf];exact VS _ _ _ hu
theorem aZ{E:Ay}{ins:AP}{t u v:Nat}(hu:u<E.length)(hv:v<E.length):(PL E ins t).getD u bj=(PL E ins t).getD v bj↔SX E ins t u=SX E ins t v:=by
 rw [iP hu,iP hv];exact A3k _ _ _
theorem Yg{E:Ay}{ins:AP}(hN:K5 E ins)(t:Nat):ql (PL E ins t):=by
 intro x hx;have h40:=hN.2.1;rw [Yf,qO,Gp]at hx;obtain⟨u,hu,rfl⟩:=hx;have:=qP (SX E ins t) E.length u (Oj.1 hu)
 have h2:=iI (SX E ins t) E.length;omega
theorem qZ{E:Ay}{ins:AP}(hN:K5 E ins): ∀(t u v:Nat),u<E.length→v<E.length→SX E ins (t+1) u=SX E ins (t+1) v→SX E ins t u=SX E ins t v:=by
 obtain⟨h1,h40,hin,hd,hp⟩:=hN;have ne: ∀t,PL E ins t≠[]:=fun t hc=>by have:=JW E ins t;rw [hc]at this;simp at this;omega
 intro t
 induction t with
 |zero=>
  intro u v hu hv h;obtain⟨a,b,_⟩:=(VT (hd u hu) (hd v hv)).1 h
  exact(VT (hd u hu) (hd v hv)).2 ⟨a,b,fun hc=>(hc rfl).elim⟩
 |succ t ih=>
  intro u v hu hv h;obtain⟨a,b,c⟩:=(VT (hd u hu) (hd v hv)).1 h
  refine(VT (hd u hu) (hd v hv)).2 ⟨a,b,fun _ i hi=> ?_⟩
  obtain⟨c1,c2⟩:=c (ne _) i hi;have q1:=(hp u i hu hi).2;have q2:=(hp v i hv (by omega)).2
  exact⟨c1,(aZ q1 q2).2 (ih _ _ q1 q2 ((aZ q1 q2).1 c2))⟩
def aa(E:Ay)(ins:AP)(t:Nat):Nat:=(cl (SX E ins t) E.length).2
theorem iQ(E:Ay)(ins:AP)(t:Nat):Js (PL E ins t)=(aa E ins t:Int):=by rw [Yf];exact iJ _ _
theorem qa{E:Ay}{ins:AP}(hN:K5 E ins)(t:Nat):aa E ins t≤aa E ins (t+1):=iL _ fun u w hu hw=>qZ hN t u w hu hw
theorem uw{E:Ay}{ins:AP}(hN:K5 E ins): ∃T,T≤40∧aa E ins (T+1)=aa E ins T∧ ∀t,t<T→aa E ins (t+1)≠aa E ins t:=by
 have h40:=hN.2.1
 cases hf:Aj 41 (fun t=>decide (aa E ins (t+1)=aa E ins t))with
 |some T=>
  obtain⟨a,b⟩:=Cu hf
  refine⟨T,by omega,by simpa using b,fun t ht=> ?_⟩
  have:=LK hf t ht
  simpa using this
 |none=>
  have hno:=Ih hf
  have: ∀t,t≤41→t≤aa E ins t:=by
   intro t
   induction t with
   |zero=>intro _;exact Nat.zero_le _
   |succ t ih=>
    intro ht;have a:=hno t (by omega)
    have b:=qa hN t;have c:=ih (by omega)
    have a: ¬aa E ins (t+1)=aa E ins t:=by simpa using a
    omega
  have a:=this 41 (Hm _);have b:=iI (SX E ins 41) E.length;unfold aa at a;omega
theorem ae{E:Ay}{ins:AP}(hN:K5 E ins)(ids:AP): ∃T:Nat,T≤40∧Nz E ids ins=some ((T:Int),PL E ins T)∧MF E ids ins=some (PL E ins T)∧aa E ins (T+1)=aa E ins T:=by
 obtain⟨T,hT,he,hne⟩:=uw hN;have h40:=hN.2.1;have h1:=hN.1;have ci: ∀t,Fv (PL E ins t)=some (aa E ins t:Int):=fun t=>by rw [ut _ (Yg hN t) (by rw [JW];exact h1) (by rw [JW];omega),iQ]
 have cs: ∀t,Kk (PL E ins t)=some (aa E ins t:Int):=fun t=>by rw [uu _ (Yg hN t) (by rw [JW];omega),iQ]
 refine⟨T,hT, ?_, ?_,he⟩
 ·have key:=CJ (fun w=>GY E ids ins w.1 w.2) (fun t=>(PL E ins t,(t:Int))) T ((T:Int),PL E ins T) (fun t ht=> ?_) ?_
  ·unfold Nz;rw [A3l hN ids,Cn,show Jn E ids ins (K6 E ins [],0)=_ from by unfold Jn;exact key,Cn]
  ·simp only [GY];rw [qW hN ids _ (JW E ins t),Cn,show K6 E ins (PL E ins t)=PL E ins (t+1)from rfl,ci,Cn,ci,Cn,if_neg (by have:=hne t ht;omega),KO t (by omega)]
  ·simp only [GY];rw [qW hN ids _ (JW E ins T),Cn,show K6 E ins (PL E ins T)=PL E ins (T+1)from rfl,ci,Cn,ci,Cn,if_pos (by omega)]
 ·have key:=CJ (fun w=>Ec E ids ins w.1 w.2) (fun t=>(PL E ins t,(t:Int))) T (T:Int) (fun t ht=> ?_) ?_
  ·have k0:Kl E ids ins=some (T:Int):=by
    unfold Kl;rw [show HY E ids ins (0:Int)=_ from AAj hN ids 0 (by omega),Cn,show IV E ids ins (PL E ins 0,0)=_ from by unfold IV;exact key,Cn]
   unfold MF;rw [k0,Cn,AAj hN ids T (by omega),Cn]
  ·simp only [Ec];rw [iO hN ids _ (.inr (JW E ins t)),Cn,show K6 E ins (PL E ins t)=PL E ins (t+1)from rfl,cs,Cn,cs,Cn,if_neg (by have:=hne t ht;omega),KO t (by omega)]
  ·simp only [Ec];rw [iO hN ids _ (.inr (JW E ins T)),Cn,show K6 E ins (PL E ins T)=PL E ins (T+1)from rfl,cs,Cn,cs,Cn,if_pos (by omega)]
theorem fG{m k:Nat}{P:Nat→Bool}(hk:k<m):Aj m (fun j=>P j||j==k)=some (match Aj m P with|some f=>min f k|none=>k):=by
 cases hf:Aj m P with
 |none=>
  have hno:=Ih hf;show Aj m (fun j=>P j||j==k)=some k
  exact Ig hk (by simp) fun i hi=>by rw [hno i (by omega),VZ];simpa using (by omega:i≠k)
 |some f=>
  obtain⟨h1,h2⟩:=Cu hf;have h3:=LK hf;simp only;by_cases e:f≤k
  ·rw [Nat.min_eq_left e];exact Ig h1 (by rw [h2];rfl) fun i hi=>by rw [h3 i hi,VZ];simpa using (by omega:i≠k)
  ·rw [Nat.min_eq_right (by omega)]
   exact Ig hk (by simp) fun i hi=>by rw [h3 i (by omega),VZ];simpa using (by omega:i≠k)
def ixI:Option Nat→Int
 |some f=>(f:Int)
 |none=> -1
def qb(l:AP):Option Nat:=Aj (Js l).toNat (fun j=>l.count (j:Int)==1)
def QP(l:AP):Int:=ixI (qb l)
theorem uy: ∀(l:AP) (x:Int),x∈l→x+1≤Js l:=by
 have mono: ∀(l:AP) (a:Int),a≤l.foldl (fun a x=>max a (x+1)) a:=by
  intro l
  induction l with
  |nil=>intro a;exact Int.le_refl _
  |cons x l ih=>
   intro a;have:=ih (max a (x+1))
   show a≤l.foldl (fun a x=>max a (x+1)) (max a (x+1))
   omega
 have key: ∀(l:AP) (a x:Int),x∈l→x+1≤l.foldl (fun a x=>max a (x+1)) a:=by
  intro l
  induction l with
  |nil=>intro a x h;cases h
  |cons y l ih=>
   intro a x h;show x+1≤l.foldl (fun a x=>max a (x+1)) (max a (y+1))
   rcases OP.1 h with rfl|h
   ·have:=mono l (max a (x+1));omega
   ·exact ih _ x h
 exact fun l x h=>key l 0 x h
theorem af(l:AP)(i:Nat)(hi:i<l.length)(x:Int):l.count x=(l.take i).count x+((if l[i]=x then 1 else 0)+(l.drop (i+1)).count x):=by
 have e:l=l.take i++(l[i]::l.drop (i+1)):=by rw [List.getElem_cons_drop,List.take_append_drop]
 have e2:=congrArg (List.count x) e;rw [List.count_append,List.count_cons]at e2;rw [e2];have:(if(l[i]==x)=true then 1 else 0)=(if l[i]=x then 1 else 0):=by simp only [beq_iff_eq]
 omega
def JI(l:AP)(i:Nat):Option Nat:=Aj (Js l).toNat (fun j=>l.count (j:Int)==1&&(l.take i).contains (j:Int))
theorem kv(l:AP):JI l l.length=qb l:=by
 unfold JI qb;refine EA fun j _=> ?_;rw [co]
 cases h:(l.count (j:Int)==1)with
 |false=>rfl
 |true=>
  have h:l.count (j:Int)=1:=by simpa using h
  have:(j:Int)∈l:=cr.1 (by omega)
  simpa using this
theorem iR(l:AP)(h:ql l)(h2:l.length≤1000):Km l=some (QP l):=by
 have key:=CJ (fun w=>DY l w.1 w.2) (fun i=>(ixI (JI l i),(i:Int))) l.length (QP l) (fun i hi=> ?_) ?_
 ·have e0:ixI (JI l 0)= -1:=by
   unfold JI;rw [I6 (fun j _=>by simp)];rfl
  rw [e0]at key;unfold Km;rw [show HZ l (-1,0)=_ from by unfold HZ;exact key,Cn]
 ·have hx:=h l[i] (LP hi);have hg:l.getD i bj=l[i]:=BN l i hi;have htop:=uy l l[i] (LP hi);have hrng:=QO l h;have hd:((l.take i).drop 0)=l.take i:=List.drop_zero;have htk:l.take l.length=l:=co
  have tk: ∀j:Nat,(l.take (i+1)).contains (j:Int)=((l.take i).contains (j:Int)||((j:Int)==l[i])):=fun j=>by
   rw [cx,Gl hi,QT,OO,T9,T9,beq_iff_eq,NE,Option.toList_some,bA]
  simp only [DY,K3,hg];rw [if_pos (Bb hi),Bq ⟨by omega,hi⟩,Bq (by omega),Bq (by omega),Bq (by rw [hd,OM];omega),hd,KO i (by omega)]
  have cs:=af l i hi l[i];rw [if_pos rfl]at cs;by_cases c1:(l.take i).contains l[i]=true
  ·have m1:0<(l.take i).count l[i]:=cr.2 (by simpa using c1)
   rw [if_pos c1]
   have:JI l (i+1)=JI l i:=by
    unfold JI;refine EA fun j _=> ?_;rw [tk];by_cases e:(j:Int)=l[i]
    ·rw [e];have:(l.count l[i]==1)=false:=by simpa using (by omega:l.count l[i]≠1)
     rw [this];rfl
    ·rw [show((j:Int)==l[i])=false by simpa using e,cw]
   rw [this]
  ·rw [if_neg c1];have m1:(l.take i).count l[i]=0:=ct.2 (by simpa using c1)
   simp only [K3,htk];rw [Bq (by omega),Bq (by omega),Bq (by rw [List.length_drop];omega)]
   by_cases c2:(l.drop (i+1)).contains l[i]=true
   ·have m2:0<(l.drop (i+1)).count l[i]:=cr.2 (by simpa using c2)
    rw [if_pos c2]
    have:JI l (i+1)=JI l i:=by
     unfold JI;refine EA fun j _=> ?_;rw [tk];by_cases e:(j:Int)=l[i]
     ·rw [e];have:(l.count l[i]==1)=false:=by simpa using (by omega:l.count l[i]≠1)
      rw [this];rfl
     ·rw [show((j:Int)==l[i])=false by simpa using e,cw]
    rw [this]
   ·have m2:(l.drop (i+1)).count l[i]=0:=ct.2 (by simpa using c2)
    rw [if_neg c2];obtain⟨k,hk⟩: ∃k:Nat,l[i]=(k:Int):=⟨l[i].toNat,by omega⟩
    have hc1:l.count l[i]=1:=by omega
    have:JI l (i+1)=some (match JI l i with|some f=>min f k|none=>k):=by
     unfold JI;rw [←fG (by omega)]
     refine EA fun j _=> ?_;rw [tk];by_cases e:j=k
     ·subst e;rw [←hk,hc1]
      simp
     ·have e1:((j:Int)==l[i])=false:=by rw [hk];simpa using (by omega:(j:Int)≠(k:Int))
      have e2:(j==k)=false:=by simpa using e
      rw [e1,e2,cw,cw]
    have this:ixI (JI l (i+1))=match JI l i with|some f=>((min f k:Nat):Int)|none=>(k:Int):=by
     rw [this]
     cases JI l i<;>rfl
    rw [this]
    cases ho:JI l i with
    |none=>
     show(if(-1:Int)<0 then _ else _)=some (cd ((k:Int),_))
     rw [if_pos (by decide),hk]
    |some f=>
     show(if(f:Int)<0 then _ else _)=some (cd (((min f k:Nat):Int),_))
     rw [if_neg (by omega)]
     by_cases e:l[i]<(f:Int)
     ·rw [show(if l[i]<ixI (some f)then some (cd (l[i],((i+1:Nat):Int)))else some (cd (ixI (some f),((i+1:Nat):Int))):Option ((Int×Int)⊕Int))=some (cd (l[i],((i+1:Nat):Int)))from if_pos e,hk,show min f k=k by omega]
     ·rw [show(if l[i]<ixI (some f)then some (cd (l[i],((i+1:Nat):Int)))else some (cd (ixI (some f),((i+1:Nat):Int))):Option ((Int×Int)⊕Int))=some (cd ((f:Int),((i+1:Nat):Int)))from if_neg e,show min f k=f by omega]
 ·simp only [DY];rw [if_neg (BB _),kv];rfl
def fH(E:Ay)(t:Int)(l:AP):Bool:=
 if t=1 then decide (0≤QP l)else if t=2 then !(Aj E.length fun u=>(Aj (E.length-u) (PK E l u)).isSome).isSome else decide l.Nodup
theorem A0s(E:Ay)(ids ins:AP)(t:Int)(l:AP)(h:IL E ids ins=true)(hl:l.length=E.length)(hx:ql l):OE E ids ins t l=some (fH E t l):=by
 obtain⟨hE,hE1,hd,_⟩:=MJ h;unfold OE fH;by_cases t1:t=1
 ·rw [if_pos t1,if_pos t1,iR l hx (by omega),Cn]
 ·rw [if_neg t1,if_neg t1];unfold M8;rw [if_neg t1];by_cases t2:t=2
  ·obtain⟨a,b,e⟩:=ul E ids ins l hE hd hl;rw [if_pos t2,if_pos t2,e,Cn,Cn]
  ·obtain⟨a,b,e⟩:=um l (by omega)
   rw [if_neg t2,if_neg t2,e,Cn,Cn]
   congr 1
   by_cases hn:l.Nodup<;>simp [hn]
theorem AAk{E:Ay}{ids ins:AP}(h:IL E ids ins=true):K5 E ins:=by
 obtain⟨hE,hE1,hd,hp⟩:=MJ h
 refine⟨hE1,hE, ?_,hd,fun v i hv hi=> ?_⟩
 ·unfold IL at h;simp only [FU,decide_eq_true_eq]at h;omega
 ·obtain⟨w,p,e1,_,hw,_⟩:=hp v i hv hi;unfold SV;rw [e1]
  exact⟨by omega,by simpa using hw⟩

theorem Oi{n u:Nat}{P:Nat→Bool}(hu:u≤n)(h: ∀i,i<u→P i=false):Aj n P=(Aj (n-u) (fun i=>P (u+i))).map (u+ ·):=by
 cases hf:Aj (n-u) (fun i=>P (u+i))with
 |some i=>
  obtain⟨h1,h2⟩:=Cu hf;have h3:=LK hf;refine Ig (show u+i<n by omega) h2 (fun j hj=> ?_)
  change j<u+i at hj
  by_cases e:j<u
  ·exact h j e
  ·have:=h3 (j-u) (by omega)
   rwa [show u+(j-u)=j by omega]at this
 |none=>
  have hno:=Ih hf;refine I6 (fun j hj=> ?_);by_cases e:j<u
  ·exact h j e
  ·have:=hno (j-u) (by omega)
   rwa [show u+(j-u)=j by omega]at this
def MK(E:Ay)(t:Int)(l:AP)(u:Nat):Option Nat:=Aj E.length (fun v=>Lc E t l (u:Int) (v:Int))
def RF(E:Ay)(t:Int)(l:AP):Option Nat:=Aj E.length (fun u=>(MK E t l u).isSome)
def kw(o:Option Nat):Int:=match o with|some v=>(v:Int)|none=>0
theorem Sy{n u:Nat}(h:u<n):I9 (u:Int) 0 ((n:Int)-1)=true:=J6.2 (by omega)
theorem AAl(E:Ay)(l:AP)(u:Nat)(hu:u<E.length):MK E 2 l u=(Aj (E.length-u) (PK E l u)).map (u+ ·):=by
 have key: ∀v,v<E.length→Lc E 2 l (u:Int) (v:Int)=(decide (l.getD u bj=l.getD v bj)&&(decide (u≤v)&&((E.getD u bj).map (·.1)).contains (v:Int))):=fun v hv=>by
  unfold Lc;rw [if_neg (by decide),Sy hu,Sy hv,if_pos rfl,Ju,Ju]
  simp only [K3];rw [show decide ((u:Int)≤(v:Int))=decide (u≤v) by rw [QT,decide_eq_true_eq,decide_eq_true_eq];omega]
 unfold MK;rw [Oi (u:=u) (by omega) (fun i hi=>by rw [key i (by omega),decide_eq_false (show ¬u≤i by omega)];simp)]
 congr 1
 refine EA fun i hi=> ?_;rw [key (u+i) (by omega),decide_eq_true (show u≤u+i by omega),Ju]
 unfold PK;rw [Bool.and_comm]
theorem AGq(E:Ay)(l:AP)(u:Nat)(hu:u<E.length):MK E 3 l u=(Aj (E.length-(u+1)) (fun i=>decide (l.getD u bj=l.getD (u+1+i) bj))).map (u+1+ ·):=by
 have key: ∀v,v<E.length→Lc E 3 l (u:Int) (v:Int)=(decide (l.getD u bj=l.getD v bj)&&decide (u<v)):=fun v hv=>by
  unfold Lc;rw [if_neg (by decide),Sy hu,Sy hv,if_neg (by decide),Ju,Ju]
  simp only [K3];rw [show decide ((u:Int)<(v:Int))=decide (u<v) by rw [QT,decide_eq_true_eq,decide_eq_true_eq];omega]
 unfold MK;rw [Oi (u:=u+1) (by omega) (fun i hi=>by rw [key i (by omega),decide_eq_false (show ¬u<i by omega)];simp)]
 congr 1
 refine EA fun i hi=> ?_;rw [key (u+1+i) (by omega),decide_eq_true (show u<u+1+i by omega),TC]
theorem A3m{E:Ay}{ids ins:AP}(h:IL E ids ins=true)(t:Int)(T:Int)(l:AP)(hl:l.length=E.length)(hx: ∀x∈l,0≤x)(u:Nat):Hd E ids ins t (T,l) (u:Int) 0=some (match MK E t l u with|some v=> .inl (v:Int)|none=> .inr ()):=by
 have h40:=(MJ h).1;have key:=Hf (fun w=>EG E ids ins t (T,l) (u:Int) w) (fun i=>(i:Int)) E.length (fun v=>Lc E t l (u:Int) (v:Int)) (fun v=> .inl (v:Int)) (.inr ()) (fun v hv=> ?_) ?_
 ·unfold Hd;exact key
 ·simp only [EG];rw [if_pos (by omega),uo h t l _ _ hl hx,Cn,KO v (by omega)]
 ·simp only [EG];rw [if_neg (by omega)]
theorem AAm{E:Ay}{ids ins:AP}(h:IL E ids ins=true)(t:Int)(T:Int)(l:AP)(hl:l.length=E.length)(hx: ∀x∈l,0≤x):He E ids ins t (T,l) 0=some (match RF E t l with|some u=> .inl ((u:Int),kw (MK E t l u))|none=> .inr ()):=by
 have h40:=(MJ h).1;have key:=Hf (fun w=>EH E ids ins t (T,l) w) (fun i=>(i:Int)) E.length (fun u=>(MK E t l u).isSome) (fun u=> .inl ((u:Int),kw (MK E t l u))) (.inr ()) (fun u hu=> ?_) ?_
 ·unfold He;exact key
 ·simp only [EH];rw [if_pos (by omega),A3m h t T l hl hx u,Cn,KO u (by omega)]
  cases MK E t l u<;>rfl
 ·simp only [EH];rw [if_neg (by omega)]
theorem qc(E:Ay)(ids ins l:AP)(hE:E.length≤40)(hd: ∀v,v<E.length→(E.getD v bj).length≤6)(hl:l.length=E.length):
  Ji E ids ins l=some (match RF E 2 l with|some u=>((u:Int),kw (MK E 2 l u),true)|none=>(0,0,false)):=by
 have inner: ∀u:Nat,u<E.length→H7 E ids ins l (u:Int) ((E.getD u bj).map (·.1)) (u:Int)=some (match Aj (E.length-u) (PK E l u)with|some i=> .inl (((u+i:Nat):Int))|none=> .inr ()):=by
  intro u hu;have hdu:=hd u hu;have key:=Hf (fun v=>DU E ids ins l (u:Int) ((E.getD u bj).map (·.1)) v) (fun i=>((u+i:Nat):Int)) (E.length-u) (PK E l u) (fun i=> .inl (((u+i:Nat):Int))) (.inr ()) ?_ ?_
  ·unfold H7;rw [cq]at key;exact key
  ·intro i hi;simp only [DU,K3];rw [if_pos (Bb (by omega)),Bq (by rw [XA];omega),KO (u+i) (by omega)]
   unfold PK
   cases hc:((E.getD u bj).map (·.1)).contains (((u+i:Nat):Int))with
   |false=>rfl
   |true=>
    rw [if_pos rfl,Bq (by omega),Bq (by omega),Ju]
    by_cases e:l.getD u bj=l.getD (u+i) bj
    ·rw [if_pos e,decide_eq_true e];rfl
    ·rw [if_neg e,decide_eq_false e];rfl
  ·simp only [DU];rw [if_neg (by omega)]
 have key:=Hf (fun v=>DV E ids ins l v) (fun i=>(i:Int)) E.length (fun u=>(MK E 2 l u).isSome) (fun u=> .inl ((u:Int),kw (MK E 2 l u))) (.inr ()) ?_ ?_
 ·unfold Ji Jh;rw [LQ]at key;rw [key];unfold RF
  cases Aj E.length (fun u=>(MK E 2 l u).isSome)<;>rfl
 ·intro u hu;simp only [DV];rw [if_pos (Bb hu),iG E ids ins u hu (hd u hu),Cn,inner u hu,Cn,KO u (by omega),AAl E l u hu]
  cases Aj (E.length-u) (PK E l u)<;>rfl
 ·simp only [DV];rw [if_neg (BB _)]
theorem ah(E:Ay)(l:AP)(hE:E.length≤40)(hl:l.length=E.length):Jk l=some (match RF E 3 l with|some u=>((u:Int),kw (MK E 3 l u),true)|none=>(0,0,false)):=by
 have inner: ∀u:Nat,u<l.length→H8 l (u:Int) (((u+1:Nat):Int))=some (match Aj (l.length-(u+1)) (fun i=>decide (l.getD u bj=l.getD (u+1+i) bj))with|some i=> .inl (((u+1+i:Nat):Int))|none=> .inr ()):=by
  intro u hu;have key:=Hf (fun v=>DW l (u:Int) v) (fun i=>((u+1+i:Nat):Int)) (l.length-(u+1)) (fun i=>decide (l.getD u bj=l.getD (u+1+i) bj)) (fun i=> .inl (((u+1+i:Nat):Int))) (.inr ()) ?_ ?_
  ·unfold H8;rw [cq]at key;exact key
  ·intro i hi;simp only [DW,K3];rw [if_pos (Bb (by omega)),Bq (by omega),Bq (by omega),KO (u+1+i) (by omega)]
   by_cases e:l.getD u bj=l.getD (u+1+i) bj
   ·rw [if_pos e,decide_eq_true e];rfl
   ·rw [if_neg e,decide_eq_false e];rfl
  ·simp only [DW];rw [if_neg (by omega)]
 have key:=Hf (fun v=>DX l v) (fun i=>(i:Int)) E.length (fun u=>(MK E 3 l u).isSome) (fun u=> .inl ((u:Int),kw (MK E 3 l u))) (.inr ()) ?_ ?_
 ·unfold Jk Jj;rw [LQ]at key;rw [key];unfold RF
  cases Aj E.length (fun u=>(MK E 3 l u).isSome)<;>rfl
 ·intro u hu;simp only [DX];rw [if_pos (by omega),KO u (by omega),inner u (by omega),Cn,AGq E l u hu,hl]
  cases Aj (E.length-(u+1)) (fun i=>decide (l.getD u bj=l.getD (u+1+i) bj))<;>rfl
 ·simp only [DX];rw [if_neg (by omega)]
theorem Yh(E:Ay)(ids ins:AP)(t:Int)(hE:C9 E)(h1:ids.length<1099511627776)(h2:ins.length<1099511627776):
  ∃t' l u v b,Jr E ids ins t=some (t',l,u,v,b)∧Jq E ids ins t=some (t',l,u,v,b)∧l.length≤40:=by
 unfold Jr Jq QJ QI;rw [Bq hE,Bq h1,Bq h2,Bq hE,Bq h1,Bq h2];by_cases h:IL E ids ins=true
 ·by_cases q1:I9 t 1 3=true
  ·have hN:=AAk h;obtain⟨hE40,hE1,hd,_⟩:=MJ h;obtain⟨T,hT,e1,e2,_⟩:=ae hN ids;have hl:=JW E ins T;have hs:=Yg hN T;have hx: ∀x∈PL E ins T,0≤x:=fun x hm=>(hs x hm).1;have htt:=J6.1 q1;simp only [if_pos h,if_pos q1,Cn,e1,e2,A0s E ids ins t _ h hl hs,AAm h t T _ hl hx];generalize PL E ins T=l at hl hs hx ⊢;have hlen:l.length≤40:=by omega
   by_cases t1:t=1
   ·subst t1
    have ho:QP l=oT l l.length:=by
     have a:=iR l hs (by omega)
     have b:=qN l (by omega)
     rw [a]at b;injection b
    have hr: ∀u v:Nat,Lc E 1 l (u:Int) (v:Int)=(decide (QP l<0)&&(decide (u=0)&&decide (v=0))):=fun u v=>by
     unfold Lc;rw [if_pos rfl,ho]
     rw [show decide ((u:Int)=0)=decide (u=0) by rw [QT,decide_eq_true_eq,decide_eq_true_eq];omega,
      show decide ((v:Int)=0)=decide (v=0) by rw [QT,decide_eq_true_eq,decide_eq_true_eq];omega]
    have hcan:fH E 1 l=decide (0≤QP l):=by unfold fH;rw [if_pos rfl]
    rw [hcan];by_cases c:0≤QP l
    ·have hrow: ∀u,MK E 1 l u=none:=fun u=>I6 fun v _=>by rw [hr,decide_eq_false (show ¬QP l<0 by omega)];rfl
     have hcol:RF E 1 l=none:=I6 fun u _=>by rw [hrow];rfl
     rw [if_pos (decide_eq_true c),hcol]
     exact⟨_,_,_,_,_,rfl,rfl,by simp⟩
    ·have hrow:MK E 1 l 0=some 0:=Ig (by omega) (by rw [hr,decide_eq_true (show QP l<0 by omega)];rfl) (fun i hi=>by omega)
     have hcol:RF E 1 l=some 0:=Ig (by omega) (by rw [hrow];rfl) (fun i hi=>by omega)
     rw [if_neg (by rw [decide_eq_false c];decide),if_neg (by decide),if_neg (by decide),hcol]
     simp only [hrow]
     exact⟨_,_,_,_,_,rfl,rfl,hlen⟩
   ·by_cases t2:t=2
    ·subst t2
     have hcan:fH E 2 l= !(RF E 2 l).isSome:=by
      unfold fH RF;rw [if_neg (by decide),if_pos rfl]
      refine congrArg (fun o:Option Nat=> !o.isSome) (EA fun u hu=> ?_);rw [AAl E l u hu,Option.isSome_map]
     rw [hcan,qc E ids ins l hE40 hd hl]
     cases hc:RF E 2 l with
     |none=>exact⟨_,_,_,_,_,rfl,rfl,by simp⟩
     |some u=>exact⟨_,_,_,_,_,rfl,rfl,hlen⟩
    ·have t3:t=3:=by omega
     subst t3
     have hcan:fH E 3 l= !(RF E 3 l).isSome:=by
      have a:=A0s E ids ins 3 l h hl hs;unfold OE M8 at a;rw [if_neg (by decide),if_neg (by decide),if_neg (by decide),ah E l hE40 hl,Cn,Cn]at a
      have a:=Option.some.inj a;rw [←a]
      cases RF E 3 l<;>rfl
     rw [hcan,ah E l hE40 hl]
     cases hc:RF E 3 l with
     |none=>exact⟨_,_,_,_,_,rfl,rfl,by simp⟩
     |some u=>exact⟨_,_,_,_,_,rfl,rfl,hlen⟩
  ·simp only [if_pos h,if_neg q1,Cn];exact⟨_,_,_,_,_,rfl,rfl,by simp⟩
 ·simp only [if_neg h];exact⟨_,_,_,_,_,rfl,rfl,by simp⟩
theorem ky(E:Ay)(ids ins:AP)(t:Int)(hE:Od E)(hids:ids.length<9223372036854775808)(hins:ins.length<9223372036854775808):Fw E ids ins t=some true:=by
 unfold Fw;rw [Bq hE,Bq hids,Bq hins,Bq (by omega)]
 by_cases q1:qi 1048576 E ids ins<0
 ·rw [if_pos q1]
 ·obtain⟨g1,sE,g2⟩:=uA (by omega) q1
  have tE:=Gx (fE E);have h1:ids.length<1099511627776:=by omega
  have h2:ins.length<1099511627776:=by omega
  obtain⟨t',l,u,v,b,hS,hI,hl⟩:=Yh E ids ins t sE h1 h2;have c1:l.length<1099511627776:=by omega
  have c2:(0:Int)≤1∧(1:Int)+2*FV (fE E)+ids.length+ins.length<1099511627776:=by omega
  have c5: ¬(1:Int)+2*FV (fE E)+ids.length+ins.length<0:=by omega
  have c6:(0:Int)≤1∧(1:Int)<1099511627776:=by omega
  have c7:(upto (1:Int) l.length).length<1099511627776:=by rw [M7];omega
  have c8:(0:Int)≤1∧(1:Int)+(upto (1:Int) l.length).length<1099511627776:=by rw [M7];omega
  have c9: ¬(1:Int)+(l.length:Int)<0:=by omega
  rw [if_neg q1,Bq sE,Bq h1,Bq h2];unfold LJ IW IX;simp only [hS,hI,Cn,Bq c1,decide_true,if_true,eP,Bq c2,if_neg c5,Bq c6,Bq c7,Bq c8,kQ,if_neg c9]
  cases b<;>rfl
theorem kz(ds:List D)(h:A19 Ag [41,3] ds):Y.call 8 ds []=some (.bool true,[]):=by
 rcases ds with _|⟨x,_|⟨y,_|⟨_,_⟩⟩⟩
 ·cases h
 ·exact h.2.elim
 ·obtain⟨E,ids,ins,rfl,hE,hids,hins⟩:=dY A2S A2R oU oV ty3 A2O h.1;obtain⟨t,rfl,_⟩:=A2E ty3 h.2.1;exact MI E ids ins t (ky E ids ins t (pO hE) (Nat.lt_of_le_of_lt hids.1 (by decide)) (Nat.lt_of_le_of_lt hins.1 (by decide)))
 ·exact h.2.2.elim
end Go.Proofs.Ytclkfhhdikfcpaa
end
