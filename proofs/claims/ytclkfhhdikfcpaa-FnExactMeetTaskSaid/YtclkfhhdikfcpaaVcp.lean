/- Functions of the program as plain functions, and what they compute. Conditions: those in each lemma. -/
import Derived.Test.YtclkfhhdikfcpaaL6
import Derived.Test.YtclkfhhdikfcpaaMtA
import Derived.Test.YtclkfhhdikfcpaaNet
import Derived.Test.YtclkfhhdikfcpaaDt
open Dv.D renaming int → bd,sl → b7,own → b9,box → cf,bool → ca
open Nat renaming reduceEqDiff → bh,reduceLT → bj,reduceLeDiff → bk,reduceAdd → bl,reduceMul → bm,reduceMod → bo,reduceDiv → bp,reducePow → br,reduceSub → bt,reduceBEq → bw
open Int renaming reduceLE → bx,reduceLT → bO,reduceEq → b0,reduceSub → b3,reduceAdd → b4,reduceToNat → b5,reduceNeg → b6
open Inhabited renaming default → be
open Go.IntKind renaming i64 → cd
open Sum renaming inl → cc,inr → b8
open Go.ResultVar renaming tmp → cb
open List renaming replicate → ao,set_append_right → cg,find?_eq_none → cj
noncomputable section
namespace Go.Proofs.Ytclkfhhdikfcpaa
open Go Dv
set_option linter.unusedSimpArgs false
set_option linter.unusedVariables false
set_option maxRecDepth 100000
set_option maxHeartbeats 4000000
def Cf(A8:Aq)(AL:AO)(AA:AO)(Jm:List (AO×Int))(Ka:AO)(BR:Int)(JN:Int):Option ((Int)⊕(Unit)):= if JN<((A8.getD BR.toNat be).length:Int)then ck (0≤JN∧JN.toNat<(A8.getD BR.toNat be).length)<| some (cc (cd.wrap (JN+1))) else some (b8 ())
def Dq(A8:Aq)(AL:AO)(AA:AO)(Jm:List (AO×Int))(Ka:AO)(BR:Int)(v:Int):Option (Unit):=Iy (fun v=>Cf A8 AL AA Jm Ka BR v) v
def Cg(A8:Aq)(AL:AO)(AA:AO)(Jm:List (AO×Int))(Ka:AO)(BR:Int):Option (((List (AO×Int))×AO×Int)⊕(AO)):= if BR<(A8.length:Int)then ck (0≤BR∧BR.toNat<A8.length)<| ck (0≤BR∧BR.toNat<AA.length)<| (Dq A8 AL AA Jm Ka BR 0).bind fun AX=> if((JJ Jm [((A8.getD BR.toNat be).length:Int),(AA.getD BR.toNat be),0,0,0,0,0,0,0,0,0,0,0,0]).2)=true then ck (0≤BR∧BR.toNat<Ka.length)<| some (cc (Jm,(Ka.set BR.toNat ((JJ Jm [((A8.getD BR.toNat be).length:Int),(AA.getD BR.toNat be),0,0,0,0,0,0,0,0,0,0,0,0]).1)),cd.wrap (BR+1))) else ck (0≤BR∧BR.toNat<Ka.length)<| some (cc ((UD Jm [((A8.getD BR.toNat be).length:Int),(AA.getD BR.toNat be),0,0,0,0,0,0,0,0,0,0,0,0] (Jm.length:Int)),(Ka.set BR.toNat (Jm.length:Int)),cd.wrap (BR+1))) else some (b8 Ka)
def Dr(A8:Aq)(AL:AO)(AA:AO)(v:(List (AO×Int))×AO×Int):Option (AO):=Iy (fun v=>Cg A8 AL AA v.1 v.2.1 v.2.2) v
def F4(A8:Aq)(AL:AO)(AA:AO):Option (AO):= ck (0≤(A8.length:Int)∧(A8.length:Int)<1099511627776)<| (Dr A8 AL AA (([]:List (AO×Int)),(ao A8.length 0),0)).bind fun Ce=> some Ce
abbrev IW:List Nat:=[44,45,46,47,48,49,50,51,52,53,54,55,56,57,57,51,9,58,58,56,9]
def R7:SC:= .seq (.ops [oB 38 .lss 3 (tK 37) (tK 36) 3 0]) (.seq (.cond (tK 38) .skip (.exit 2)) (.seq (.block 3 (.seq (.ops [oM 39 37 3,oI 40 123 35 37,oL 41 125 40 125,oX 11 (.alloc 125) 0,oA 10 39 3,oS 125 11 41]) (.seq (.ops [oM 42 1 26,oB 43 .neq 26 (tK 42) (.const (.slice none 0 0)) 26 4]) (.cond (tK 43) (.draws [(⟨[44,10,10],IW,[44]⟩,oM 44 10 3),(⟨[45,44,10],IW,[45]⟩,oB 45 .mul 3 (iK 2) (tK 44) 3 3),(⟨[46,45,45],IW,[46]⟩,oB 46 .add 3 (iK 2) (tK 45) 3 3),(⟨[47,10,10],IW,[47]⟩,oM 47 10 3),(⟨[48,47,10],IW,[48]⟩,oB 48 .mul 3 (iK 2) (tK 47) 3 3),(⟨[49,48,48],IW,[49]⟩,oB 49 .add 3 (iK 3) (tK 48) 3 3),(⟨[50,11,11],IW,[50]⟩,oF 50 125 11 1),(⟨[51,50,11],IW,[51]⟩,oL 51 3 50 3),(⟨[52,1,1],IW,[52]⟩,oM 52 1 26),(⟨[53,11,11],IW,[53]⟩,oF 53 125 11 0),(⟨[54,53,11],IW,[54]⟩,oL 54 3 53 3),(⟨[55,52,54,1,11],IW,[55]⟩,oI 55 26 52 54),(⟨[56,55,1],IW,[56]⟩,oL 56 3 55 3),(⟨[57,9,46,9,46],IW,[57]⟩,oI 57 164 9 46),(⟨[57,51,9,11],IW,[57,51,9]⟩,oS 3 57 51),(⟨[58,9,49,9,49],IW,[58]⟩,oI 58 164 9 49),(⟨[58,56,9,1],IW,[58,56,9]⟩,oS 3 58 56)]) .skip)))) (.ops [oB 59 .add 3 (tK 37) (iK 1) 3 3,oM 37 59 3])))
def aZ:SC:= .loop R7
def R8:SC:= .seq (.ops [oB 23 .lss 3 (tK 22) (tK 21) 3 0]) (.seq (.cond (tK 23) .skip (.exit 0)) (.seq (.block 1 (.seq (.ops [oM 24 22 3,oI 25 45 20 22,oL 26 123 25 123,oA 7 24 3,oA 8 26 123]) (.seq (.ops [oM 27 8 123,oN 28 27 123,oF 29 47 2 2,oL 30 26 29 26,oM 31 7 3,oI 32 26 30 31,oL 33 3 32 3,oX 34 (.build 164 #[(0,(tK 28)),(1,(tK 33))]) 164,oX 9 (.alloc 164) 0,oS 164 9 34]) (.seq (.seq (.ops [oM 35 8 123,oN 36 35 123,oX 37 (.move (iK 0)) 3]) (.block 2 aZ)) (.seq (.ops [oM 61 5 162,oL 62 164 9 164,oX 63 (.lookup 162 (tK 61) (tK 62) true) 51,oM 60 63 51,oE 64 60 0 3,oE 65 60 1 4,oA 12 64 3,oA 13 65 4]) (.seq (.seq (.ops [oM 66 13 4,oX 67 (.unOp .not 4 (tK 66)) 4]) (.cond (tK 67) (.seq (.ops [oM 68 5 162,oN 69 68 162,oA 12 69 3]) (.ops [oM 70 5 162,oL 71 164 9 164,oM 72 12 3,⟨none,(.mapUpdate 162 (tK 70) (tK 71) (tK 72)),0,none⟩])) .skip)) (.ops [oM 73 6 26,oM 74 7 3,oM 75 12 3,oI 76 26 73 74,oS 3 76 75]))))))) (.ops [oB 77 .add 3 (tK 22) (iK 1) 3 3,oM 22 77 3])))
def aa:SC:= .loop R8
def pq:SC:= .seq (.ops [oX 2 (.box 47 (tK 0)) 0,oX 4 Kz 26]) (.seq (.ops [oX 14 (.makeMap 162 none) 162,oA 5 14 162]) (.seq (.ops [oF 15 47 2 0,oL 16 45 15 45,oN 17 16 45,oX 18 (.makeSlice 26 (tK 17) (tK 17)) 26,oA 6 18 26]) (.seq (.seq (.ops [oF 19 47 2 0,oL 20 45 19 45,oN 21 20 45,oX 22 (.move (iK 0)) 3]) (.block 0 aa)) (.seq (.ops [oM 78 6 26,oA 4 78 26]) .ret))))
theorem pu:Try.f125.body.map (Bc lends)=some pq:=by kernel_rfl
theorem A3F:Bn Try.f125 2=true:=by kernel_rfl
theorem AAD{a l:List D}{r:D×List D}(h:Bq Y.env pq (F9 Ab l.length [cb 4] r) (entry a l))(ha:a.length=2):Y.call 125 a l=some r:=
 Aa (Y:=Y) rfl Try.func125 (ha▸A3F) pu h
def Ch(A8:Aq)(AL:AO)(AA:AO)(Jm:List (AO×Int))(Ka:AO)(BR:Int)(JN:Int)(s:St):Prop:=s.v 1=D.konst (.slice none 0 0)∧s.v 2=cf [b7 123 (AR (fun x=>b7 125 (Ay .i64 .i64 x)) A8),b7 3 (AR (bd .i64) AL),b7 3 (AR (bd .i64) AA)]∧s.v 5=D.mp 164 3 (Q7 Jm)∧s.v 6=b9 3 (AR (bd .i64) Ka)∧s.v 7=bd .i64 BR∧s.v 9=cf [bd .i64 ((A8.getD BR.toNat be).length:Int),bd .i64 (AA.getD BR.toNat be),bd .i64 0,bd .i64 0,bd .i64 0,bd .i64 0,bd .i64 0,bd .i64 0,bd .i64 0,bd .i64 0,bd .i64 0,bd .i64 0,bd .i64 0,bd .i64 0]∧s.v 20=b7 123 (AR (fun x=>b7 125 (Ay .i64 .i64 x)) A8)∧s.v 21=bd .i64 (A8.length:Int)∧s.v 22=bd .i64 BR∧s.v 35=b7 125 (Ay .i64 .i64 (A8.getD BR.toNat be))∧s.v 36=bd .i64 ((A8.getD BR.toNat be).length:Int)∧s.v 37=bd .i64 JN
def DJ(A8:Aq)(AL:AO)(AA:AO)(Jm:List (AO×Int))(Ka:AO)(BR:Int)(r:Unit)(ex:Ex)(s:St):Prop:=ex= .exit 2∧s.v 1=D.konst (.slice none 0 0)∧s.v 2=cf [b7 123 (AR (fun x=>b7 125 (Ay .i64 .i64 x)) A8),b7 3 (AR (bd .i64) AL),b7 3 (AR (bd .i64) AA)]∧s.v 5=D.mp 164 3 (Q7 Jm)∧s.v 6=b9 3 (AR (bd .i64) Ka)∧s.v 7=bd .i64 BR∧s.v 9=cf [bd .i64 ((A8.getD BR.toNat be).length:Int),bd .i64 (AA.getD BR.toNat be),bd .i64 0,bd .i64 0,bd .i64 0,bd .i64 0,bd .i64 0,bd .i64 0,bd .i64 0,bd .i64 0,bd .i64 0,bd .i64 0,bd .i64 0,bd .i64 0]∧s.v 20=b7 123 (AR (fun x=>b7 125 (Ay .i64 .i64 x)) A8)∧s.v 21=bd .i64 (A8.length:Int)∧s.v 22=bd .i64 BR
theorem MJ(A8:Aq)(AL:AO)(AA:AO)(Jm:List (AO×Int))(Ka:AO)(BR:Int){v:Int}{s:St}{r:Unit}(h:Dq A8 AL AA Jm Ka BR v=some r)(hM:Ch A8 AL AA Jm Ka BR v s):Bq Y.env aZ (DJ A8 AL AA Jm Ka BR r) s:=by
 unfold Dq at h;refine BV (c:=R7) (fun v=>Cf A8 AL AA Jm Ka BR v) (fun v s=>Ch A8 AL AA Jm Ka BR v s) (DJ A8 AL AA Jm Ka BR) ?_ h hM;clear h hM s v r;intro JN s o hM h;unfold Cf at h;unfold Ch at hM;obtain⟨m0,m1,m2,m3,m4,m5,m6,m7,m8,m9,m10,m11⟩:=hM;unfold R7;by_cases e5:JN<((A8.getD BR.toNat be).length:Int)
 ·rw [if_pos e5]at h;obtain⟨e6,h⟩:=BS h
  obtain rfl:=Option.some.inj h
  simp (maxDischargeDepth:=9) only [↓AP,AQ,Ae,↓reduceIte,bh,bj,bk,bl,bm,bo,bp,br,bt,bw,bx,bO,b0,b3,b4,b5,b6,m0,m1,m2,m3,m4,m5,m6,m7,m8,m9,m10,m11,e5,e6.1,e6.2,Ch,DJ,CU,CV,CW]<;>(repeat' apply A7)<;>first|rfl|exact⟨_,rfl⟩|exact⟨_,_,rfl⟩|simp [AR,A9]
 ·rw [if_neg e5]at h
  obtain rfl:=Option.some.inj h
  simp (maxDischargeDepth:=9) only [↓AP,AQ,Ae,↓reduceIte,bh,bj,bk,bl,bm,bo,bp,br,bt,bw,bx,bO,b0,b3,b4,b5,b6,m0,m1,m2,m3,m4,m5,m6,m7,m8,m9,m10,m11,e5,Ch,DJ,CU,CV,CW]<;>(repeat' apply A7)<;>first|rfl|exact⟨_,rfl⟩|exact⟨_,_,rfl⟩|simp [AR,A9]
def CE(A8:Aq)(AL:AO)(AA:AO)(Jm:List (AO×Int))(Ka:AO)(BR:Int)(s:St):Prop:=s.v 1=D.konst (.slice none 0 0)∧s.v 2=cf [b7 123 (AR (fun x=>b7 125 (Ay .i64 .i64 x)) A8),b7 3 (AR (bd .i64) AL),b7 3 (AR (bd .i64) AA)]∧s.v 5=D.mp 164 3 (Q7 Jm)∧s.v 6=b9 3 (AR (bd .i64) Ka)∧s.v 20=b7 123 (AR (fun x=>b7 125 (Ay .i64 .i64 x)) A8)∧s.v 21=bd .i64 (A8.length:Int)∧s.v 22=bd .i64 BR
def Ci(A8:Aq)(AL:AO)(AA:AO)(r:AO)(ex:Ex)(s:St):Prop:=ex= .exit 0∧s.v 6=b9 3 (AR (bd .i64) r)
theorem MK(A8:Aq)(AL:AO)(AA:AO){v:(List (AO×Int))×AO×Int}{s:St}{r:AO}(h:Dr A8 AL AA v=some r)(hM:CE A8 AL AA v.1 v.2.1 v.2.2 s):Bq Y.env aa (Ci A8 AL AA r) s:=by
 unfold Dr at h;refine BV (c:=R8) (fun v=>Cg A8 AL AA v.1 v.2.1 v.2.2) (fun v s=>CE A8 AL AA v.1 v.2.1 v.2.2 s) (Ci A8 AL AA) ?_ h hM;clear h hM s v r;intro v s o hM h;obtain⟨Jm,Ka,BR⟩:=v;dsimp only at h hM;unfold Cg at h;unfold CE at hM;obtain⟨m0,m1,m2,m3,m4,m5,m6⟩:=hM;unfold R8;by_cases e2:BR<(A8.length:Int)
 ·rw [if_pos e2]at h;obtain⟨e3,h⟩:=BS h;obtain⟨e4,h⟩:=BS h;obtain⟨AX,hl6,h⟩:=Av h;try dsimp only at h
  simp (maxDischargeDepth:=9) only [↓AP,AQ,Ae,↓reduceIte,bh,bj,bk,bl,bm,bo,bp,br,bt,bw,bx,bO,b0,b3,b4,b5,b6,m0,m1,m2,m3,m4,m5,m6,e2,e3.1,e3.2,e4.1,e4.2];refine BB (MJ A8 AL AA Jm Ka BR hl6 ?_) ?_
  ·simp (maxDischargeDepth:=9) only [↓AP,AQ,Ae,↓reduceIte,bh,bj,bk,bl,bm,bo,bp,br,bt,bw,bx,bO,b0,b3,b4,b5,b6,m0,m1,m2,m3,m4,m5,m6,e2,e3.1,e3.2,e4.1,e4.2,Ch]<;>(repeat' apply A7)<;>first|rfl|exact⟨_,rfl⟩|exact⟨_,_,rfl⟩|simp [AR,A9]
  ·intro ex6 s6 hX6;unfold DJ at hX6;obtain⟨rfl,n6_0,n6_1,n6_2,n6_3,n6_4,n6_5,n6_6,n6_7,n6_8⟩:=hX6;by_cases e7:((JJ Jm [((A8.getD BR.toNat be).length:Int),(AA.getD BR.toNat be),0,0,0,0,0,0,0,0,0,0,0,0]).2)=true
   ·rw [if_pos e7]at h;obtain⟨e8,h⟩:=BS h
    obtain rfl:=Option.some.inj h
    simp (maxDischargeDepth:=9) only [↓AP,AQ,Ae,↓reduceIte,bh,bj,bk,bl,bm,bo,bp,br,bt,bw,bx,bO,b0,b3,b4,b5,b6,e2,e3.1,e3.2,e4.1,e4.2,n6_0,n6_1,n6_2,n6_3,n6_4,n6_5,n6_6,n6_7,n6_8,e7,e8.1,e8.2,CE,Ci,CU,CV,CW]<;>(repeat' apply A7)<;>first|rfl|exact⟨_,rfl⟩|exact⟨_,_,rfl⟩|simp [AR,A9]
   ·rw [if_neg e7]at h;have e7f:((JJ Jm [((A8.getD BR.toNat be).length:Int),(AA.getD BR.toNat be),0,0,0,0,0,0,0,0,0,0,0,0]).2)=false:=JA.mpr e7;obtain⟨e8,h⟩:=BS h
    obtain rfl:=Option.some.inj h
    simp (maxDischargeDepth:=9) only [↓AP,AQ,Ae,↓reduceIte,bh,bj,bk,bl,bm,bo,bp,br,bt,bw,bx,bO,b0,b3,b4,b5,b6,e2,e3.1,e3.2,e4.1,e4.2,n6_0,n6_1,n6_2,n6_3,n6_4,n6_5,n6_6,n6_7,n6_8,e7f,e8.1,e8.2,CE,Ci,CU,CV,CW]<;>(repeat' apply A7)<;>first|rfl|exact⟨_,rfl⟩|exact⟨_,_,rfl⟩|simp [AR,A9]
 ·rw [if_neg e2]at h
  obtain rfl:=Option.some.inj h
  simp (maxDischargeDepth:=9) only [↓AP,AQ,Ae,↓reduceIte,bh,bj,bk,bl,bm,bo,bp,br,bt,bw,bx,bO,b0,b3,b4,b5,b6,m0,m1,m2,m3,m4,m5,m6,e2,CE,Ci,CU,CV,CW]<;>(repeat' apply A7)<;>first|rfl|exact⟨_,rfl⟩|exact⟨_,_,rfl⟩|simp [AR,A9]
theorem Mx(A8:Aq)(AL:AO)(AA:AO){r:AO}(h:F4 A8 AL AA=some r):Y.call 125 [D.agg [b7 123 (AR (fun x=>b7 125 (Ay .i64 .i64 x)) A8),b7 3 (AR (bd .i64) AL),b7 3 (AR (bd .i64) AA)],D.konst (.slice none 0 0)] []=some (b9 3 (AR (bd .i64) r),[]):=by
 refine AAD ?_ rfl;unfold pq;unfold F4 at h;obtain⟨e1,h⟩:=BS h;obtain⟨Ce,hl3,h⟩:=Av h;try dsimp only at h
 simp (maxDischargeDepth:=9) only [↓AP,AQ,Ae,↓reduceIte,bh,bj,bk,bl,bm,bo,bp,br,bt,bw,bx,bO,b0,b3,b4,b5,b6,e1.1,e1.2];refine BB (MK A8 AL AA hl3 ?_) ?_
 ·simp (maxDischargeDepth:=9) only [↓AP,AQ,Ae,↓reduceIte,bh,bj,bk,bl,bm,bo,bp,br,bt,bw,bx,bO,b0,b3,b4,b5,b6,e1.1,e1.2,CE]<;>(repeat' apply A7)<;>first|rfl|exact⟨_,rfl⟩|exact⟨_,_,rfl⟩|simp [AR,A9]
 ·intro ex3 s3 hX3;unfold Ci at hX3;obtain⟨rfl,n3_0⟩:=hX3
  obtain rfl:=Option.some.inj h
  simp (maxDischargeDepth:=9) only [↓AP,AQ,Ae,↓reduceIte,bh,bj,bk,bl,bm,bo,bp,br,bt,bw,bx,bO,b0,b3,b4,b5,b6,e1.1,e1.2,n3_0]<;>(repeat' apply A7)<;>first|rfl|exact⟨_,rfl⟩|exact⟨_,_,rfl⟩|simp [AR,A9]
def DY(A8:Aq)(AL:AO)(AA:AO)(Ha:AO)(Jm:List (AO×Int))(Ka:AO)(BR:Int)(Hq:AO)(JN:Int):Option ((AO×Int)⊕(AO)):= if JN<((A8.getD BR.toNat be).length:Int)then ck (0≤JN∧JN.toNat<(A8.getD BR.toNat be).length)<| ck (0<Ha.length)<| ck (0≤(BH (A8.getD BR.toNat be) JN.toNat)∧(BH (A8.getD BR.toNat be) JN.toNat).toNat<Ha.length)<| ck (0≤cd.wrap (2+(cd.wrap (2*JN)))∧(cd.wrap (2+(cd.wrap (2*JN)))).toNat<14)<| ck (((cd.wrap (2+(cd.wrap (2*JN)))).toNat)<Hq.length)<| ck (0≤cd.wrap (3+(cd.wrap (2*JN)))∧(cd.wrap (3+(cd.wrap (2*JN)))).toNat<14)<| ck (((cd.wrap (3+(cd.wrap (2*JN)))).toNat)<Hq.length)<| some (cc (((Hq.set ((cd.wrap (2+(cd.wrap (2*JN)))).toNat) (CK (A8.getD BR.toNat be) JN.toNat)).set ((cd.wrap (3+(cd.wrap (2*JN)))).toNat) (Ha.getD ((BH (A8.getD BR.toNat be) JN.toNat).toNat) be)),cd.wrap (JN+1))) else some (b8 Hq)
def ER(A8:Aq)(AL:AO)(AA:AO)(Ha:AO)(Jm:List (AO×Int))(Ka:AO)(BR:Int)(v:AO×Int):Option (AO):=Iy (fun v=>DY A8 AL AA Ha Jm Ka BR v.1 v.2) v
def DZ(A8:Aq)(AL:AO)(AA:AO)(Ha:AO)(Jm:List (AO×Int))(Ka:AO)(BR:Int):Option (((List (AO×Int))×AO×Int)⊕(AO)):= if BR<(A8.length:Int)then ck (0≤BR∧BR.toNat<A8.length)<| ck (0≤BR∧BR.toNat<AA.length)<| (ER A8 AL AA Ha Jm Ka BR ([((A8.getD BR.toNat be).length:Int),(AA.getD BR.toNat be),0,0,0,0,0,0,0,0,0,0,0,0],0)).bind fun AX=> ck (AX.length≤14∧14≤AX.length)<| if((JJ Jm AX).2)=true then ck (0≤BR∧BR.toNat<Ka.length)<| some (cc (Jm,(Ka.set BR.toNat ((JJ Jm AX).1)),cd.wrap (BR+1))) else ck (0≤BR∧BR.toNat<Ka.length)<| some (cc ((UD Jm AX (Jm.length:Int)),(Ka.set BR.toNat (Jm.length:Int)),cd.wrap (BR+1))) else some (b8 Ka)
def Fj(A8:Aq)(AL:AO)(AA:AO)(Ha:AO)(v:(List (AO×Int))×AO×Int):Option (AO):=Iy (fun v=>DZ A8 AL AA Ha v.1 v.2.1 v.2.2) v
def Ip(A8:Aq)(AL:AO)(AA:AO)(Ha:AO):Option (AO):= ck (0≤(A8.length:Int)∧(A8.length:Int)<1099511627776)<| (Fj A8 AL AA Ha (([]:List (AO×Int)),(ao A8.length 0),0)).bind fun Ce=> some Ce
def V9:SC:= .seq (.ops [oB 38 .lss 3 (tK 37) (tK 36) 3 0]) (.seq (.cond (tK 38) .skip (.exit 2)) (.seq (.block 3 (.seq (.ops [oM 39 37 3,oI 40 123 35 37,oL 41 125 40 125,oX 11 (.alloc 125) 0,oA 10 39 3,oS 125 11 41]) (.seq (.ops [oM 42 1 26,oB 43 .neq 26 (tK 42) (.const (.slice none 0 0)) 26 4]) (.cond (tK 43) (.draws [(⟨[44,10,10],IW,[44]⟩,oM 44 10 3),(⟨[45,44,10],IW,[45]⟩,oB 45 .mul 3 (iK 2) (tK 44) 3 3),(⟨[46,45,45],IW,[46]⟩,oB 46 .add 3 (iK 2) (tK 45) 3 3),(⟨[47,10,10],IW,[47]⟩,oM 47 10 3),(⟨[48,47,10],IW,[48]⟩,oB 48 .mul 3 (iK 2) (tK 47) 3 3),(⟨[49,48,48],IW,[49]⟩,oB 49 .add 3 (iK 3) (tK 48) 3 3),(⟨[50,11,11],IW,[50]⟩,oF 50 125 11 1),(⟨[51,50,11],IW,[51]⟩,oL 51 3 50 3),(⟨[52,1,1],IW,[52]⟩,oM 52 1 26),(⟨[53,11,11],IW,[53]⟩,oF 53 125 11 0),(⟨[54,53,11],IW,[54]⟩,oL 54 3 53 3),(⟨[55,52,54,1,11],IW,[55]⟩,oI 55 26 52 54),(⟨[56,55,1],IW,[56]⟩,oL 56 3 55 3),(⟨[57,9,46,9,46],IW,[57]⟩,oI 57 164 9 46),(⟨[57,51,9,11],IW,[57,51,9]⟩,oS 3 57 51),(⟨[58,9,49,9,49],IW,[58]⟩,oI 58 164 9 49),(⟨[58,56,9,1],IW,[58,56,9]⟩,oS 3 58 56)]) .skip)))) (.ops [oB 59 .add 3 (tK 37) (iK 1) 3 3,oM 37 59 3])))
def iJ:SC:= .loop V9
def VA:SC:= .seq (.ops [oB 23 .lss 3 (tK 22) (tK 21) 3 0]) (.seq (.cond (tK 23) .skip (.exit 0)) (.seq (.block 1 (.seq (.ops [oM 24 22 3,oI 25 45 20 22,oL 26 123 25 123,oA 7 24 3,oA 8 26 123]) (.seq (.ops [oM 27 8 123,oN 28 27 123,oF 29 47 2 2,oL 30 26 29 26,oM 31 7 3,oI 32 26 30 31,oL 33 3 32 3,oX 34 (.build 164 #[(0,(tK 28)),(1,(tK 33))]) 164,oX 9 (.alloc 164) 0,oS 164 9 34]) (.seq (.seq (.ops [oM 35 8 123,oN 36 35 123,oX 37 (.move (iK 0)) 3]) (.block 2 iJ)) (.seq (.ops [oM 61 5 162,oL 62 164 9 164,oX 63 (.lookup 162 (tK 61) (tK 62) true) 51,oM 60 63 51,oE 64 60 0 3,oE 65 60 1 4,oA 12 64 3,oA 13 65 4]) (.seq (.seq (.ops [oM 66 13 4,oX 67 (.unOp .not 4 (tK 66)) 4]) (.cond (tK 67) (.seq (.ops [oM 68 5 162,oN 69 68 162,oA 12 69 3]) (.ops [oM 70 5 162,oL 71 164 9 164,oM 72 12 3,⟨none,(.mapUpdate 162 (tK 70) (tK 71) (tK 72)),0,none⟩])) .skip)) (.ops [oM 73 6 26,oM 74 7 3,oM 75 12 3,oI 76 26 73 74,oS 3 76 75]))))))) (.ops [oB 77 .add 3 (tK 22) (iK 1) 3 3,oM 22 77 3])))
def iL:SC:= .loop VA
def A3G:SC:= .seq (.ops [oX 2 (.box 47 (tK 0)) 0,oX 4 Kz 26]) (.seq (.ops [oX 14 (.makeMap 162 none) 162,oA 5 14 162]) (.seq (.ops [oF 15 47 2 0,oL 16 45 15 45,oN 17 16 45,oX 18 (.makeSlice 26 (tK 17) (tK 17)) 26,oA 6 18 26]) (.seq (.seq (.ops [oF 19 47 2 0,oL 20 45 19 45,oN 21 20 45,oX 22 (.move (iK 0)) 3]) (.block 0 iL)) (.seq (.ops [oM 78 6 26,oA 4 78 26]) .ret))))
theorem uN:Try.f125.body.map (Bc lends)=some A3G:=by kernel_rfl
theorem AAE:Bn Try.f125 2=true:=by kernel_rfl
theorem AFh{a l:List D}{r:D×List D}(h:Bq Y.env A3G (F9 Ab l.length [cb 4] r) (entry a l))(ha:a.length=2):Y.call 125 a l=some r:=
 Aa (Y:=Y) rfl Try.func125 (ha▸AAE) uN h
def Da(A8:Aq)(AL:AO)(AA:AO)(Ha:AO)(Jm:List (AO×Int))(Ka:AO)(BR:Int)(Hq:AO)(JN:Int)(s:St):Prop:=s.v 1=b7 3 (AR (bd .i64) Ha)∧s.v 2=cf [b7 123 (AR (fun x=>b7 125 (Ay .i64 .i64 x)) A8),b7 3 (AR (bd .i64) AL),b7 3 (AR (bd .i64) AA)]∧s.v 5=D.mp 164 3 (Q7 Jm)∧s.v 6=b9 3 (AR (bd .i64) Ka)∧s.v 7=bd .i64 BR∧s.v 9=cf (AR (bd .i64) Hq)∧s.v 20=b7 123 (AR (fun x=>b7 125 (Ay .i64 .i64 x)) A8)∧s.v 21=bd .i64 (A8.length:Int)∧s.v 22=bd .i64 BR∧s.v 35=b7 125 (Ay .i64 .i64 (A8.getD BR.toNat be))∧s.v 36=bd .i64 ((A8.getD BR.toNat be).length:Int)∧s.v 37=bd .i64 JN
def Ee(A8:Aq)(AL:AO)(AA:AO)(Ha:AO)(Jm:List (AO×Int))(Ka:AO)(BR:Int)(r:AO)(ex:Ex)(s:St):Prop:=ex= .exit 2∧s.v 1=b7 3 (AR (bd .i64) Ha)∧s.v 2=cf [b7 123 (AR (fun x=>b7 125 (Ay .i64 .i64 x)) A8),b7 3 (AR (bd .i64) AL),b7 3 (AR (bd .i64) AA)]∧s.v 5=D.mp 164 3 (Q7 Jm)∧s.v 6=b9 3 (AR (bd .i64) Ka)∧s.v 7=bd .i64 BR∧s.v 9=cf (AR (bd .i64) r)∧s.v 20=b7 123 (AR (fun x=>b7 125 (Ay .i64 .i64 x)) A8)∧s.v 21=bd .i64 (A8.length:Int)∧s.v 22=bd .i64 BR
theorem Og(A8:Aq)(AL:AO)(AA:AO)(Ha:AO)(Jm:List (AO×Int))(Ka:AO)(BR:Int){v:AO×Int}{s:St}{r:AO}(h:ER A8 AL AA Ha Jm Ka BR v=some r)(hM:Da A8 AL AA Ha Jm Ka BR v.1 v.2 s):Bq Y.env iJ (Ee A8 AL AA Ha Jm Ka BR r) s:=by
 unfold ER at h;refine BV (c:=V9) (fun v=>DY A8 AL AA Ha Jm Ka BR v.1 v.2) (fun v s=>Da A8 AL AA Ha Jm Ka BR v.1 v.2 s) (Ee A8 AL AA Ha Jm Ka BR) ?_ h hM;clear h hM s v r;intro v s o hM h;obtain⟨Hq,JN⟩:=v;dsimp only at h hM;unfold DY at h;unfold Da at hM;obtain⟨m0,m1,m2,m3,m4,m5,m6,m7,m8,m9,m10,m11⟩:=hM;unfold V9;by_cases e5:JN<((A8.getD BR.toNat be).length:Int)
 ·rw [if_pos e5]at h;obtain⟨e6,h⟩:=BS h;obtain⟨e7,h⟩:=BS h;obtain⟨e8,h⟩:=BS h;obtain⟨e9,h⟩:=BS h;obtain⟨e10,h⟩:=BS h;obtain⟨e11,h⟩:=BS h;obtain⟨e12,h⟩:=BS h
  obtain rfl:=Option.some.inj h
  simp (maxDischargeDepth:=9) only [↓AP,AQ,Ae,↓reduceIte,bh,bj,bk,bl,bm,bo,bp,br,bt,bw,bx,bO,b0,b3,b4,b5,b6,m0,m1,m2,m3,m4,m5,m6,m7,m8,m9,m10,m11,e5,e6.1,e6.2,e7,e8.1,e8.2,e9.1,e9.2,e10,e11.1,e11.2,e12,Da,Ee,CU,CV,CW]<;>(repeat' apply A7)<;>first|rfl|exact⟨_,rfl⟩|exact⟨_,_,rfl⟩|simp [AR,A9]
 ·rw [if_neg e5]at h
  obtain rfl:=Option.some.inj h
  simp (maxDischargeDepth:=9) only [↓AP,AQ,Ae,↓reduceIte,bh,bj,bk,bl,bm,bo,bp,br,bt,bw,bx,bO,b0,b3,b4,b5,b6,m0,m1,m2,m3,m4,m5,m6,m7,m8,m9,m10,m11,e5,Da,Ee,CU,CV,CW]<;>(repeat' apply A7)<;>first|rfl|exact⟨_,rfl⟩|exact⟨_,_,rfl⟩|simp [AR,A9]
def Cv(A8:Aq)(AL:AO)(AA:AO)(Ha:AO)(Jm:List (AO×Int))(Ka:AO)(BR:Int)(s:St):Prop:=s.v 1=b7 3 (AR (bd .i64) Ha)∧s.v 2=cf [b7 123 (AR (fun x=>b7 125 (Ay .i64 .i64 x)) A8),b7 3 (AR (bd .i64) AL),b7 3 (AR (bd .i64) AA)]∧s.v 5=D.mp 164 3 (Q7 Jm)∧s.v 6=b9 3 (AR (bd .i64) Ka)∧s.v 20=b7 123 (AR (fun x=>b7 125 (Ay .i64 .i64 x)) A8)∧s.v 21=bd .i64 (A8.length:Int)∧s.v 22=bd .i64 BR
def Db(A8:Aq)(AL:AO)(AA:AO)(Ha:AO)(r:AO)(ex:Ex)(s:St):Prop:=ex= .exit 0∧s.v 6=b9 3 (AR (bd .i64) r)
theorem Oh(A8:Aq)(AL:AO)(AA:AO)(Ha:AO){v:(List (AO×Int))×AO×Int}{s:St}{r:AO}(h:Fj A8 AL AA Ha v=some r)(hM:Cv A8 AL AA Ha v.1 v.2.1 v.2.2 s):Bq Y.env iL (Db A8 AL AA Ha r) s:=by
 unfold Fj at h;refine BV (c:=VA) (fun v=>DZ A8 AL AA Ha v.1 v.2.1 v.2.2) (fun v s=>Cv A8 AL AA Ha v.1 v.2.1 v.2.2 s) (Db A8 AL AA Ha) ?_ h hM;clear h hM s v r;intro v s o hM h;obtain⟨Jm,Ka,BR⟩:=v;dsimp only at h hM;unfold DZ at h;unfold Cv at hM;obtain⟨m0,m1,m2,m3,m4,m5,m6⟩:=hM;unfold VA;by_cases e2:BR<(A8.length:Int)
 ·rw [if_pos e2]at h;obtain⟨e3,h⟩:=BS h;obtain⟨e4,h⟩:=BS h;obtain⟨AX,hl6,h⟩:=Av h;try dsimp only at h
  simp (maxDischargeDepth:=9) only [↓AP,AQ,Ae,↓reduceIte,bh,bj,bk,bl,bm,bo,bp,br,bt,bw,bx,bO,b0,b3,b4,b5,b6,m0,m1,m2,m3,m4,m5,m6,e2,e3.1,e3.2,e4.1,e4.2];refine BB (Og A8 AL AA Ha Jm Ka BR hl6 ?_) ?_
  ·simp (maxDischargeDepth:=9) only [↓AP,AQ,Ae,↓reduceIte,bh,bj,bk,bl,bm,bo,bp,br,bt,bw,bx,bO,b0,b3,b4,b5,b6,m0,m1,m2,m3,m4,m5,m6,e2,e3.1,e3.2,e4.1,e4.2,Da]<;>(repeat' apply A7)<;>first|rfl|exact⟨_,rfl⟩|exact⟨_,_,rfl⟩|simp [AR,A9]
  ·intro ex6 s6 hX6;unfold Ee at hX6;obtain⟨rfl,n6_0,n6_1,n6_2,n6_3,n6_4,n6_5,n6_6,n6_7,n6_8⟩:=hX6;obtain⟨e7,h⟩:=BS h;by_cases e8:((JJ Jm AX).2)=true
   ·rw [if_pos e8]at h;obtain⟨e9,h⟩:=BS h
    obtain rfl:=Option.some.inj h
    simp (maxDischargeDepth:=9) only [↓AP,AQ,Ae,↓reduceIte,bh,bj,bk,bl,bm,bo,bp,br,bt,bw,bx,bO,b0,b3,b4,b5,b6,e2,e3.1,e3.2,e4.1,e4.2,n6_0,n6_1,n6_2,n6_3,n6_4,n6_5,n6_6,n6_7,n6_8,e7.1,e7.2,e8,e9.1,e9.2,Cv,Db,CU,CV,CW]<;>(repeat' apply A7)<;>first|rfl|exact⟨_,rfl⟩|exact⟨_,_,rfl⟩|simp [AR,A9]
   ·rw [if_neg e8]at h;have e8f:((JJ Jm AX).2)=false:=JA.mpr e8;obtain⟨e9,h⟩:=BS h
    obtain rfl:=Option.some.inj h
    simp (maxDischargeDepth:=9) only [↓AP,AQ,Ae,↓reduceIte,bh,bj,bk,bl,bm,bo,bp,br,bt,bw,bx,bO,b0,b3,b4,b5,b6,e2,e3.1,e3.2,e4.1,e4.2,n6_0,n6_1,n6_2,n6_3,n6_4,n6_5,n6_6,n6_7,n6_8,e7.1,e7.2,e8f,e9.1,e9.2,Cv,Db,CU,CV,CW]<;>(repeat' apply A7)<;>first|rfl|exact⟨_,rfl⟩|exact⟨_,_,rfl⟩|simp [AR,A9]
 ·rw [if_neg e2]at h
  obtain rfl:=Option.some.inj h
  simp (maxDischargeDepth:=9) only [↓AP,AQ,Ae,↓reduceIte,bh,bj,bk,bl,bm,bo,bp,br,bt,bw,bx,bO,b0,b3,b4,b5,b6,m0,m1,m2,m3,m4,m5,m6,e2,Cv,Db,CU,CV,CW]<;>(repeat' apply A7)<;>first|rfl|exact⟨_,rfl⟩|exact⟨_,_,rfl⟩|simp [AR,A9]
theorem PS(A8:Aq)(AL:AO)(AA:AO)(Ha:AO){r:AO}(h:Ip A8 AL AA Ha=some r):Y.call 125 [D.agg [b7 123 (AR (fun x=>b7 125 (Ay .i64 .i64 x)) A8),b7 3 (AR (bd .i64) AL),b7 3 (AR (bd .i64) AA)],b7 3 (AR (bd .i64) Ha)] []=some (b9 3 (AR (bd .i64) r),[]):=by
 refine AFh ?_ rfl;unfold A3G;unfold Ip at h;obtain⟨e1,h⟩:=BS h;obtain⟨Ce,hl3,h⟩:=Av h;try dsimp only at h
 simp (maxDischargeDepth:=9) only [↓AP,AQ,Ae,↓reduceIte,bh,bj,bk,bl,bm,bo,bp,br,bt,bw,bx,bO,b0,b3,b4,b5,b6,e1.1,e1.2];refine BB (Oh A8 AL AA Ha hl3 ?_) ?_
 ·simp (maxDischargeDepth:=9) only [↓AP,AQ,Ae,↓reduceIte,bh,bj,bk,bl,bm,bo,bp,br,bt,bw,bx,bO,b0,b3,b4,b5,b6,e1.1,e1.2,Cv]<;>(repeat' apply A7)<;>first|rfl|exact⟨_,rfl⟩|exact⟨_,_,rfl⟩|simp [AR,A9]
 ·intro ex3 s3 hX3;unfold Db at hX3;obtain⟨rfl,n3_0⟩:=hX3
  obtain rfl:=Option.some.inj h
  simp (maxDischargeDepth:=9) only [↓AP,AQ,Ae,↓reduceIte,bh,bj,bk,bl,bm,bo,bp,br,bt,bw,bx,bO,b0,b3,b4,b5,b6,e1.1,e1.2,n3_0]<;>(repeat' apply A7)<;>first|rfl|exact⟨_,rfl⟩|exact⟨_,_,rfl⟩|simp [AR,A9]
def Fp(A8:Aq)(AL:AO)(AA:AO)(Ha:AO)(NU:Int)(OD:Int)(L6:Int):Option ((Int)⊕(Unit⊕Unit)):= if L6<((A8.getD NU.toNat be).length:Int)then ck (0≤L6∧L6.toNat<(A8.getD NU.toNat be).length)<| ck (0≤OD∧OD.toNat<A8.length)<| ck (0≤L6∧L6.toNat<(A8.getD OD.toNat be).length)<| if 0<(Ha.length:Int)then if(CK (A8.getD NU.toNat be) L6.toNat)=(CK (A8.getD OD.toNat be) L6.toNat)then ck (0≤(BH (A8.getD NU.toNat be) L6.toNat)∧(BH (A8.getD NU.toNat be) L6.toNat).toNat<Ha.length)<| ck (0≤(BH (A8.getD OD.toNat be) L6.toNat)∧(BH (A8.getD OD.toNat be) L6.toNat).toNat<Ha.length)<| if(Ha.getD ((BH (A8.getD NU.toNat be) L6.toNat).toNat) be)=(Ha.getD ((BH (A8.getD OD.toNat be) L6.toNat).toNat) be)then some (cc (cd.wrap (L6+1))) else some (b8 (cc ())) else some (b8 (cc ())) else some (cc (cd.wrap (L6+1))) else some (b8 (b8 ()))
def JO(A8:Aq)(AL:AO)(AA:AO)(Ha:AO)(NU:Int)(OD:Int)(v:Int):Option (Unit⊕Unit):=Iy (fun v=>Fp A8 AL AA Ha NU OD v) v
def ML(A8:Aq)(AL:AO)(AA:AO)(Ha:AO)(NU:Int)(OD:Int):Option (Bool):=
 ck (0≤NU∧NU.toNat<A8.length)<|
 ck (0≤OD∧OD.toNat<A8.length)<|
 if((A8.getD NU.toNat be).length:Int)=((A8.getD OD.toNat be).length:Int)then
  ck (0≤NU∧NU.toNat<AA.length)<|
  ck (0≤OD∧OD.toNat<AA.length)<|
  if(AA.getD NU.toNat be)=(AA.getD OD.toNat be)then
   (JO A8 AL AA Ha NU OD 0).bind fun AX=>
   match AX with
   | .inl q1000_=>
    some false
   | .inr q1000_=>
    some true
  else
   some false
 else
  some false
abbrev L8:List Nat:=[57,58,59,60,61,62,63,64,65,66,67,68,69,70,71,72,73,74,75,76,77,78,79]
def VB:SC:= .seq (.ops [oB 45 .lss 3 (tK 44) (tK 43) 3 0]) (.seq (.cond (tK 45) .skip (.exit 0)) (.seq (.block 1 (.seq (.ops [oM 46 44 3,oI 47 123 42 44,oL 48 125 47 125,oX 10 (.alloc 125) 0,oA 9 46 3,oS 125 10 48]) (.seq (.ops [oF 49 47 4 0,oL 50 45 49 45,oM 51 3 3,oI 52 45 50 51,oL 53 123 52 123,oM 54 9 3,oI 55 123 53 54,oL 56 125 55 125,oX 11 (.alloc 125) 0,oS 125 11 56]) (.seq (.draws [(⟨[57,1,1],L8,[57]⟩,oM 57 1 26),(⟨[58,57,1],L8,[58]⟩,oN 58 57 26),(⟨[59,58,58],L8,[59]⟩,oB 59 .gtr 3 (tK 58) (iK 0) 3 4),(⟨[60,59,59],L8,[60]⟩,oM 60 59 4),(⟨[61,10,10,60],L8,[61]⟩,⟨(some 61),(.fieldAddr 125 (tK 10) 1),0,(some (some 60,true))⟩),(⟨[62,61,10,60],L8,[62]⟩,⟨(some 62),(.load 3 (tK 61)),3,(some (some 60,true))⟩),(⟨[63,11,11,60],L8,[63]⟩,⟨(some 63),(.fieldAddr 125 (tK 11) 1),0,(some (some 60,true))⟩),(⟨[64,63,11,60],L8,[64]⟩,⟨(some 64),(.load 3 (tK 63)),3,(some (some 60,true))⟩),(⟨[65,62,64,10,11,60],L8,[65]⟩,⟨(some 65),(.binOp .neq 3 (tK 62) (tK 64) 3),4,(some (some 60,true))⟩),(⟨[66,65,65,60],L8,[66]⟩,⟨(some 66),(.move (tK 65)),4,(some (some 60,true))⟩),(⟨[67,1,1,66],L8,[67]⟩,⟨(some 67),(.move (tK 1)),26,(some (some 66,false))⟩),(⟨[68,10,10,66],L8,[68]⟩,⟨(some 68),(.fieldAddr 125 (tK 10) 0),0,(some (some 66,false))⟩),
 (⟨[69,68,10,66],L8,[69]⟩,⟨(some 69),(.load 3 (tK 68)),3,(some (some 66,false))⟩),(⟨[70,67,69,1,10,66],L8,[70]⟩,⟨(some 70),(.indexAddr 26 (tK 67) (tK 69)),0,(some (some 66,false))⟩),(⟨[71,70,1,66],L8,[71]⟩,⟨(some 71),(.load 3 (tK 70)),3,(some (some 66,false))⟩),(⟨[72,1,1,66],L8,[72]⟩,⟨(some 72),(.move (tK 1)),26,(some (some 66,false))⟩),(⟨[73,11,11,66],L8,[73]⟩,⟨(some 73),(.fieldAddr 125 (tK 11) 0),0,(some (some 66,false))⟩),(⟨[74,73,11,66],L8,[74]⟩,⟨(some 74),(.load 3 (tK 73)),3,(some (some 66,false))⟩),(⟨[75,72,74,1,11,66],L8,[75]⟩,⟨(some 75),(.indexAddr 26 (tK 72) (tK 74)),0,(some (some 66,false))⟩),(⟨[76,75,1,66],L8,[76]⟩,⟨(some 76),(.load 3 (tK 75)),3,(some (some 66,false))⟩),(⟨[77,71,76,1,1,66],L8,[77]⟩,⟨(some 77),(.binOp .neq 3 (tK 71) (tK 76) 3),4,(some (some 66,false))⟩),(⟨[78,66,77,65,77,60],L8,[78]⟩,⟨(some 78),(.pick (tK 66) Eh (tK 77)),4,(some (some 60,true))⟩),(⟨[79,60,78,59,78],L8,[79]⟩,oX 79 (.pick (tK 60) (tK 78) PO) 4)]) (.cond (tK 79) (.seq (.ops [oX 8 CF 4]) .ret) .skip))))) (.ops [oB 80 .add 3 (tK 44) (iK 1) 3 3,oM 44 80 3])))
def iM:SC:= .loop VB
abbrev K8:List Nat:=[12,13,14,15,16,17,18,19,20,21,22,23,24,25,26,27,28,29,30,31,32,33,34,35,36,37]
def A3H:SC:= .seq (.ops [oX 4 (.box 47 (tK 0)) 0,oX 8 CF 4]) (.seq (.seq (.draws [(⟨[12,4,4],K8,[12]⟩,oF 12 47 4 0),(⟨[13,12,4],K8,[13]⟩,oL 13 45 12 45),(⟨[14,2,2],K8,[14]⟩,oM 14 2 3),(⟨[15,13,14,4,2],K8,[15]⟩,oI 15 45 13 14),(⟨[16,15,4],K8,[16]⟩,oL 16 123 15 123),(⟨[17,16,4],K8,[17]⟩,oN 17 16 123),(⟨[18,4,4],K8,[18]⟩,oF 18 47 4 0),(⟨[19,18,4],K8,[19]⟩,oL 19 45 18 45),(⟨[20,3,3],K8,[20]⟩,oM 20 3 3),(⟨[21,19,20,4,3],K8,[21]⟩,oI 21 45 19 20),(⟨[22,21,4],K8,[22]⟩,oL 22 123 21 123),(⟨[23,22,4],K8,[23]⟩,oN 23 22 123),(⟨[24,17,23,17,23],K8,[24]⟩,oB 24 .neq 3 (tK 17) (tK 23) 3 4),(⟨[25,24,24],K8,[25]⟩,oM 25 24 4),(⟨[26,4,4,25],K8,[26]⟩,⟨(some 26),(.fieldAddr 47 (tK 4) 2),0,(some (some 25,false))⟩),(⟨[27,26,4,25],K8,[27]⟩,⟨(some 27),(.load 26 (tK 26)),26,(some (some 25,false))⟩),(⟨[28,2,2,25],K8,[28]⟩,⟨(some 28),(.move (tK 2)),3,(some (some 25,false))⟩),(⟨[29,27,28,4,2,25],K8,[29]⟩,⟨(some 29),(.indexAddr 26 (tK 27) (tK 28)),0,(some (some 25,false))⟩),(⟨[30,29,4,25],K8,[30]⟩,⟨(some 30),(.load 3 (tK 29)),3,(some (some 25,false))⟩),(⟨[31,4,4,25],K8,[31]⟩,⟨(some 31),(.fieldAddr 47 (tK 4) 2),0,(some (some 25,false))⟩),(⟨[32,31,4,25],K8,[32]⟩,⟨(some 32),(.load 26 (tK 31)),26,(some (some 25,false))⟩),
 (⟨[33,3,3,25],K8,[33]⟩,⟨(some 33),(.move (tK 3)),3,(some (some 25,false))⟩),(⟨[34,32,33,4,3,25],K8,[34]⟩,⟨(some 34),(.indexAddr 26 (tK 32) (tK 33)),0,(some (some 25,false))⟩),(⟨[35,34,4,25],K8,[35]⟩,⟨(some 35),(.load 3 (tK 34)),3,(some (some 25,false))⟩),(⟨[36,30,35,4,4,25],K8,[36]⟩,⟨(some 36),(.binOp .neq 3 (tK 30) (tK 35) 3),4,(some (some 25,false))⟩),(⟨[37,25,36,24,36],K8,[37]⟩,oX 37 (.pick (tK 25) Eh (tK 36)) 4)]) (.cond (tK 37) (.seq (.ops [oX 8 CF 4]) .ret) .skip)) (.seq (.seq (.ops [oF 38 47 4 0,oL 39 45 38 45,oM 40 2 3,oI 41 45 39 40,oL 42 123 41 123,oN 43 42 123,oX 44 (.move (iK 0)) 3]) (.block 0 iM)) (.seq (.ops [oX 8 (.assign Eh) 4]) .ret)))
theorem uO:Try.f150.body.map (Bc lends)=some A3H:=by kernel_rfl
theorem AAF:Bn Try.f150 4=true:=by kernel_rfl
theorem AFi{a l:List D}{r:D×List D}(h:Bq Y.env A3H (F9 Ab l.length [cb 8] r) (entry a l))(ha:a.length=4):Y.call 150 a l=some r:=
 Aa (Y:=Y) rfl Try.func150 (ha▸AAF) uO h
def DK(A8:Aq)(AL:AO)(AA:AO)(Ha:AO)(NU:Int)(OD:Int)(L6:Int)(s:St):Prop:=s.v 1=b7 3 (AR (bd .i64) Ha)∧s.v 3=bd .i64 OD∧s.v 4=cf [b7 123 (AR (fun x=>b7 125 (Ay .i64 .i64 x)) A8),b7 3 (AR (bd .i64) AL),b7 3 (AR (bd .i64) AA)]∧s.v 42=b7 125 (Ay .i64 .i64 (A8.getD NU.toNat be))∧s.v 43=bd .i64 ((A8.getD NU.toNat be).length:Int)∧s.v 44=bd .i64 L6
def DL(A8:Aq)(AL:AO)(AA:AO)(Ha:AO)(NU:Int)(OD:Int)(r:Unit⊕Unit)(ex:Ex)(s:St):Prop:=match r with
 | .inl q=>ex= .ret∧s.v 8=ca false
 | .inr q=>ex= .exit 0
theorem SN(A8:Aq)(AL:AO)(AA:AO)(Ha:AO)(NU:Int)(OD:Int){v:Int}{s:St}{r:Unit⊕Unit}(h:JO A8 AL AA Ha NU OD v=some r)(hM:DK A8 AL AA Ha NU OD v s):Bq Y.env iM (DL A8 AL AA Ha NU OD r) s:=by
 unfold JO at h;refine BV (c:=VB) (fun v=>Fp A8 AL AA Ha NU OD v) (fun v s=>DK A8 AL AA Ha NU OD v s) (DL A8 AL AA Ha NU OD) ?_ h hM;clear h hM s v r;intro L6 s o hM h;unfold Fp at h;unfold DK at hM;obtain⟨m0,m1,m2,m3,m4,m5⟩:=hM;unfold VB;by_cases e7:L6<((A8.getD NU.toNat be).length:Int)
 ·rw [if_pos e7]at h;obtain⟨e8,h⟩:=BS h;obtain⟨e9,h⟩:=BS h;obtain⟨e10,h⟩:=BS h;by_cases e11:0<(Ha.length:Int)
  ·rw [if_pos e11]at h;by_cases e12:(CK (A8.getD NU.toNat be) L6.toNat)=(CK (A8.getD OD.toNat be) L6.toNat)
   ·rw [if_pos e12]at h;obtain⟨e13,h⟩:=BS h;obtain⟨e14,h⟩:=BS h;by_cases e15:(Ha.getD ((BH (A8.getD NU.toNat be) L6.toNat).toNat) be)=(Ha.getD ((BH (A8.getD OD.toNat be) L6.toNat).toNat) be)
    ·rw [if_pos e15]at h
     obtain rfl:=Option.some.inj h
     simp (maxDischargeDepth:=9) only [↓AP,AQ,Ae,↓reduceIte,bh,bj,bk,bl,bm,bo,bp,br,bt,bw,bx,bO,b0,b3,b4,b5,b6,m0,m1,m2,m3,m4,m5,e7,e8.1,e8.2,e9.1,e9.2,e10.1,e10.2,e11,decide_eq_true e12,e13.1,e13.2,e14.1,e14.2,decide_eq_true e15,DK,DL,CU,CV,CW]<;>(repeat' apply A7)<;>first|rfl|exact⟨_,rfl⟩|exact⟨_,_,rfl⟩|simp [AR,A9]
    ·rw [if_neg e15]at h
     obtain rfl:=Option.some.inj h
     simp (maxDischargeDepth:=9) only [↓AP,AQ,Ae,↓reduceIte,bh,bj,bk,bl,bm,bo,bp,br,bt,bw,bx,bO,b0,b3,b4,b5,b6,m0,m1,m2,m3,m4,m5,e7,e8.1,e8.2,e9.1,e9.2,e10.1,e10.2,e11,decide_eq_true e12,e13.1,e13.2,e14.1,e14.2,e15,DK,DL,CU,CV,CW]<;>(repeat' apply A7)<;>first|rfl|exact⟨_,rfl⟩|exact⟨_,_,rfl⟩|simp [AR,A9]
   ·rw [if_neg e12]at h
    obtain rfl:=Option.some.inj h
    simp (maxDischargeDepth:=9) only [↓AP,AQ,Ae,↓reduceIte,bh,bj,bk,bl,bm,bo,bp,br,bt,bw,bx,bO,b0,b3,b4,b5,b6,m0,m1,m2,m3,m4,m5,e7,e8.1,e8.2,e9.1,e9.2,e10.1,e10.2,e11,e12,DK,DL,CU,CV,CW]<;>(repeat' apply A7)<;>first|rfl|exact⟨_,rfl⟩|exact⟨_,_,rfl⟩|simp [AR,A9]
  ·rw [if_neg e11]at h
   obtain rfl:=Option.some.inj h
   simp (maxDischargeDepth:=9) only [↓AP,AQ,Ae,↓reduceIte,bh,bj,bk,bl,bm,bo,bp,br,bt,bw,bx,bO,b0,b3,b4,b5,b6,m0,m1,m2,m3,m4,m5,e7,e8.1,e8.2,e9.1,e9.2,e10.1,e10.2,e11,DK,DL,CU,CV,CW]<;>(repeat' apply A7)<;>first|rfl|exact⟨_,rfl⟩|exact⟨_,_,rfl⟩|simp [AR,A9]
 ·rw [if_neg e7]at h
  obtain rfl:=Option.some.inj h
  simp (maxDischargeDepth:=9) only [↓AP,AQ,Ae,↓reduceIte,bh,bj,bk,bl,bm,bo,bp,br,bt,bw,bx,bO,b0,b3,b4,b5,b6,m0,m1,m2,m3,m4,m5,e7,DK,DL,CU,CV,CW]<;>(repeat' apply A7)<;>first|rfl|exact⟨_,rfl⟩|exact⟨_,_,rfl⟩|simp [AR,A9]
theorem VC(A8:Aq)(AL:AO)(AA:AO)(Ha:AO)(NU:Int)(OD:Int){r:Bool}(h:ML A8 AL AA Ha NU OD=some r):Y.call 150 [D.agg [b7 123 (AR (fun x=>b7 125 (Ay .i64 .i64 x)) A8),b7 3 (AR (bd .i64) AL),b7 3 (AR (bd .i64) AA)],b7 3 (AR (bd .i64) Ha),bd .i64 NU,bd .i64 OD] []=some (ca r,[]):=by
 refine AFi ?_ rfl;unfold A3H;unfold ML at h;obtain⟨e1,h⟩:=BS h;obtain⟨e2,h⟩:=BS h;by_cases e3:((A8.getD NU.toNat be).length:Int)=((A8.getD OD.toNat be).length:Int)
 ·rw [if_pos e3]at h;obtain⟨e4,h⟩:=BS h;obtain⟨e5,h⟩:=BS h;by_cases e6:(AA.getD NU.toNat be)=(AA.getD OD.toNat be)
  ·rw [if_pos e6]at h;obtain⟨AX,hl8,h⟩:=Av h;try dsimp only at h
   simp (maxDischargeDepth:=9) only [↓AP,AQ,Ae,↓reduceIte,bh,bj,bk,bl,bm,bo,bp,br,bt,bw,bx,bO,b0,b3,b4,b5,b6,e1.1,e1.2,e2.1,e2.2,decide_eq_true e3,e4.1,e4.2,e5.1,e5.2,decide_eq_true e6];refine BB (SN A8 AL AA Ha NU OD hl8 ?_) ?_
   ·simp (maxDischargeDepth:=9) only [↓AP,AQ,Ae,↓reduceIte,bh,bj,bk,bl,bm,bo,bp,br,bt,bw,bx,bO,b0,b3,b4,b5,b6,e1.1,e1.2,e2.1,e2.2,decide_eq_true e3,e4.1,e4.2,e5.1,e5.2,decide_eq_true e6,DK]<;>(repeat' apply A7)<;>first|rfl|exact⟨_,rfl⟩|exact⟨_,_,rfl⟩|simp [AR,A9]
   ·intro ex8 s8 hX8;rcases AX with q1000_|q1000_
    ·unfold DL at hX8;dsimp only at hX8 h;obtain⟨rfl,n8_0⟩:=hX8
     obtain rfl:=Option.some.inj h
     simp (maxDischargeDepth:=9) only [↓AP,AQ,Ae,↓reduceIte,bh,bj,bk,bl,bm,bo,bp,br,bt,bw,bx,bO,b0,b3,b4,b5,b6,e1.1,e1.2,e2.1,e2.2,decide_eq_true e3,e4.1,e4.2,e5.1,e5.2,decide_eq_true e6,n8_0]<;>(repeat' apply A7)<;>first|rfl|exact⟨_,rfl⟩|exact⟨_,_,rfl⟩|simp [AR,A9]
    ·unfold DL at hX8;dsimp only at hX8 h
     obtain rfl:=hX8
     obtain rfl:=Option.some.inj h
     simp (maxDischargeDepth:=9) only [↓AP,AQ,Ae,↓reduceIte,bh,bj,bk,bl,bm,bo,bp,br,bt,bw,bx,bO,b0,b3,b4,b5,b6,e1.1,e1.2,e2.1,e2.2,decide_eq_true e3,e4.1,e4.2,e5.1,e5.2,decide_eq_true e6]<;>(repeat' apply A7)<;>first|rfl|exact⟨_,rfl⟩|exact⟨_,_,rfl⟩|simp [AR,A9]
  ·rw [if_neg e6]at h
   obtain rfl:=Option.some.inj h
   simp (maxDischargeDepth:=9) only [↓AP,AQ,Ae,↓reduceIte,bh,bj,bk,bl,bm,bo,bp,br,bt,bw,bx,bO,b0,b3,b4,b5,b6,e1.1,e1.2,e2.1,e2.2,decide_eq_true e3,e4.1,e4.2,e5.1,e5.2,e6]<;>(repeat' apply A7)<;>first|rfl|exact⟨_,rfl⟩|exact⟨_,_,rfl⟩|simp [AR,A9]
 ·rw [if_neg e3]at h
  obtain rfl:=Option.some.inj h
  simp (maxDischargeDepth:=9) only [↓AP,AQ,Ae,↓reduceIte,bh,bj,bk,bl,bm,bo,bp,br,bt,bw,bx,bO,b0,b3,b4,b5,b6,e1.1,e1.2,e2.1,e2.2,e3]<;>(repeat' apply A7)<;>first|rfl|exact⟨_,rfl⟩|exact⟨_,_,rfl⟩|simp [AR,A9]
def Cn(AC:Aq)(AY:AO)(AB:AO)(class_:AO)(out:AO)(many:Int)(IB:Int)(at_:Int)(u:Int):Option ((Int×Int)⊕(Int)):= if u<IB then if at_<0 then (ML AC AY AB class_ u IB).bind fun BG=> if BG=true then some (cc (u,cd.wrap (u+1))) else some (cc (at_,cd.wrap (u+1))) else some (b8 at_) else some (b8 at_)
def J7(AC:Aq)(AY:AO)(AB:AO)(class_:AO)(out:AO)(many:Int)(IB:Int)(v:Int×Int):Option (Int):=Iy (fun v=>Cn AC AY AB class_ out many IB v.1 v.2) v
def Gx(AC:Aq)(AY:AO)(AB:AO)(class_:AO)(out:AO)(many:Int)(IB:Int):Option ((AO×Int×Int)⊕(AO)):= if IB<(AC.length:Int)then (J7 AC AY AB class_ out many IB ((-1),0)).bind fun AX=> if 0≤AX then ck (0≤AX∧AX.toNat<out.length)<| ck (0≤IB∧IB.toNat<out.length)<| some (cc ((out.set IB.toNat (out.getD AX.toNat be)),many,cd.wrap (IB+1))) else ck (0≤IB∧IB.toNat<out.length)<| some (cc ((out.set IB.toNat many),cd.wrap (many+1),cd.wrap (IB+1))) else some (b8 out)
def K9(AC:Aq)(AY:AO)(AB:AO)(class_:AO)(v:AO×Int×Int):Option (AO):=Iy (fun v=>Gx AC AY AB class_ v.1 v.2.1 v.2.2) v
def L9(AC:Aq)(AY:AO)(AB:AO)(class_:AO):Option (AO):= ck (0≤(AC.length:Int)∧(AC.length:Int)<1099511627776)<| (K9 AC AY AB class_ ((ao AC.length 0),0,0)).bind fun Ce=> some Ce
def VD:SC:= .seq (.seq (.ops [oM 20 9 3,oM 21 7 3,oB 22 .lss 3 (tK 20) (tK 21) 3 4,oM 23 22 4,⟨(some 24),(.move (tK 8)),3,(some (some 23,true))⟩,⟨(some 25),(.binOp .lss 3 (tK 24) (iK 0) 3),4,(some (some 23,true))⟩,oX 26 (.pick (tK 23) (tK 25) PO) 4]) (.cond (tK 26) .skip (.exit 2))) (.seq (.block 3 (.seq (.ops [oL 29 47 2 47,oM 30 1 26,oM 31 9 3,oM 32 7 3,oC 33 150 [(tK 29),(tK 30),(tK 31),(tK 32)] [47,26,3,3] 4]) (.cond (tK 33) (.ops [oM 34 9 3,oA 8 34 3]) .skip))) (.ops [oM 27 9 3,oB 28 .add 3 (tK 27) (iK 1) 3 3,oA 9 28 3]))
def iO:SC:= .loop VD
def VE:SC:= .seq (.ops [oB 18 .lss 3 (tK 17) (tK 16) 3 0]) (.seq (.cond (tK 18) .skip (.exit 0)) (.seq (.block 1 (.seq (.ops [oM 19 17 3,oA 7 19 3]) (.seq (.ops [oX 8 O7 3]) (.seq (.seq (.ops [oX 9 (.assign (iK 0)) 3]) (.block 2 iO)) (.seq (.ops [oM 35 8 3,oB 36 .geq 3 (tK 35) (iK 0) 3 4]) (.cond (tK 36) (.ops [oM 37 5 26,oM 38 7 3,oM 39 5 26,oM 40 8 3,oI 41 26 39 40,oL 42 3 41 3,oI 43 26 37 38,oS 3 43 42]) (.seq (.ops [oM 44 5 26,oM 45 7 3,oM 46 6 3,oI 47 26 44 45,oS 3 47 46]) (.ops [oM 48 6 3,oB 49 .add 3 (tK 48) (iK 1) 3 3,oA 6 49 3])))))))) (.ops [oB 50 .add 3 (tK 17) (iK 1) 3 3,oM 17 50 3])))
def iP:SC:= .loop VE
def A3I:SC:= .seq (.ops [oX 2 (.box 47 (tK 0)) 0,oX 4 Kz 26]) (.seq (.ops [oF 10 47 2 0,oL 11 45 10 45,oN 12 11 45,oX 13 (.makeSlice 26 (tK 12) (tK 12)) 26,oA 5 13 26]) (.seq (.ops [oX 6 (.assign (iK 0)) 3]) (.seq (.seq (.ops [oF 14 47 2 0,oL 15 45 14 45,oN 16 15 45,oX 17 (.move (iK 0)) 3]) (.block 0 iP)) (.seq (.ops [oM 51 5 26,oA 4 51 26]) .ret))))
theorem uP:Try.f110.body.map (Bc lends)=some A3I:=by kernel_rfl
theorem AAG:Bn Try.f110 2=true:=by kernel_rfl
theorem AFj{a l:List D}{r:D×List D}(h:Bq Y.env A3I (F9 Ab l.length [cb 4] r) (entry a l))(ha:a.length=2):Y.call 110 a l=some r:=
 Aa (Y:=Y) rfl Try.func110 (ha▸AAG) uP h
def EN(AC:Aq)(AY:AO)(AB:AO)(class_:AO)(out:AO)(many:Int)(IB:Int)(at_:Int)(u:Int)(s:St):Prop:=s.v 1=b7 3 (AR (bd .i64) class_)∧s.v 2=cf [b7 123 (AR (fun x=>b7 125 (Ay .i64 .i64 x)) AC),b7 3 (AR (bd .i64) AY),b7 3 (AR (bd .i64) AB)]∧s.v 5=b9 3 (AR (bd .i64) out)∧s.v 6=bd .i64 many∧s.v 7=bd .i64 IB∧s.v 8=bd .i64 at_∧s.v 9=bd .i64 u∧s.v 16=bd .i64 (AC.length:Int)∧s.v 17=bd .i64 IB
def FO(AC:Aq)(AY:AO)(AB:AO)(class_:AO)(out:AO)(many:Int)(IB:Int)(r:Int)(ex:Ex)(s:St):Prop:=ex= .exit 2∧s.v 1=b7 3 (AR (bd .i64) class_)∧s.v 2=cf [b7 123 (AR (fun x=>b7 125 (Ay .i64 .i64 x)) AC),b7 3 (AR (bd .i64) AY),b7 3 (AR (bd .i64) AB)]∧s.v 5=b9 3 (AR (bd .i64) out)∧s.v 6=bd .i64 many∧s.v 7=bd .i64 IB∧s.v 8=bd .i64 r∧s.v 16=bd .i64 (AC.length:Int)∧s.v 17=bd .i64 IB
theorem VF(AC:Aq)(AY:AO)(AB:AO)(class_:AO)(out:AO)(many:Int)(IB:Int){v:Int×Int}{s:St}{r:Int}(h:J7 AC AY AB class_ out many IB v=some r)(hM:EN AC AY AB class_ out many IB v.1 v.2 s):Bq Y.env iO (FO AC AY AB class_ out many IB r) s:=by
 unfold J7 at h;refine BV (c:=VD) (fun v=>Cn AC AY AB class_ out many IB v.1 v.2) (fun v s=>EN AC AY AB class_ out many IB v.1 v.2 s) (FO AC AY AB class_ out many IB) ?_ h hM;clear h hM s v r;intro v s o hM h;obtain⟨at_,u⟩:=v;dsimp only at h hM;unfold Cn at h;unfold EN at hM;obtain⟨m0,m1,m2,m3,m4,m5,m6,m7,m8⟩:=hM;unfold VD;by_cases e3:u<IB
 ·rw [if_pos e3]at h;by_cases e4:at_<0
  ·rw [if_pos e4]at h;obtain⟨BG,hl5,h⟩:=Av h;try dsimp only at h
   have c5:=VC AC AY AB class_ u IB hl5;by_cases e6:BG=true
   ·rw [if_pos e6]at h
    obtain rfl:=Option.some.inj h
    simp (maxDischargeDepth:=9) only [↓AP,AQ,Ae,↓reduceIte,bh,bj,bk,bl,bm,bo,bp,br,bt,bw,bx,bO,b0,b3,b4,b5,b6,m0,m1,m2,m3,m4,m5,m6,m7,m8,e3,e4,c5,e6,EN,FO,CU,CV,CW]<;>(repeat' apply A7)<;>first|rfl|exact⟨_,rfl⟩|exact⟨_,_,rfl⟩|simp [AR,A9]
   ·rw [if_neg e6]at h;have e6f:BG=false:=JA.mpr e6
    obtain rfl:=Option.some.inj h
    simp (maxDischargeDepth:=9) only [↓AP,AQ,Ae,↓reduceIte,bh,bj,bk,bl,bm,bo,bp,br,bt,bw,bx,bO,b0,b3,b4,b5,b6,m0,m1,m2,m3,m4,m5,m6,m7,m8,e3,e4,c5,e6f,EN,FO,CU,CV,CW]<;>(repeat' apply A7)<;>first|rfl|exact⟨_,rfl⟩|exact⟨_,_,rfl⟩|simp [AR,A9]
  ·rw [if_neg e4]at h
   obtain rfl:=Option.some.inj h
   simp (maxDischargeDepth:=9) only [↓AP,AQ,Ae,↓reduceIte,bh,bj,bk,bl,bm,bo,bp,br,bt,bw,bx,bO,b0,b3,b4,b5,b6,m0,m1,m2,m3,m4,m5,m6,m7,m8,e3,e4,EN,FO,CU,CV,CW]<;>(repeat' apply A7)<;>first|rfl|exact⟨_,rfl⟩|exact⟨_,_,rfl⟩|simp [AR,A9]
 ·rw [if_neg e3]at h
  obtain rfl:=Option.some.inj h
  simp (maxDischargeDepth:=9) only [↓AP,AQ,Ae,↓reduceIte,bh,bj,bk,bl,bm,bo,bp,br,bt,bw,bx,bO,b0,b3,b4,b5,b6,m0,m1,m2,m3,m4,m5,m6,m7,m8,e3,EN,FO,CU,CV,CW]<;>(repeat' apply A7)<;>first|rfl|exact⟨_,rfl⟩|exact⟨_,_,rfl⟩|simp [AR,A9]
def FP(AC:Aq)(AY:AO)(AB:AO)(class_:AO)(out:AO)(many:Int)(IB:Int)(s:St):Prop:=s.v 1=b7 3 (AR (bd .i64) class_)∧s.v 2=cf [b7 123 (AR (fun x=>b7 125 (Ay .i64 .i64 x)) AC),b7 3 (AR (bd .i64) AY),b7 3 (AR (bd .i64) AB)]∧s.v 5=b9 3 (AR (bd .i64) out)∧s.v 6=bd .i64 many∧s.v 16=bd .i64 (AC.length:Int)∧s.v 17=bd .i64 IB
def Gy(AC:Aq)(AY:AO)(AB:AO)(class_:AO)(r:AO)(ex:Ex)(s:St):Prop:=ex= .exit 0∧s.v 5=b9 3 (AR (bd .i64) r)
theorem VH(AC:Aq)(AY:AO)(AB:AO)(class_:AO){v:AO×Int×Int}{s:St}{r:AO}(h:K9 AC AY AB class_ v=some r)(hM:FP AC AY AB class_ v.1 v.2.1 v.2.2 s):Bq Y.env iP (Gy AC AY AB class_ r) s:=by
 unfold K9 at h;refine BV (c:=VE) (fun v=>Gx AC AY AB class_ v.1 v.2.1 v.2.2) (fun v s=>FP AC AY AB class_ v.1 v.2.1 v.2.2 s) (Gy AC AY AB class_) ?_ h hM;clear h hM s v r;intro v s o hM h;obtain⟨out,many,IB⟩:=v;dsimp only at h hM;unfold Gx at h;unfold FP at hM;obtain⟨m0,m1,m2,m3,m4,m5⟩:=hM;unfold VE;by_cases e2:IB<(AC.length:Int)
 ·rw [if_pos e2]at h;obtain⟨AX,hl4,h⟩:=Av h;try dsimp only at h
  simp (maxDischargeDepth:=9) only [↓AP,AQ,Ae,↓reduceIte,bh,bj,bk,bl,bm,bo,bp,br,bt,bw,bx,bO,b0,b3,b4,b5,b6,m0,m1,m2,m3,m4,m5,e2];refine BB (VF AC AY AB class_ out many IB hl4 ?_) ?_
  ·simp (maxDischargeDepth:=9) only [↓AP,AQ,Ae,↓reduceIte,bh,bj,bk,bl,bm,bo,bp,br,bt,bw,bx,bO,b0,b3,b4,b5,b6,m0,m1,m2,m3,m4,m5,e2,EN]<;>(repeat' apply A7)<;>first|rfl|exact⟨_,rfl⟩|exact⟨_,_,rfl⟩|simp [AR,A9]
  ·intro ex4 s4 hX4;unfold FO at hX4;obtain⟨rfl,n4_0,n4_1,n4_2,n4_3,n4_4,n4_5,n4_6,n4_7⟩:=hX4;by_cases e5:0≤AX
   ·rw [if_pos e5]at h;obtain⟨e6,h⟩:=BS h;obtain⟨e7,h⟩:=BS h
    obtain rfl:=Option.some.inj h
    simp (maxDischargeDepth:=9) only [↓AP,AQ,Ae,↓reduceIte,bh,bj,bk,bl,bm,bo,bp,br,bt,bw,bx,bO,b0,b3,b4,b5,b6,e2,n4_0,n4_1,n4_2,n4_3,n4_4,n4_5,n4_6,n4_7,e5,e6.1,e6.2,e7.1,e7.2,FP,Gy,CU,CV,CW]<;>(repeat' apply A7)<;>first|rfl|exact⟨_,rfl⟩|exact⟨_,_,rfl⟩|simp [AR,A9]
   ·rw [if_neg e5]at h;obtain⟨e6,h⟩:=BS h
    obtain rfl:=Option.some.inj h
    simp (maxDischargeDepth:=9) only [↓AP,AQ,Ae,↓reduceIte,bh,bj,bk,bl,bm,bo,bp,br,bt,bw,bx,bO,b0,b3,b4,b5,b6,e2,n4_0,n4_1,n4_2,n4_3,n4_4,n4_5,n4_6,n4_7,e5,e6.1,e6.2,FP,Gy,CU,CV,CW]<;>(repeat' apply A7)<;>first|rfl|exact⟨_,rfl⟩|exact⟨_,_,rfl⟩|simp [AR,A9]
 ·rw [if_neg e2]at h
  obtain rfl:=Option.some.inj h
  simp (maxDischargeDepth:=9) only [↓AP,AQ,Ae,↓reduceIte,bh,bj,bk,bl,bm,bo,bp,br,bt,bw,bx,bO,b0,b3,b4,b5,b6,m0,m1,m2,m3,m4,m5,e2,FP,Gy,CU,CV,CW]<;>(repeat' apply A7)<;>first|rfl|exact⟨_,rfl⟩|exact⟨_,_,rfl⟩|simp [AR,A9]
theorem Lp(AC:Aq)(AY:AO)(AB:AO)(class_:AO){r:AO}(h:L9 AC AY AB class_=some r):Y.call 110 [D.agg [b7 123 (AR (fun x=>b7 125 (Ay .i64 .i64 x)) AC),b7 3 (AR (bd .i64) AY),b7 3 (AR (bd .i64) AB)],b7 3 (AR (bd .i64) class_)] []=some (b9 3 (AR (bd .i64) r),[]):=by
 refine AFj ?_ rfl;unfold A3I;unfold L9 at h;obtain⟨e1,h⟩:=BS h;obtain⟨Ce,hl3,h⟩:=Av h;try dsimp only at h
 simp (maxDischargeDepth:=9) only [↓AP,AQ,Ae,↓reduceIte,bh,bj,bk,bl,bm,bo,bp,br,bt,bw,bx,bO,b0,b3,b4,b5,b6,e1.1,e1.2];refine BB (VH AC AY AB class_ hl3 ?_) ?_
 ·simp (maxDischargeDepth:=9) only [↓AP,AQ,Ae,↓reduceIte,bh,bj,bk,bl,bm,bo,bp,br,bt,bw,bx,bO,b0,b3,b4,b5,b6,e1.1,e1.2,FP]<;>(repeat' apply A7)<;>first|rfl|exact⟨_,rfl⟩|exact⟨_,_,rfl⟩|simp [AR,A9]
 ·intro ex3 s3 hX3;unfold Gy at hX3;obtain⟨rfl,n3_0⟩:=hX3
  obtain rfl:=Option.some.inj h
  simp (maxDischargeDepth:=9) only [↓AP,AQ,Ae,↓reduceIte,bh,bj,bk,bl,bm,bo,bp,br,bt,bw,bx,bO,b0,b3,b4,b5,b6,e1.1,e1.2,n3_0]<;>(repeat' apply A7)<;>first|rfl|exact⟨_,rfl⟩|exact⟨_,_,rfl⟩|simp [AR,A9]
def ES(AC:Aq)(AY:AO)(AB:AO)(t_1:Int)(class_:AO):Option ((Int×AO)⊕(AO)):= if 0<t_1 then (L9 AC AY AB class_).bind fun I9=> some (cc (cd.wrap (t_1-1),I9)) else some (b8 class_)
def IC(AC:Aq)(AY:AO)(AB:AO)(v:Int×AO):Option (AO):=Iy (fun v=>ES AC AY AB v.1 v.2) v
def IE(AC:Aq)(AY:AO)(AB:AO)(t_:Int):Option (AO):= (L9 AC AY AB []).bind fun ou=> (IC AC AY AB (t_,ou)).bind fun AX=> some AX
def Yc:SC:= .seq (.seq (.ops [oM 8 1 3,oB 9 .gtr 3 (tK 8) (iK 0) 3 4]) (.cond (tK 9) .skip (.exit 0))) (.seq (.block 1 (.ops [oL 12 47 2 47,oM 13 5 26,oC 14 110 [(tK 12),(tK 13)] [47,26] 26,oA 5 14 26])) (.ops [oM 10 1 3,oB 11 .sub 3 (tK 10) (iK 1) 3 3,oA 1 11 3]))
def pz:SC:= .loop Yc
def k64:SC:= .seq (.ops [oX 2 (.box 47 (tK 0)) 0,oX 4 Kz 26]) (.seq (.ops [oL 6 47 2 47,oC 7 110 [(tK 6),(.const (.slice none 0 0))] [47,26] 26,oA 5 7 26]) (.seq (.block 0 pz) (.seq (.ops [oM 15 5 26,oA 4 15 26]) .ret)))
theorem A3J:Try.f64.body.map (Bc lends)=some k64:=by kernel_rfl
theorem AFl:Bn Try.f64 2=true:=by kernel_rfl
theorem c64{a l:List D}{r:D×List D}(h:Bq Y.env k64 (F9 Ab l.length [cb 4] r) (entry a l))(ha:a.length=2):Y.call 64 a l=some r:=
 Aa (Y:=Y) rfl Try.func64 (ha▸AFl) A3J h
def ET(AC:Aq)(AY:AO)(AB:AO)(t_1:Int)(class_:AO)(s:St):Prop:=s.v 1=bd .i64 t_1∧s.v 2=cf [b7 123 (AR (fun x=>b7 125 (Ay .i64 .i64 x)) AC),b7 3 (AR (bd .i64) AY),b7 3 (AR (bd .i64) AB)]∧s.v 5=b9 3 (AR (bd .i64) class_)
def Fq(AC:Aq)(AY:AO)(AB:AO)(r:AO)(ex:Ex)(s:St):Prop:=ex= .exit 0∧s.v 5=b9 3 (AR (bd .i64) r)
theorem QP(AC:Aq)(AY:AO)(AB:AO){v:Int×AO}{s:St}{r:AO}(h:IC AC AY AB v=some r)(hM:ET AC AY AB v.1 v.2 s):Bq Y.env pz (Fq AC AY AB r) s:=by
 unfold IC at h;refine BV (c:=Yc) (fun v=>ES AC AY AB v.1 v.2) (fun v s=>ET AC AY AB v.1 v.2 s) (Fq AC AY AB) ?_ h hM;clear h hM s v r;intro v s o hM h;obtain⟨t_1,class_⟩:=v;dsimp only at h hM;unfold ES at h;unfold ET at hM;obtain⟨m0,m1,m2⟩:=hM;unfold Yc;by_cases e2:0<t_1
 ·rw [if_pos e2]at h;obtain⟨I9,hl3,h⟩:=Av h;try dsimp only at h
  have c3:=Lp AC AY AB class_ hl3
  obtain rfl:=Option.some.inj h
  simp (maxDischargeDepth:=9) only [↓AP,AQ,Ae,↓reduceIte,bh,bj,bk,bl,bm,bo,bp,br,bt,bw,bx,bO,b0,b3,b4,b5,b6,m0,m1,m2,e2,c3,ET,Fq,CU,CV,CW]<;>(repeat' apply A7)<;>first|rfl|exact⟨_,rfl⟩|exact⟨_,_,rfl⟩|simp [AR,A9]
 ·rw [if_neg e2]at h
  obtain rfl:=Option.some.inj h
  simp (maxDischargeDepth:=9) only [↓AP,AQ,Ae,↓reduceIte,bh,bj,bk,bl,bm,bo,bp,br,bt,bw,bx,bO,b0,b3,b4,b5,b6,m0,m1,m2,e2,ET,Fq,CU,CV,CW]<;>(repeat' apply A7)<;>first|rfl|exact⟨_,rfl⟩|exact⟨_,_,rfl⟩|simp [AR,A9]
theorem MM(AC:Aq)(AY:AO)(AB:AO)(t_:Int){r:AO}(h:IE AC AY AB t_=some r):Y.call 64 [D.agg [b7 123 (AR (fun x=>b7 125 (Ay .i64 .i64 x)) AC),b7 3 (AR (bd .i64) AY),b7 3 (AR (bd .i64) AB)],bd .i64 t_] []=some (b9 3 (AR (bd .i64) r),[]):=by
 refine c64 ?_ rfl;unfold k64;unfold IE at h;obtain⟨ou,hl1,h⟩:=Av h;try dsimp only at h
 have c1:=Lp AC AY AB [] hl1;simp only [K3,sP,MF,Y1,TD,QZ,PY]at c1;obtain⟨AX,hl3,h⟩:=Av h;try dsimp only at h
 simp (maxDischargeDepth:=9) only [↓AP,AQ,Ae,↓reduceIte,bh,bj,bk,bl,bm,bo,bp,br,bt,bw,bx,bO,b0,b3,b4,b5,b6,c1];refine BB (QP AC AY AB hl3 ?_) ?_
 ·simp (maxDischargeDepth:=9) only [↓AP,AQ,Ae,↓reduceIte,bh,bj,bk,bl,bm,bo,bp,br,bt,bw,bx,bO,b0,b3,b4,b5,b6,c1,ET]<;>(repeat' apply A7)<;>first|rfl|exact⟨_,rfl⟩|exact⟨_,_,rfl⟩|simp [AR,A9]
 ·intro ex3 s3 hX3;unfold Fq at hX3;obtain⟨rfl,n3_0⟩:=hX3
  obtain rfl:=Option.some.inj h
  simp (maxDischargeDepth:=9) only [↓AP,AQ,Ae,↓reduceIte,bh,bj,bk,bl,bm,bo,bp,br,bt,bw,bx,bO,b0,b3,b4,b5,b6,c1,n3_0]<;>(repeat' apply A7)<;>first|rfl|exact⟨_,rfl⟩|exact⟨_,_,rfl⟩|simp [AR,A9]
def Bj(x_:AO)(m_:Int)(i:Int):Option ((Int×Int)⊕(Int)):= if i<(x_.length:Int)then ck (0≤i∧i.toNat<x_.length)<| some (cc ((TF m_ (x_.getD i.toNat be)),cd.wrap (i+1))) else some (b8 m_)
def Co(x_:AO)(v:Int×Int):Option (Int):=Iy (fun v=>Bj x_ v.1 v.2) v
def Eg(x_:AO):Option (Int):= if(x_.length:Int)<1 then none else ck (0<x_.length)<| (Co x_ ((x_.getD 0 be),1)).bind fun AX=> some AX
def VI:SC:= .seq (.seq (.ops [oM 12 4 3,oM 13 0 26,oN 14 13 26,oB 15 .lss 3 (tK 12) (tK 14) 3 4]) (.cond (tK 15) .skip (.exit 0))) (.seq (.block 1 (.ops [oM 18 3 3,oM 19 0 26,oM 20 4 3,oI 21 26 19 20,oL 22 3 21 3,oX 23 (.call ⟨(.builtin .max), #[(tK 18),(tK 22)], #[3,3]⟩) 3,oA 3 23 3])) (.ops [oM 16 4 3,oB 17 .add 3 (tK 16) (iK 1) 3 3,oA 4 17 3]))
def iQ:SC:= .loop VI
def A3K:SC:= .seq (.ops [oX 2 (.assign (iK 0)) 3]) (.seq (.seq (.ops [oM 5 0 26,oN 6 5 26,oB 7 .lss 3 (tK 6) (iK 1) 3 4]) (.cond (tK 7) (.ops [oX 8 (.makeInterface 9 (.const (.string {data:= #[115,108,105,99,101,115,46,77,97,120,58,32,101,109,112,116,121,32,108,105,115,116]}))) 20,⟨none,(.panic (tK 8)),0,none⟩]) .skip)) (.seq (.ops [oM 9 0 26,oX 10 (.indexAddr 26 (tK 9) (iK 0)) 0,oL 11 3 10 3,oA 3 11 3]) (.seq (.seq (.ops [oX 4 (.assign (iK 1)) 3]) (.block 0 iQ)) (.seq (.ops [oM 24 3 3,oA 2 24 3]) .ret))))
theorem uQ:Try.f157.body.map (Bc lends)=some A3K:=by kernel_rfl
theorem AAH:Bn Try.f157 1=true:=by kernel_rfl
theorem AFm{a l:List D}{r:D×List D}(h:Bq Y.env A3K (F9 Ab l.length [cb 2] r) (entry a l))(ha:a.length=1):Y.call 157 a l=some r:=
 Aa (Y:=Y) rfl Try.func157 (ha▸AAH) uQ h
def Bl(x_:AO)(m_:Int)(i:Int)(s:St):Prop:=s.v 0=b7 3 (AR (bd .i64) x_)∧s.v 3=bd .i64 m_∧s.v 4=bd .i64 i
def CY(x_:AO)(r:Int)(ex:Ex)(s:St):Prop:=ex= .exit 0∧s.v 3=bd .i64 r
theorem Kb(x_:AO){v:Int×Int}{s:St}{r:Int}(h:Co x_ v=some r)(hM:Bl x_ v.1 v.2 s):Bq Y.env iQ (CY x_ r) s:=by
 unfold Co at h;refine BV (c:=VI) (fun v=>Bj x_ v.1 v.2) (fun v s=>Bl x_ v.1 v.2 s) (CY x_) ?_ h hM;clear h hM s v r;intro v s o hM h;obtain⟨m_,i⟩:=v;dsimp only at h hM;unfold Bj at h;unfold Bl at hM;obtain⟨m0,m1,m2⟩:=hM;unfold VI;by_cases e3:i<(x_.length:Int)
 ·rw [if_pos e3]at h;obtain⟨e4,h⟩:=BS h
  obtain rfl:=Option.some.inj h
  simp (maxDischargeDepth:=9) only [↓AP,AQ,Ae,↓reduceIte,bh,bj,bk,bl,bm,bo,bp,br,bt,bw,bx,bO,b0,b3,b4,b5,b6,m0,m1,m2,e3,e4.1,e4.2,Bl,CY,CU,CV,CW]<;>(repeat' apply A7)<;>first|rfl|exact⟨_,rfl⟩|exact⟨_,_,rfl⟩|simp [AR,A9]
 ·rw [if_neg e3]at h
  obtain rfl:=Option.some.inj h
  simp (maxDischargeDepth:=9) only [↓AP,AQ,Ae,↓reduceIte,bh,bj,bk,bl,bm,bo,bp,br,bt,bw,bx,bO,b0,b3,b4,b5,b6,m0,m1,m2,e3,Bl,CY,CU,CV,CW]<;>(repeat' apply A7)<;>first|rfl|exact⟨_,rfl⟩|exact⟨_,_,rfl⟩|simp [AR,A9]
theorem LA(x_:AO){r:Int}(h:Eg x_=some r):Y.call 157 [b7 3 (AR (bd .i64) x_)] []=some (bd .i64 r,[]):=by
 refine AFm ?_ rfl;unfold A3K;unfold Eg at h;by_cases e1:(x_.length:Int)<1
 ·rw [if_pos e1]at h;cases h
 ·rw [if_neg e1]at h;obtain⟨e2,h⟩:=BS h;obtain⟨AX,hl4,h⟩:=Av h;try dsimp only at h
  simp (maxDischargeDepth:=9) only [↓AP,AQ,Ae,↓reduceIte,bh,bj,bk,bl,bm,bo,bp,br,bt,bw,bx,bO,b0,b3,b4,b5,b6,e1,e2];refine BB (Kb x_ hl4 ?_) ?_
  ·simp (maxDischargeDepth:=9) only [↓AP,AQ,Ae,↓reduceIte,bh,bj,bk,bl,bm,bo,bp,br,bt,bw,bx,bO,b0,b3,b4,b5,b6,e1,e2,Bl]<;>(repeat' apply A7)<;>first|rfl|exact⟨_,rfl⟩|exact⟨_,_,rfl⟩|simp [AR,A9]
  ·intro ex4 s4 hX4;unfold CY at hX4;obtain⟨rfl,n4_0⟩:=hX4
   obtain rfl:=Option.some.inj h
   simp (maxDischargeDepth:=9) only [↓AP,AQ,Ae,↓reduceIte,bh,bj,bk,bl,bm,bo,bp,br,bt,bw,bx,bO,b0,b3,b4,b5,b6,e1,e2,n4_0]<;>(repeat' apply A7)<;>first|rfl|exact⟨_,rfl⟩|exact⟨_,_,rfl⟩|simp [AR,A9]
def F5(class_:AO):Option (Int):= (Eg class_).bind fun r4_=> some (cd.wrap (r4_+1))
def A3L:SC:= .seq (.ops [oX 2 (.assign (iK 0)) 3]) (.seq (.ops [oM 3 0 26,oC 4 157 [(tK 3)] [26] 3,oB 5 .add 3 (tK 4) (iK 1) 3 3,oA 2 5 3]) .ret)
theorem uR:Try.f122.body.map (Bc lends)=some A3L:=by kernel_rfl
theorem AAI:Bn Try.f122 1=true:=by kernel_rfl
theorem AFn{a l:List D}{r:D×List D}(h:Bq Y.env A3L (F9 Ab l.length [cb 2] r) (entry a l))(ha:a.length=1):Y.call 122 a l=some r:=
 Aa (Y:=Y) rfl Try.func122 (ha▸AAI) uR h
theorem JP(class_:AO){r:Int}(h:F5 class_=some r):Y.call 122 [b7 3 (AR (bd .i64) class_)] []=some (bd .i64 r,[]):=by
 refine AFn ?_ rfl;unfold A3L;unfold F5 at h;obtain⟨r4_,hl1,h⟩:=Av h;try dsimp only at h
 have c1:=LA class_ hl1
 obtain rfl:=Option.some.inj h
 simp (maxDischargeDepth:=9) only [↓AP,AQ,Ae,↓reduceIte,bh,bj,bk,bl,bm,bo,bp,br,bt,bw,bx,bO,b0,b3,b4,b5,b6,c1]<;>(repeat' apply A7)<;>first|rfl|exact⟨_,rfl⟩|exact⟨_,_,rfl⟩|simp [AR,A9]
def Gz(AC:Aq)(AY:AO)(AB:AO)(class_:AO)(t_:Int):Option ((AO×Int)⊕(Int×AO)):= (Ip AC AY AB class_).bind fun LB=> (F5 LB).bind fun Yd=> (F5 class_).bind fun ae=> if Yd=ae then some (b8 (t_,class_)) else some (cc (LB,cd.wrap (t_+1)))
def KA(AC:Aq)(AY:AO)(AB:AO)(v:AO×Int):Option (Int×AO):=Iy (fun v=>Gz AC AY AB v.1 v.2) v
def OE(AC:Aq)(AY:AO)(AB:AO):Option (Int×AO):= (F4 AC AY AB).bind fun r8_=> (KA AC AY AB (r8_,0)).bind fun AX=> some (AX.1,AX.2)
def Ye:SC:= .seq (.block 1 (.seq (.ops [oL 11 47 1 47,oM 12 4 26,oC 13 125 [(tK 11),(tK 12)] [47,26] 26,oA 6 13 26]) (.seq (.seq (.ops [oM 14 6 26,oC 15 122 [(tK 14)] [26] 3,oM 16 4 26,oC 17 122 [(tK 16)] [26] 3,oB 18 .eql 3 (tK 15) (tK 17) 3 4]) (.cond (tK 18) (.seq (.ops [oM 19 5 3,oM 20 4 26,oA 2 19 3,oA 3 20 26]) .ret) .skip)) (.ops [oM 21 6 26,oA 4 21 26])))) (.ops [oM 9 5 3,oB 10 .add 3 (tK 9) (iK 1) 3 3,oA 5 10 3])
def qA:SC:= .loop Ye
def k78:SC:= .seq (.ops [oX 1 (.box 47 (tK 0)) 0,oX 2 (.assign (iK 0)) 3,oX 3 Kz 26]) (.seq (.ops [oL 7 47 1 47,oC 8 125 [(tK 7),(.const (.slice none 0 0))] [47,26] 900013,oA 4 8 26]) (.seq (.ops [oX 5 (.assign (iK 0)) 3]) (.block 0 qA)))
theorem A3M:Try.f78.body.map (Bc lends)=some k78:=by kernel_rfl
theorem AFp:Bn Try.f78 1=true:=by kernel_rfl
theorem c78{a l:List D}{r:D×List D}(h:Bq Y.env k78 (F9 Ab l.length [cb 2,cb 3] r) (entry a l))(ha:a.length=1):Y.call 78 a l=some r:=
 Aa (Y:=Y) rfl Try.func78 (ha▸AFp) A3M h
def H5(AC:Aq)(AY:AO)(AB:AO)(class_:AO)(t_:Int)(s:St):Prop:=s.v 1=cf [b7 123 (AR (fun x=>b7 125 (Ay .i64 .i64 x)) AC),b7 3 (AR (bd .i64) AY),b7 3 (AR (bd .i64) AB)]∧s.v 4=b9 3 (AR (bd .i64) class_)∧s.v 5=bd .i64 t_
def Iq(AC:Aq)(AY:AO)(AB:AO)(r:Int×AO)(ex:Ex)(s:St):Prop:=ex= .ret∧s.v 2=bd .i64 r.1∧s.v 3=b9 3 (AR (bd .i64) r.2)
theorem VJ(AC:Aq)(AY:AO)(AB:AO){v:AO×Int}{s:St}{r:Int×AO}(h:KA AC AY AB v=some r)(hM:H5 AC AY AB v.1 v.2 s):Bq Y.env qA (Iq AC AY AB r) s:=by
 unfold KA at h;refine BV (c:=Ye) (fun v=>Gz AC AY AB v.1 v.2) (fun v s=>H5 AC AY AB v.1 v.2 s) (Iq AC AY AB) ?_ h hM;clear h hM s v r;intro v s o hM h;obtain⟨class_,t_⟩:=v;dsimp only at h hM;unfold Gz at h;unfold H5 at hM;obtain⟨m0,m1,m2⟩:=hM;unfold Ye;obtain⟨LB,hl2,h⟩:=Av h;try dsimp only at h
 have c2:=PS AC AY AB class_ hl2;obtain⟨Yd,hl3,h⟩:=Av h;try dsimp only at h
 have c3:=JP LB hl3;obtain⟨ae,hl4,h⟩:=Av h;try dsimp only at h
 have c4:=JP class_ hl4;by_cases e5:Yd=ae
 ·rw [if_pos e5]at h
  obtain rfl:=Option.some.inj h
  simp (maxDischargeDepth:=9) only [↓AP,AQ,Ae,↓reduceIte,bh,bj,bk,bl,bm,bo,bp,br,bt,bw,bx,bO,b0,b3,b4,b5,b6,m0,m1,m2,c2,c3,c4,decide_eq_true e5,H5,Iq,CU,CV,CW]<;>(repeat' apply A7)<;>first|rfl|exact⟨_,rfl⟩|exact⟨_,_,rfl⟩|simp [AR,A9]
 ·rw [if_neg e5]at h
  obtain rfl:=Option.some.inj h
  simp (maxDischargeDepth:=9) only [↓AP,AQ,Ae,↓reduceIte,bh,bj,bk,bl,bm,bo,bp,br,bt,bw,bx,bO,b0,b3,b4,b5,b6,m0,m1,m2,c2,c3,c4,e5,H5,Iq,CU,CV,CW]<;>(repeat' apply A7)<;>first|rfl|exact⟨_,rfl⟩|exact⟨_,_,rfl⟩|simp [AR,A9]
theorem WS(AC:Aq)(AY:AO)(AB:AO){r:Int×AO}(h:OE AC AY AB=some r):Y.call 78 [D.agg [b7 123 (AR (fun x=>b7 125 (Ay .i64 .i64 x)) AC),b7 3 (AR (bd .i64) AY),b7 3 (AR (bd .i64) AB)]] []=some (D.tup [bd .i64 r.1,b9 3 (AR (bd .i64) r.2)],[]):=by
 refine c78 ?_ rfl;unfold k78;unfold OE at h;obtain⟨r8_,hl1,h⟩:=Av h;try dsimp only at h
 have c1:=Mx AC AY AB hl1;obtain⟨AX,hl6,h⟩:=Av h;try dsimp only at h
 simp (maxDischargeDepth:=9) only [↓AP,AQ,Ae,↓reduceIte,bh,bj,bk,bl,bm,bo,bp,br,bt,bw,bx,bO,b0,b3,b4,b5,b6,c1];refine BB (VJ AC AY AB hl6 ?_) ?_
 ·simp (maxDischargeDepth:=9) only [↓AP,AQ,Ae,↓reduceIte,bh,bj,bk,bl,bm,bo,bp,br,bt,bw,bx,bO,b0,b3,b4,b5,b6,c1,H5]<;>(repeat' apply A7)<;>first|rfl|exact⟨_,rfl⟩|exact⟨_,_,rfl⟩|simp [AR,A9]
 ·intro ex6 s6 hX6;unfold Iq at hX6;obtain⟨rfl,n6_0,n6_1⟩:=hX6
  obtain rfl:=Option.some.inj h
  simp (maxDischargeDepth:=9) only [↓AP,AQ,Ae,↓reduceIte,bh,bj,bk,bl,bm,bo,bp,br,bt,bw,bx,bO,b0,b3,b4,b5,b6,c1,n6_0,n6_1]<;>(repeat' apply A7)<;>first|rfl|exact⟨_,rfl⟩|exact⟨_,_,rfl⟩|simp [AR,A9]
def QQ(a:Int)(b:Int):Option (Int):= if b<a then some a else some b
def A3N:SC:= .seq (.ops [oX 4 (.assign (iK 0)) 3]) (.seq (.seq (.ops [oM 5 0 3,oM 6 1 3,oB 7 .gtr 3 (tK 5) (tK 6) 3 4]) (.cond (tK 7) (.seq (.ops [oM 8 0 3,oA 4 8 3]) .ret) .skip)) (.seq (.ops [oM 9 1 3,oA 4 9 3]) .ret))
theorem uS:Try.f176.body.map (Bc lends)=some A3N:=by kernel_rfl
theorem AAJ:Bn Try.f176 2=true:=by kernel_rfl
theorem AFq{a l:List D}{r:D×List D}(h:Bq Y.env A3N (F9 Ab l.length [cb 4] r) (entry a l))(ha:a.length=2):Y.call 176 a l=some r:=
 Aa (Y:=Y) rfl Try.func176 (ha▸AAJ) uS h
theorem WT(a:Int)(b:Int){r:Int}(h:QQ a b=some r):Y.call 176 [bd .i64 a,bd .i64 b] []=some (bd .i64 r,[]):=by
 refine AFq ?_ rfl;unfold A3N;unfold QQ at h;by_cases e1:b<a
 ·rw [if_pos e1]at h
  obtain rfl:=Option.some.inj h
  simp (maxDischargeDepth:=9) only [↓AP,AQ,Ae,↓reduceIte,bh,bj,bk,bl,bm,bo,bp,br,bt,bw,bx,bO,b0,b3,b4,b5,b6,e1]<;>(repeat' apply A7)<;>first|rfl|exact⟨_,rfl⟩|exact⟨_,_,rfl⟩|simp [AR,A9]
 ·rw [if_neg e1]at h
  obtain rfl:=Option.some.inj h
  simp (maxDischargeDepth:=9) only [↓AP,AQ,Ae,↓reduceIte,bh,bj,bk,bl,bm,bo,bp,br,bt,bw,bx,bO,b0,b3,b4,b5,b6,e1]<;>(repeat' apply A7)<;>first|rfl|exact⟨_,rfl⟩|exact⟨_,_,rfl⟩|simp [AR,A9]
def H6(class_:AO)(n_:Int)(FT:Int):Option ((Int×Int)⊕(Int)):= if FT<(class_.length:Int)then ck (0≤FT∧FT.toNat<class_.length)<| (QQ n_ (cd.wrap ((class_.getD FT.toNat be)+1))).bind fun Yd=> some (cc (Yd,cd.wrap (FT+1))) else some (b8 n_)
def KC(class_:AO)(v:Int×Int):Option (Int):=Iy (fun v=>H6 class_ v.1 v.2) v
def LC(class_:AO):Option (Int):= (KC class_ (0,0)).bind fun AX=> some AX
def VK:SC:= .seq (.ops [oB 9 .lss 3 (tK 8) (tK 7) 3 0]) (.seq (.cond (tK 9) .skip (.exit 0)) (.seq (.block 1 (.seq (.ops [oI 10 26 6 8,oL 11 3 10 3,oA 5 11 3]) (.ops [oM 12 3 3,oM 13 5 3,oB 14 .add 3 (tK 13) (iK 1) 3 3,oC 15 176 [(tK 12),(tK 14)] [3,3] 3,oA 3 15 3]))) (.ops [oB 16 .add 3 (tK 8) (iK 1) 3 3,oM 8 16 3])))
def iR:SC:= .loop VK
def A3O:SC:= .seq (.ops [oX 2 (.assign (iK 0)) 3]) (.seq (.ops [oX 3 (.assign (iK 0)) 3]) (.seq (.seq (.ops [oM 6 0 26,oN 7 6 26,oX 8 (.move (iK 0)) 3]) (.block 0 iR)) (.seq (.ops [oM 17 3 3,oA 2 17 3]) .ret)))
theorem uT:Try.f159.body.map (Bc lends)=some A3O:=by kernel_rfl
theorem AAK:Bn Try.f159 1=true:=by kernel_rfl
theorem AFr{a l:List D}{r:D×List D}(h:Bq Y.env A3O (F9 Ab l.length [cb 2] r) (entry a l))(ha:a.length=1):Y.call 159 a l=some r:=
 Aa (Y:=Y) rfl Try.func159 (ha▸AAK) uT h
def H7(class_:AO)(n_:Int)(FT:Int)(s:St):Prop:=s.v 3=bd .i64 n_∧s.v 6=b7 3 (AR (bd .i64) class_)∧s.v 7=bd .i64 (class_.length:Int)∧s.v 8=bd .i64 FT
def Ir(class_:AO)(r:Int)(ex:Ex)(s:St):Prop:=ex= .exit 0∧s.v 3=bd .i64 r
theorem VL(class_:AO){v:Int×Int}{s:St}{r:Int}(h:KC class_ v=some r)(hM:H7 class_ v.1 v.2 s):Bq Y.env iR (Ir class_ r) s:=by
 unfold KC at h;refine BV (c:=VK) (fun v=>H6 class_ v.1 v.2) (fun v s=>H7 class_ v.1 v.2 s) (Ir class_) ?_ h hM;clear h hM s v r;intro v s o hM h;obtain⟨n_,FT⟩:=v;dsimp only at h hM;unfold H6 at h;unfold H7 at hM;obtain⟨m0,m1,m2,m3⟩:=hM;unfold VK;by_cases e1:FT<(class_.length:Int)
 ·rw [if_pos e1]at h;obtain⟨e2,h⟩:=BS h;obtain⟨Yd,hl3,h⟩:=Av h;try dsimp only at h
  have c3:=WT n_ (cd.wrap ((class_.getD FT.toNat be)+1)) hl3
  obtain rfl:=Option.some.inj h
  simp (maxDischargeDepth:=9) only [↓AP,AQ,Ae,↓reduceIte,bh,bj,bk,bl,bm,bo,bp,br,bt,bw,bx,bO,b0,b3,b4,b5,b6,m0,m1,m2,m3,e1,e2.1,e2.2,c3,H7,Ir,CU,CV,CW]<;>(repeat' apply A7)<;>first|rfl|exact⟨_,rfl⟩|exact⟨_,_,rfl⟩|simp [AR,A9]
 ·rw [if_neg e1]at h
  obtain rfl:=Option.some.inj h
  simp (maxDischargeDepth:=9) only [↓AP,AQ,Ae,↓reduceIte,bh,bj,bk,bl,bm,bo,bp,br,bt,bw,bx,bO,b0,b3,b4,b5,b6,m0,m1,m2,m3,e1,H7,Ir,CU,CV,CW]<;>(repeat' apply A7)<;>first|rfl|exact⟨_,rfl⟩|exact⟨_,_,rfl⟩|simp [AR,A9]
theorem Ox(class_:AO){r:Int}(h:LC class_=some r):Y.call 159 [b7 3 (AR (bd .i64) class_)] []=some (bd .i64 r,[]):=by
 refine AFr ?_ rfl;unfold A3O;unfold LC at h;obtain⟨AX,hl2,h⟩:=Av h;try dsimp only at h
 simp (maxDischargeDepth:=9) only [↓AP,AQ,Ae,↓reduceIte,bh,bj,bk,bl,bm,bo,bp,br,bt,bw,bx,bO,b0,b3,b4,b5,b6];refine BB (VL class_ hl2 ?_) ?_
 ·simp (maxDischargeDepth:=9) only [↓AP,AQ,Ae,↓reduceIte,bh,bj,bk,bl,bm,bo,bp,br,bt,bw,bx,bO,b0,b3,b4,b5,b6,H7]<;>(repeat' apply A7)<;>first|rfl|exact⟨_,rfl⟩|exact⟨_,_,rfl⟩|simp [AR,A9]
 ·intro ex2 s2 hX2;unfold Ir at hX2;obtain⟨rfl,n2_0⟩:=hX2
  obtain rfl:=Option.some.inj h
  simp (maxDischargeDepth:=9) only [↓AP,AQ,Ae,↓reduceIte,bh,bj,bk,bl,bm,bo,bp,br,bt,bw,bx,bO,b0,b3,b4,b5,b6,n2_0]<;>(repeat' apply A7)<;>first|rfl|exact⟨_,rfl⟩|exact⟨_,_,rfl⟩|simp [AR,A9]
def Er(AC:Aq)(AY:AO)(AB:AO)(class_:AO)(t_:Int):Option ((AO×Int)⊕(Int)):= (L9 AC AY AB class_).bind fun uU=> (LC uU).bind fun I9=> (LC class_).bind fun Qx=> if I9=Qx then some (b8 t_) else some (cc (uU,cd.wrap (t_+1)))
def Iu(AC:Aq)(AY:AO)(AB:AO)(v:AO×Int):Option (Int):=Iy (fun v=>Er AC AY AB v.1 v.2) v
def LD(AC:Aq)(AY:AO)(AB:AO):Option (Int):= (IE AC AY AB (0:Int)).bind fun ou=> (Iu AC AY AB (ou,0)).bind fun AX=> some AX
def VM:SC:= .seq (.block 1 (.seq (.ops [oL 10 47 1 47,oM 11 3 26,oC 12 110 [(tK 10),(tK 11)] [47,26] 26,oA 5 12 26]) (.seq (.seq (.ops [oM 13 5 26,oC 14 159 [(tK 13)] [26] 3,oM 15 3 26,oC 16 159 [(tK 15)] [26] 3,oB 17 .eql 3 (tK 14) (tK 16) 3 4]) (.cond (tK 17) (.seq (.ops [oM 18 4 3,oA 2 18 3]) .ret) .skip)) (.ops [oM 19 5 26,oA 3 19 26])))) (.ops [oM 8 4 3,oB 9 .add 3 (tK 8) (iK 1) 3 3,oA 4 9 3])
def iT:SC:= .loop VM
def A3P:SC:= .seq (.ops [oX 1 (.box 47 (tK 0)) 0,oX 2 (.assign (iK 0)) 3]) (.seq (.ops [oL 6 47 1 47,oC 7 64 [(tK 6),(iK 0)] [47,3] 26,oA 3 7 26]) (.seq (.ops [oX 4 (.assign (iK 0)) 3]) (.block 0 iT)))
theorem uV:Try.f127.body.map (Bc lends)=some A3P:=by kernel_rfl
theorem AAL:Bn Try.f127 1=true:=by kernel_rfl
theorem AFs{a l:List D}{r:D×List D}(h:Bq Y.env A3P (F9 Ab l.length [cb 2] r) (entry a l))(ha:a.length=1):Y.call 127 a l=some r:=
 Aa (Y:=Y) rfl Try.func127 (ha▸AAL) uV h
def Es(AC:Aq)(AY:AO)(AB:AO)(class_:AO)(t_:Int)(s:St):Prop:=s.v 1=cf [b7 123 (AR (fun x=>b7 125 (Ay .i64 .i64 x)) AC),b7 3 (AR (bd .i64) AY),b7 3 (AR (bd .i64) AB)]∧s.v 3=b9 3 (AR (bd .i64) class_)∧s.v 4=bd .i64 t_
def GX(AC:Aq)(AY:AO)(AB:AO)(r:Int)(ex:Ex)(s:St):Prop:=ex= .ret∧s.v 2=bd .i64 r
theorem R9(AC:Aq)(AY:AO)(AB:AO){v:AO×Int}{s:St}{r:Int}(h:Iu AC AY AB v=some r)(hM:Es AC AY AB v.1 v.2 s):Bq Y.env iT (GX AC AY AB r) s:=by
 unfold Iu at h;refine BV (c:=VM) (fun v=>Er AC AY AB v.1 v.2) (fun v s=>Es AC AY AB v.1 v.2 s) (GX AC AY AB) ?_ h hM;clear h hM s v r;intro v s o hM h;obtain⟨class_,t_⟩:=v;dsimp only at h hM;unfold Er at h;unfold Es at hM;obtain⟨m0,m1,m2⟩:=hM;unfold VM;obtain⟨uU,hl2,h⟩:=Av h;try dsimp only at h
 have c2:=Lp AC AY AB class_ hl2;obtain⟨I9,hl3,h⟩:=Av h;try dsimp only at h
 have c3:=Ox uU hl3;obtain⟨Qx,hl4,h⟩:=Av h;try dsimp only at h
 have c4:=Ox class_ hl4;by_cases e5:I9=Qx
 ·rw [if_pos e5]at h
  obtain rfl:=Option.some.inj h
  simp (maxDischargeDepth:=9) only [↓AP,AQ,Ae,↓reduceIte,bh,bj,bk,bl,bm,bo,bp,br,bt,bw,bx,bO,b0,b3,b4,b5,b6,m0,m1,m2,c2,c3,c4,decide_eq_true e5,Es,GX,CU,CV,CW]<;>(repeat' apply A7)<;>first|rfl|exact⟨_,rfl⟩|exact⟨_,_,rfl⟩|simp [AR,A9]
 ·rw [if_neg e5]at h
  obtain rfl:=Option.some.inj h
  simp (maxDischargeDepth:=9) only [↓AP,AQ,Ae,↓reduceIte,bh,bj,bk,bl,bm,bo,bp,br,bt,bw,bx,bO,b0,b3,b4,b5,b6,m0,m1,m2,c2,c3,c4,e5,Es,GX,CU,CV,CW]<;>(repeat' apply A7)<;>first|rfl|exact⟨_,rfl⟩|exact⟨_,_,rfl⟩|simp [AR,A9]
theorem SQ(AC:Aq)(AY:AO)(AB:AO){r:Int}(h:LD AC AY AB=some r):Y.call 127 [D.agg [b7 123 (AR (fun x=>b7 125 (Ay .i64 .i64 x)) AC),b7 3 (AR (bd .i64) AY),b7 3 (AR (bd .i64) AB)]] []=some (bd .i64 r,[]):=by
 refine AFs ?_ rfl;unfold A3P;unfold LD at h;obtain⟨ou,hl1,h⟩:=Av h;try dsimp only at h
 have c1:=MM AC AY AB (0:Int) hl1;obtain⟨AX,hl6,h⟩:=Av h;try dsimp only at h
 simp (maxDischargeDepth:=9) only [↓AP,AQ,Ae,↓reduceIte,bh,bj,bk,bl,bm,bo,bp,br,bt,bw,bx,bO,b0,b3,b4,b5,b6,c1];refine BB (R9 AC AY AB hl6 ?_) ?_
 ·simp (maxDischargeDepth:=9) only [↓AP,AQ,Ae,↓reduceIte,bh,bj,bk,bl,bm,bo,bp,br,bt,bw,bx,bO,b0,b3,b4,b5,b6,c1,Es]<;>(repeat' apply A7)<;>first|rfl|exact⟨_,rfl⟩|exact⟨_,_,rfl⟩|simp [AR,A9]
 ·intro ex6 s6 hX6;unfold GX at hX6;obtain⟨rfl,n6_0⟩:=hX6
  obtain rfl:=Option.some.inj h
  simp (maxDischargeDepth:=9) only [↓AP,AQ,Ae,↓reduceIte,bh,bj,bk,bl,bm,bo,bp,br,bt,bw,bx,bO,b0,b3,b4,b5,b6,c1,n6_0]<;>(repeat' apply A7)<;>first|rfl|exact⟨_,rfl⟩|exact⟨_,_,rfl⟩|simp [AR,A9]
def MN(AC:Aq)(AY:AO)(AB:AO):Option (AO):= (LD AC AY AB).bind fun r5_=> (IE AC AY AB r5_).bind fun r6_=> some r6_
def k74:SC:= .seq (.ops [oX 1 (.box 47 (tK 0)) 0,oX 2 Kz 26]) (.seq (.draws [(⟨[3,1,1],[3,4,5,6,2,6,6],[3]⟩,oL 3 47 1 47),(⟨[4,1,1],[3,4,5,6,2,6,6],[4]⟩,oL 4 47 1 47),(⟨[5,4,1],[3,4,5,6,2,6,6],[5]⟩,oC 5 127 [(tK 4)] [47] 3),(⟨[6,3,5,1,5],[3,4,5,6,2,6,6],[6]⟩,oC 6 64 [(tK 3),(tK 5)] [47,3] 26),(⟨[2,6,6],[3,4,5,6,2,6,6],[2,6,6]⟩,oA 2 6 26)]) .ret)
theorem A3Q:Try.f74.body.map (Bc lends)=some k74:=by kernel_rfl
theorem AFv:Bn Try.f74 1=true:=by kernel_rfl
theorem c74{a l:List D}{r:D×List D}(h:Bq Y.env k74 (F9 Ab l.length [cb 2] r) (entry a l))(ha:a.length=1):Y.call 74 a l=some r:=
 Aa (Y:=Y) rfl Try.func74 (ha▸AFv) A3Q h
theorem VN(AC:Aq)(AY:AO)(AB:AO){r:AO}(h:MN AC AY AB=some r):Y.call 74 [D.agg [b7 123 (AR (fun x=>b7 125 (Ay .i64 .i64 x)) AC),b7 3 (AR (bd .i64) AY),b7 3 (AR (bd .i64) AB)]] []=some (b9 3 (AR (bd .i64) r),[]):=by
 refine c74 ?_ rfl;unfold k74;unfold MN at h;obtain⟨r5_,hl1,h⟩:=Av h;try dsimp only at h
 have c1:=SQ AC AY AB hl1;obtain⟨r6_,hl2,h⟩:=Av h;try dsimp only at h
 have c2:=MM AC AY AB r5_ hl2
 obtain rfl:=Option.some.inj h
 simp (maxDischargeDepth:=9) only [↓AP,AQ,Ae,↓reduceIte,bh,bj,bk,bl,bm,bo,bp,br,bt,bw,bx,bO,b0,b3,b4,b5,b6,c1,c2]<;>(repeat' apply A7)<;>first|rfl|exact⟨_,rfl⟩|exact⟨_,_,rfl⟩|simp [AR,A9]
def QR(task:Int):Option (Bool):= some (JB task (1:Int) (3:Int))
def k68:SC:= .seq (.ops [oX 2 CF 4]) (.seq (.ops [oM 3 0 3,oC 4 97 [(tK 3),(iK 1),(iK 3)] [3,3,3] 4,oA 2 4 4]) .ret)
theorem A3R:Try.f68.body.map (Bc lends)=some k68:=by kernel_rfl
theorem AFx:Bn Try.f68 1=true:=by kernel_rfl
theorem c68{a l:List D}{r:D×List D}(h:Bq Y.env k68 (F9 Ab l.length [cb 2] r) (entry a l))(ha:a.length=1):Y.call 68 a l=some r:=
 Aa (Y:=Y) rfl Try.func68 (ha▸AFx) A3R h
theorem WU(task:Int){r:Bool}(h:QR task=some r):Y.call 68 [bd .i64 task] []=some (ca r,[]):=by
 refine c68 ?_ rfl;unfold k68;unfold QR at h;have c1:=J5 task (1:Int) (3:Int)
 obtain rfl:=Option.some.inj h
 simp (maxDischargeDepth:=9) only [↓AP,AQ,Ae,↓reduceIte,bh,bj,bk,bl,bm,bo,bp,br,bt,bw,bx,bO,b0,b3,b4,b5,b6,c1]<;>(repeat' apply A7)<;>first|rfl|exact⟨_,rfl⟩|exact⟨_,_,rfl⟩|simp [AR,A9]
def Bd(s_:AO)(v_:Int)(FT:Int):Option ((Int)⊕(Int⊕Unit)):= if FT<(s_.length:Int)then ck (0≤FT∧FT.toNat<s_.length)<| if v_=(s_.getD FT.toNat be)then some (b8 (cc FT)) else some (cc (cd.wrap (FT+1))) else some (b8 (b8 ()))
def CZ(s_:AO)(v_:Int)(v:Int):Option (Int⊕Unit):=Iy (fun v=>Bd s_ v_ v) v
def DC(s_:AO)(v_:Int):Option (Int):=
 (CZ s_ v_ 0).bind fun AX=>
 match AX with
 | .inl q1000_=>
  some q1000_
 | .inr q1000_=>
  some (-1)
def VO:SC:= .seq (.ops [oB 9 .lss 3 (tK 8) (tK 7) 3 0]) (.seq (.cond (tK 9) .skip (.exit 0)) (.seq (.block 1 (.seq (.ops [oM 10 8 3,oA 5 10 3]) (.seq (.ops [oM 11 1 3,oM 12 0 26,oM 13 5 3,oI 14 26 12 13,oL 15 3 14 3,oB 16 .eql 3 (tK 11) (tK 15) 3 4]) (.cond (tK 16) (.seq (.ops [oM 17 5 3,oA 4 17 3]) .ret) .skip)))) (.ops [oB 18 .add 3 (tK 8) (iK 1) 3 3,oM 8 18 3])))
def iU:SC:= .loop VO
def A3S:SC:= .seq (.ops [oX 4 (.assign (iK 0)) 3]) (.seq (.seq (.ops [oM 6 0 26,oN 7 6 26,oX 8 (.move (iK 0)) 3]) (.block 0 iU)) (.seq (.ops [oX 4 O7 3]) .ret))
theorem uW:Try.f123.body.map (Bc lends)=some A3S:=by kernel_rfl
theorem AAM:Bn Try.f123 2=true:=by kernel_rfl
theorem AFy{a l:List D}{r:D×List D}(h:Bq Y.env A3S (F9 Ab l.length [cb 4] r) (entry a l))(ha:a.length=2):Y.call 123 a l=some r:=
 Aa (Y:=Y) rfl Try.func123 (ha▸AAM) uW h
def BN(s_:AO)(v_:Int)(FT:Int)(s:St):Prop:=s.v 0=b7 3 (AR (bd .i64) s_)∧s.v 1=bd .i64 v_∧s.v 7=bd .i64 (s_.length:Int)∧s.v 8=bd .i64 FT
def BO(s_:AO)(v_:Int)(r:Int⊕Unit)(ex:Ex)(s:St):Prop:=match r with
 | .inl q=>ex= .ret∧s.v 4=bd .i64 q
 | .inr q=>ex= .exit 0
theorem KD(s_:AO)(v_:Int){v:Int}{s:St}{r:Int⊕Unit}(h:CZ s_ v_ v=some r)(hM:BN s_ v_ v s):Bq Y.env iU (BO s_ v_ r) s:=by
 unfold CZ at h;refine BV (c:=VO) (fun v=>Bd s_ v_ v) (fun v s=>BN s_ v_ v s) (BO s_ v_) ?_ h hM;clear h hM s v r;intro FT s o hM h;unfold Bd at h;unfold BN at hM;obtain⟨m0,m1,m2,m3⟩:=hM;unfold VO;by_cases e1:FT<(s_.length:Int)
 ·rw [if_pos e1]at h;obtain⟨e2,h⟩:=BS h;by_cases e3:v_=(s_.getD FT.toNat be)
  ·rw [if_pos e3]at h
   obtain rfl:=Option.some.inj h
   simp (maxDischargeDepth:=9) only [↓AP,AQ,Ae,↓reduceIte,bh,bj,bk,bl,bm,bo,bp,br,bt,bw,bx,bO,b0,b3,b4,b5,b6,m0,m1,m2,m3,e1,e2.1,e2.2,decide_eq_true e3,BN,BO,CU,CV,CW]<;>(repeat' apply A7)<;>first|rfl|exact⟨_,rfl⟩|exact⟨_,_,rfl⟩|simp [AR,A9]
  ·rw [if_neg e3]at h
   obtain rfl:=Option.some.inj h
   simp (maxDischargeDepth:=9) only [↓AP,AQ,Ae,↓reduceIte,bh,bj,bk,bl,bm,bo,bp,br,bt,bw,bx,bO,b0,b3,b4,b5,b6,m0,m1,m2,m3,e1,e2.1,e2.2,e3,BN,BO,CU,CV,CW]<;>(repeat' apply A7)<;>first|rfl|exact⟨_,rfl⟩|exact⟨_,_,rfl⟩|simp [AR,A9]
 ·rw [if_neg e1]at h
  obtain rfl:=Option.some.inj h
  simp (maxDischargeDepth:=9) only [↓AP,AQ,Ae,↓reduceIte,bh,bj,bk,bl,bm,bo,bp,br,bt,bw,bx,bO,b0,b3,b4,b5,b6,m0,m1,m2,m3,e1,BN,BO,CU,CV,CW]<;>(repeat' apply A7)<;>first|rfl|exact⟨_,rfl⟩|exact⟨_,_,rfl⟩|simp [AR,A9]
theorem KM(s_:AO)(v_:Int){r:Int}(h:DC s_ v_=some r):Y.call 123 [b7 3 (AR (bd .i64) s_),bd .i64 v_] []=some (bd .i64 r,[]):=by
 refine AFy ?_ rfl;unfold A3S;unfold DC at h;obtain⟨AX,hl2,h⟩:=Av h;try dsimp only at h
 simp (maxDischargeDepth:=9) only [↓AP,AQ,Ae,↓reduceIte,bh,bj,bk,bl,bm,bo,bp,br,bt,bw,bx,bO,b0,b3,b4,b5,b6];refine BB (KD s_ v_ hl2 ?_) ?_
 ·simp (maxDischargeDepth:=9) only [↓AP,AQ,Ae,↓reduceIte,bh,bj,bk,bl,bm,bo,bp,br,bt,bw,bx,bO,b0,b3,b4,b5,b6,BN]<;>(repeat' apply A7)<;>first|rfl|exact⟨_,rfl⟩|exact⟨_,_,rfl⟩|simp [AR,A9]
 ·intro ex2 s2 hX2;rcases AX with q1000_|q1000_
  ·unfold BO at hX2;dsimp only at hX2 h;obtain⟨rfl,n2_0⟩:=hX2
   obtain rfl:=Option.some.inj h
   simp (maxDischargeDepth:=9) only [↓AP,AQ,Ae,↓reduceIte,bh,bj,bk,bl,bm,bo,bp,br,bt,bw,bx,bO,b0,b3,b4,b5,b6,n2_0]<;>(repeat' apply A7)<;>first|rfl|exact⟨_,rfl⟩|exact⟨_,_,rfl⟩|simp [AR,A9]
  ·unfold BO at hX2;dsimp only at hX2 h
   obtain rfl:=hX2
   obtain rfl:=Option.some.inj h
   simp (maxDischargeDepth:=9) only [↓AP,AQ,Ae,↓reduceIte,bh,bj,bk,bl,bm,bo,bp,br,bt,bw,bx,bO,b0,b3,b4,b5,b6]<;>(repeat' apply A7)<;>first|rfl|exact⟨_,rfl⟩|exact⟨_,_,rfl⟩|simp [AR,A9]
def Sv(b:Bool):Option (Int):= if b=true then some 1 else some 0
def A3T:SC:= .seq (.ops [oX 2 (.assign (iK 0)) 3]) (.seq (.seq (.ops [oM 3 0 4]) (.cond (tK 3) (.seq (.ops [oX 2 (.assign (iK 1)) 3]) .ret) .skip)) (.seq (.ops [oX 2 (.assign (iK 0)) 3]) .ret))
theorem uX:Try.f124.body.map (Bc lends)=some A3T:=by kernel_rfl
theorem AAN:Bn Try.f124 1=true:=by kernel_rfl
theorem AFz{a l:List D}{r:D×List D}(h:Bq Y.env A3T (F9 Ab l.length [cb 2] r) (entry a l))(ha:a.length=1):Y.call 124 a l=some r:=
 Aa (Y:=Y) rfl Try.func124 (ha▸AAN) uX h
theorem Yf(b:Bool){r:Int}(h:Sv b=some r):Y.call 124 [ca b] []=some (bd .i64 r,[]):=by
 refine AFz ?_ rfl;unfold A3T;unfold Sv at h;by_cases e1:b=true
 ·rw [if_pos e1]at h
  obtain rfl:=Option.some.inj h
  simp (maxDischargeDepth:=9) only [↓AP,AQ,Ae,↓reduceIte,bh,bj,bk,bl,bm,bo,bp,br,bt,bw,bx,bO,b0,b3,b4,b5,b6,e1]<;>(repeat' apply A7)<;>first|rfl|exact⟨_,rfl⟩|exact⟨_,_,rfl⟩|simp [AR,A9]
 ·rw [if_neg e1]at h;have e1f:b=false:=JA.mpr e1
  obtain rfl:=Option.some.inj h
  simp (maxDischargeDepth:=9) only [↓AP,AQ,Ae,↓reduceIte,bh,bj,bk,bl,bm,bo,bp,br,bt,bw,bx,bO,b0,b3,b4,b5,b6,e1f]<;>(repeat' apply A7)<;>first|rfl|exact⟨_,rfl⟩|exact⟨_,_,rfl⟩|simp [AR,A9]
def Dz(class_:AO)(counts:AO)(LJ:Int):Option ((AO×Int)⊕(AO)):= if LJ<(class_.length:Int)then ck (0≤LJ∧LJ.toNat<class_.length)<| ck (0≤(class_.getD LJ.toNat be)∧(class_.getD LJ.toNat be).toNat<counts.length)<| some (cc ((counts.set ((class_.getD LJ.toNat be).toNat) (cd.wrap ((counts.getD ((class_.getD LJ.toNat be).toNat) be)+1))),cd.wrap (LJ+1))) else some (b8 counts)
def GY(class_:AO)(v:AO×Int):Option (AO):=Iy (fun v=>Dz class_ v.1 v.2) v
def E5(class_:AO)(BG:Int)(out:AO)(WV:Int):Option ((AO×Int)⊕(AO)):= if WV<(class_.length:Int)then ck (0≤WV∧WV.toNat<class_.length)<| (Sv (decide ((class_.getD WV.toNat be)=BG))).bind fun AAO=> ck (out.length+1<1099511627776)<| some (cc ((out++[AAO]),cd.wrap (WV+1))) else some (b8 out)
def GZ(class_:AO)(BG:Int)(v:AO×Int):Option (AO):=Iy (fun v=>E5 class_ BG v.1 v.2) v
def GL(task:Int)(class_:AO):Option (AO):= if task=1 then (F5 class_).bind fun ae=> ck (0≤ae∧ae<1099511627776)<| (GY class_ ((ao ae.toNat 0),0)).bind fun AX=> (DC AX (1:Int)).bind fun BG=> (GZ class_ BG ([],0)).bind fun Ce=> some Ce else ck (class_.length<1099511627776)<| some class_
def Yg:SC:= .seq (.ops [oB 22 .lss 3 (tK 21) (tK 20) 3 0]) (.seq (.cond (tK 22) .skip (.exit 0)) (.seq (.block 1 (.seq (.ops [oI 23 26 19 21,oL 24 3 23 3,oA 7 24 3]) (.ops [oM 25 5 26,oM 26 7 3,oI 27 26 25 26,oL 28 3 27 3,oB 29 .add 3 (tK 28) (iK 1) 3 3,oI 30 26 25 26,oS 3 30 29]))) (.ops [oB 31 .add 3 (tK 21) (iK 1) 3 3,oM 21 31 3])))
def qB:SC:= .loop Yg
def Yh:SC:= .seq (.ops [oB 37 .lss 3 (tK 36) (tK 35) 3 0]) (.seq (.cond (tK 37) .skip (.exit 2)) (.seq (.block 3 (.seq (.ops [oI 38 26 34 36,oL 39 3 38 3,oA 11 39 3]) (.ops [oM 40 9 26,oM 41 11 3,oM 42 8 3,oB 43 .eql 3 (tK 41) (tK 42) 3 4,oC 44 124 [(tK 43)] [4] 3,oX 45 (.buildSlice 26 1 #[(0,(tK 44))]) 26,oX 46 (.call ⟨(.builtin .append), #[(tK 40),(tK 45)], #[26,26]⟩) 26,oA 9 46 26]))) (.ops [oB 47 .add 3 (tK 36) (iK 1) 3 3,oM 36 47 3])))
def qC:SC:= .loop Yh
def k71:SC:= .seq (.ops [oX 4 Kz 26]) (.seq (.seq (.ops [oM 12 0 3,oB 13 .neq 3 (tK 12) (iK 1) 3 4]) (.cond (tK 13) (.seq (.ops [oM 14 1 26,oC 15 121 [(tK 14)] [26] 26,oA 4 15 26]) .ret) .skip)) (.seq (.ops [oM 16 1 26,oC 17 122 [(tK 16)] [26] 3,oX 18 (.makeSlice 26 (tK 17) (tK 17)) 26,oA 5 18 26]) (.seq (.seq (.ops [oM 19 1 26,oN 20 19 26,oX 21 (.move (iK 0)) 3]) (.block 0 qB)) (.seq (.ops [oM 32 5 26,oC 33 123 [(tK 32),(iK 1)] [26,3] 3,oA 8 33 3]) (.seq (.ops [oX 9 Kz 26]) (.seq (.seq (.ops [oM 34 1 26,oN 35 34 26,oX 36 (.move (iK 0)) 3]) (.block 2 qC)) (.seq (.ops [oM 48 9 26,oA 4 48 26]) .ret)))))))
theorem A3U:Try.f71.body.map (Bc lends)=some k71:=by kernel_rfl
theorem AG1:Bn Try.f71 2=true:=by kernel_rfl
theorem c71{a l:List D}{r:D×List D}(h:Bq Y.env k71 (F9 Ab l.length [cb 4] r) (entry a l))(ha:a.length=2):Y.call 71 a l=some r:=
 Aa (Y:=Y) rfl Try.func71 (ha▸AG1) A3U h
def E8(class_:AO)(counts:AO)(LJ:Int)(s:St):Prop:=s.v 1=b7 3 (AR (bd .i64) class_)∧s.v 5=b9 3 (AR (bd .i64) counts)∧s.v 19=b7 3 (AR (bd .i64) class_)∧s.v 20=bd .i64 (class_.length:Int)∧s.v 21=bd .i64 LJ
def F6(class_:AO)(r:AO)(ex:Ex)(s:St):Prop:=ex= .exit 0∧s.v 1=b7 3 (AR (bd .i64) class_)∧s.v 5=b9 3 (AR (bd .i64) r)
theorem PT(class_:AO){v:AO×Int}{s:St}{r:AO}(h:GY class_ v=some r)(hM:E8 class_ v.1 v.2 s):Bq Y.env qB (F6 class_ r) s:=by
 unfold GY at h;refine BV (c:=Yg) (fun v=>Dz class_ v.1 v.2) (fun v s=>E8 class_ v.1 v.2 s) (F6 class_) ?_ h hM;clear h hM s v r;intro v s o hM h;obtain⟨counts,LJ⟩:=v;dsimp only at h hM;unfold Dz at h;unfold E8 at hM;obtain⟨m0,m1,m2,m3,m4⟩:=hM;unfold Yg;by_cases e4:LJ<(class_.length:Int)
 ·rw [if_pos e4]at h;obtain⟨e5,h⟩:=BS h;obtain⟨e6,h⟩:=BS h
  obtain rfl:=Option.some.inj h
  simp (maxDischargeDepth:=9) only [↓AP,AQ,Ae,↓reduceIte,bh,bj,bk,bl,bm,bo,bp,br,bt,bw,bx,bO,b0,b3,b4,b5,b6,m0,m1,m2,m3,m4,e4,e5.1,e5.2,e6.1,e6.2,E8,F6,CU,CV,CW]<;>(repeat' apply A7)<;>first|rfl|exact⟨_,rfl⟩|exact⟨_,_,rfl⟩|simp [AR,A9]
 ·rw [if_neg e4]at h
  obtain rfl:=Option.some.inj h
  simp (maxDischargeDepth:=9) only [↓AP,AQ,Ae,↓reduceIte,bh,bj,bk,bl,bm,bo,bp,br,bt,bw,bx,bO,b0,b3,b4,b5,b6,m0,m1,m2,m3,m4,e4,E8,F6,CU,CV,CW]<;>(repeat' apply A7)<;>first|rfl|exact⟨_,rfl⟩|exact⟨_,_,rfl⟩|simp [AR,A9]
def E9(class_:AO)(BG:Int)(out:AO)(WV:Int)(s:St):Prop:=s.v 8=bd .i64 BG∧s.v 9=b9 3 (AR (bd .i64) out)∧s.v 34=b7 3 (AR (bd .i64) class_)∧s.v 35=bd .i64 (class_.length:Int)∧s.v 36=bd .i64 WV
def F7(class_:AO)(BG:Int)(r:AO)(ex:Ex)(s:St):Prop:=ex= .exit 2∧s.v 9=b9 3 (AR (bd .i64) r)
theorem PU(class_:AO)(BG:Int){v:AO×Int}{s:St}{r:AO}(h:GZ class_ BG v=some r)(hM:E9 class_ BG v.1 v.2 s):Bq Y.env qC (F7 class_ BG r) s:=by
 unfold GZ at h;refine BV (c:=Yh) (fun v=>E5 class_ BG v.1 v.2) (fun v s=>E9 class_ BG v.1 v.2 s) (F7 class_ BG) ?_ h hM;clear h hM s v r;intro v s o hM h;obtain⟨out,WV⟩:=v;dsimp only at h hM;unfold E5 at h;unfold E9 at hM;obtain⟨m0,m1,m2,m3,m4⟩:=hM;unfold Yh;by_cases e7:WV<(class_.length:Int)
 ·rw [if_pos e7]at h;obtain⟨e8,h⟩:=BS h;obtain⟨AAO,hl9,h⟩:=Av h;try dsimp only at h
  have c9:=Yf (decide ((class_.getD WV.toNat be)=BG)) hl9;obtain⟨e10,h⟩:=BS h
  obtain rfl:=Option.some.inj h
  simp (maxDischargeDepth:=9) only [↓AP,AQ,Ae,↓reduceIte,bh,bj,bk,bl,bm,bo,bp,br,bt,bw,bx,bO,b0,b3,b4,b5,b6,m0,m1,m2,m3,m4,e7,e8.1,e8.2,c9,e10,E9,F7,CU,CV,CW]<;>(repeat' apply A7)<;>first|rfl|exact⟨_,rfl⟩|exact⟨_,_,rfl⟩|simp [AR,A9]
 ·rw [if_neg e7]at h
  obtain rfl:=Option.some.inj h
  simp (maxDischargeDepth:=9) only [↓AP,AQ,Ae,↓reduceIte,bh,bj,bk,bl,bm,bo,bp,br,bt,bw,bx,bO,b0,b3,b4,b5,b6,m0,m1,m2,m3,m4,e7,E9,F7,CU,CV,CW]<;>(repeat' apply A7)<;>first|rfl|exact⟨_,rfl⟩|exact⟨_,_,rfl⟩|simp [AR,A9]
theorem QS(task:Int)(class_:AO){r:AO}(h:GL task class_=some r):Y.call 71 [bd .i64 task,b7 3 (AR (bd .i64) class_)] []=some (b9 3 (AR (bd .i64) r),[]):=by
 refine c71 ?_ rfl;unfold k71;unfold GL at h;by_cases e1:task=1
 ·rw [if_pos e1]at h;obtain⟨ae,hl2,h⟩:=Av h;try dsimp only at h
  have c2:=JP class_ hl2;obtain⟨e3,h⟩:=BS h;obtain⟨AX,hl5,h⟩:=Av h;try dsimp only at h
  simp (maxDischargeDepth:=9) only [↓AP,AQ,Ae,↓reduceIte,bh,bj,bk,bl,bm,bo,bp,br,bt,bw,bx,bO,b0,b3,b4,b5,b6,decide_eq_true e1,c2,e3.1,e3.2];refine BB (PT class_ hl5 ?_) ?_
  ·simp (maxDischargeDepth:=9) only [↓AP,AQ,Ae,↓reduceIte,bh,bj,bk,bl,bm,bo,bp,br,bt,bw,bx,bO,b0,b3,b4,b5,b6,decide_eq_true e1,c2,e3.1,e3.2,E8]<;>(repeat' apply A7)<;>first|rfl|exact⟨_,rfl⟩|exact⟨_,_,rfl⟩|simp [AR,A9]
  ·intro ex5 s5 hX5;unfold F6 at hX5;obtain⟨rfl,n5_0,n5_1⟩:=hX5;obtain⟨BG,hl6,h⟩:=Av h;try dsimp only at h
   have c6:=KM AX (1:Int) hl6;obtain⟨Ce,hl8,h⟩:=Av h;try dsimp only at h
   simp (maxDischargeDepth:=9) only [↓AP,AQ,Ae,↓reduceIte,bh,bj,bk,bl,bm,bo,bp,br,bt,bw,bx,bO,b0,b3,b4,b5,b6,decide_eq_true e1,c2,e3.1,e3.2,n5_0,n5_1,c6];refine BB (PU class_ BG hl8 ?_) ?_
   ·simp (maxDischargeDepth:=9) only [↓AP,AQ,Ae,↓reduceIte,bh,bj,bk,bl,bm,bo,bp,br,bt,bw,bx,bO,b0,b3,b4,b5,b6,decide_eq_true e1,c2,e3.1,e3.2,n5_0,n5_1,c6,E9]<;>(repeat' apply A7)<;>first|rfl|exact⟨_,rfl⟩|exact⟨_,_,rfl⟩|simp [AR,A9]
   ·intro ex8 s8 hX8;unfold F7 at hX8;obtain⟨rfl,n8_0⟩:=hX8
    obtain rfl:=Option.some.inj h
    simp (maxDischargeDepth:=9) only [↓AP,AQ,Ae,↓reduceIte,bh,bj,bk,bl,bm,bo,bp,br,bt,bw,bx,bO,b0,b3,b4,b5,b6,decide_eq_true e1,c2,e3.1,e3.2,c6,n8_0]<;>(repeat' apply A7)<;>first|rfl|exact⟨_,rfl⟩|exact⟨_,_,rfl⟩|simp [AR,A9]
 ·rw [if_neg e1]at h;obtain⟨e2,h⟩:=BS h;have c3:=I6 class_ e2
  obtain rfl:=Option.some.inj h
  simp (maxDischargeDepth:=9) only [↓AP,AQ,Ae,↓reduceIte,bh,bj,bk,bl,bm,bo,bp,br,bt,bw,bx,bO,b0,b3,b4,b5,b6,e1,e2,c3]<;>(repeat' apply A7)<;>first|rfl|exact⟨_,rfl⟩|exact⟨_,_,rfl⟩|simp [AR,A9]
def QT(task:Int):Option (Bool):= some (JB task (1:Int) (3:Int))
def k61:SC:= .seq (.ops [oX 2 CF 4]) (.seq (.ops [oM 3 0 3,oC 4 92 [(tK 3),(iK 1),(iK 3)] [3,3,3] 4,oA 2 4 4]) .ret)
theorem A3V:Try.f61.body.map (Bc lends)=some k61:=by kernel_rfl
theorem AG3:Bn Try.f61 1=true:=by kernel_rfl
theorem c61{a l:List D}{r:D×List D}(h:Bq Y.env k61 (F9 Ab l.length [cb 2] r) (entry a l))(ha:a.length=1):Y.call 61 a l=some r:=
 Aa (Y:=Y) rfl Try.func61 (ha▸AG3) A3V h
theorem WW(task:Int){r:Bool}(h:QT task=some r):Y.call 61 [bd .i64 task] []=some (ca r,[]):=by
 refine c61 ?_ rfl;unfold k61;unfold QT at h;have c1:=Kl task (1:Int) (3:Int)
 obtain rfl:=Option.some.inj h
 simp (maxDischargeDepth:=9) only [↓AP,AQ,Ae,↓reduceIte,bh,bj,bk,bl,bm,bo,bp,br,bt,bw,bx,bO,b0,b3,b4,b5,b6,c1]<;>(repeat' apply A7)<;>first|rfl|exact⟨_,rfl⟩|exact⟨_,_,rfl⟩|simp [AR,A9]
def H8(l:AO)(out:Int)(FT:Int):Option ((Int×Int)⊕(Int)):= if FT<(l.length:Int)then ck (0≤FT∧FT.toNat<l.length)<| ck (0≤FT)<| ck (FT.toNat≤l.length)<| ck (((l.take FT.toNat).drop 0).length<1099511627776)<| if(((l.take FT.toNat).drop 0).contains (l.getD FT.toNat be))=true then some (cc (out,cd.wrap (FT+1))) else ck (0≤cd.wrap (FT+1))<| ck ((cd.wrap (FT+1)).toNat≤l.length)<| ck (((l.take l.length).drop ((cd.wrap (FT+1)).toNat)).length<1099511627776)<| if(((l.take l.length).drop ((cd.wrap (FT+1)).toNat)).contains (l.getD FT.toNat be))=true then some (cc (out,cd.wrap (FT+1))) else if out<0 then some (cc ((l.getD FT.toNat be),cd.wrap (FT+1))) else if(l.getD FT.toNat be)<out then some (cc ((l.getD FT.toNat be),cd.wrap (FT+1))) else some (cc (out,cd.wrap (FT+1))) else some (b8 out)
def KE(l:AO)(v:Int×Int):Option (Int):=Iy (fun v=>H8 l v.1 v.2) v
def MO(l:AO):Option (Int):= (KE l ((-1),0)).bind fun AX=> some AX
def VP:SC:= .seq (.ops [oB 9 .lss 3 (tK 8) (tK 7) 3 0]) (.seq (.cond (tK 9) .skip (.exit 0)) (.seq (.block 1 (.seq (.ops [oM 10 8 3,oI 11 26 6 8,oL 12 3 11 3,oA 4 10 3,oA 5 12 3]) (.seq (.ops [oM 13 0 26,oM 14 4 3,oX 15 (.slice 26 (tK 13) none (some (tK 14)) none) 900001,oM 16 5 3,oC 17 89 [(tK 15),(tK 16)] [26,3] 4,oX 18 (.unOp .not 4 (tK 17)) 4,oM 19 18 4,⟨(some 20),(.move (tK 0)),26,(some (some 19,true))⟩,⟨(some 21),(.move (tK 4)),3,(some (some 19,true))⟩,⟨(some 22),(.binOp .add 3 (tK 21) (iK 1) 3),3,(some (some 19,true))⟩,⟨(some 23),(.slice 26 (tK 20) (some (tK 22)) none none),900001,(some (some 19,true))⟩,⟨(some 24),(.move (tK 5)),3,(some (some 19,true))⟩,⟨(some 25),(.call ⟨(.value (.func 89)), #[(tK 23),(tK 24)], #[26,3]⟩),4,(some (some 19,true))⟩,⟨(some 26),(.unOp .not 4 (tK 25)),4,(some (some 19,true))⟩,oX 27 (.pick (tK 19) (tK 26) PO) 4,oM 28 27 4,⟨(some 29),(.move (tK 3)),3,(some (some 28,true))⟩,⟨(some 30),(.binOp .lss 3 (tK 29) (iK 0) 3),4,(some (some 28,true))⟩,⟨(some 31),(.move (tK 30)),4,(some (some 28,true))⟩,⟨(some 32),(.move (tK 5)),3,(some (some 31,false))⟩,⟨(some 33),(.move (tK 3)),3,(some (some 31,false))⟩,⟨(some 34),(.binOp .lss 3 (tK 32) (tK 33) 3),4,(some (some 31,false))⟩,
 ⟨(some 35),(.pick (tK 31) Eh (tK 34)),4,(some (some 28,true))⟩,oX 36 (.pick (tK 28) (tK 35) PO) 4]) (.cond (tK 36) (.ops [oM 37 5 3,oA 3 37 3]) .skip)))) (.ops [oB 38 .add 3 (tK 8) (iK 1) 3 3,oM 8 38 3])))
def iV:SC:= .loop VP
def A3W:SC:= .seq (.ops [oX 2 (.assign (iK 0)) 3]) (.seq (.ops [oX 3 O7 3]) (.seq (.seq (.ops [oM 6 0 26,oN 7 6 26,oX 8 (.move (iK 0)) 3]) (.block 0 iV)) (.seq (.ops [oM 39 3 3,oA 2 39 3]) .ret)))
theorem uY:Try.f108.body.map (Bc lends)=some A3W:=by kernel_rfl
theorem AAP:Bn Try.f108 1=true:=by kernel_rfl
theorem AG4{a l:List D}{r:D×List D}(h:Bq Y.env A3W (F9 Ab l.length [cb 2] r) (entry a l))(ha:a.length=1):Y.call 108 a l=some r:=
 Aa (Y:=Y) rfl Try.func108 (ha▸AAP) uY h
def DF(l:AO)(out:Int)(FT:Int)(s:St):Prop:=s.v 0=b7 3 (AR (bd .i64) l)∧s.v 3=bd .i64 out∧s.v 6=b7 3 (AR (bd .i64) l)∧s.v 7=bd .i64 (l.length:Int)∧s.v 8=bd .i64 FT
def Di(l:AO)(r:Int)(ex:Ex)(s:St):Prop:=ex= .exit 0∧s.v 3=bd .i64 r
theorem VQ(l:AO){v:Int×Int}{s:St}{r:Int}(h:KE l v=some r)(hM:DF l v.1 v.2 s):Bq Y.env iV (Di l r) s:=by
 unfold KE at h;refine BV (c:=VP) (fun v=>H8 l v.1 v.2) (fun v s=>DF l v.1 v.2 s) (Di l) ?_ h hM;clear h hM s v r;intro v s o hM h;obtain⟨out,FT⟩:=v;dsimp only at h hM;unfold H8 at h;unfold DF at hM;obtain⟨m0,m1,m2,m3,m4⟩:=hM;unfold VP;by_cases e1:FT<(l.length:Int)
 ·rw [if_pos e1]at h;obtain⟨e2,h⟩:=BS h;obtain⟨e3,h⟩:=BS h;obtain⟨e4,h⟩:=BS h;obtain⟨e5,h⟩:=BS h;have c6:=Mr ((l.take FT.toNat).drop 0) (l.getD FT.toNat be) e5;by_cases e7:(((l.take FT.toNat).drop 0).contains (l.getD FT.toNat be))=true
  ·rw [if_pos e7]at h
   obtain rfl:=Option.some.inj h
   simp (maxDischargeDepth:=9) only [↓AP,AQ,Ae,↓reduceIte,bh,bj,bk,bl,bm,bo,bp,br,bt,bw,bx,bO,b0,b3,b4,b5,b6,m0,m1,m2,m3,m4,e1,e2.1,e2.2,e3,e4,e5,c6,e7,DF,Di,CU,CV,CW]<;>(repeat' apply A7)<;>first|rfl|exact⟨_,rfl⟩|exact⟨_,_,rfl⟩|simp [AR,A9]
  ·rw [if_neg e7]at h;have e7f:(((l.take FT.toNat).drop 0).contains (l.getD FT.toNat be))=false:=JA.mpr e7;obtain⟨e8,h⟩:=BS h;obtain⟨e9,h⟩:=BS h;obtain⟨e10,h⟩:=BS h;have c11:=Mr ((l.take l.length).drop ((cd.wrap (FT+1)).toNat)) (l.getD FT.toNat be) e10;by_cases e12:(((l.take l.length).drop ((cd.wrap (FT+1)).toNat)).contains (l.getD FT.toNat be))=true
   ·rw [if_pos e12]at h
    obtain rfl:=Option.some.inj h
    simp (maxDischargeDepth:=9) only [↓AP,AQ,Ae,↓reduceIte,bh,bj,bk,bl,bm,bo,bp,br,bt,bw,bx,bO,b0,b3,b4,b5,b6,m0,m1,m2,m3,m4,e1,e2.1,e2.2,e3,e4,e5,c6,e7f,e8,e9,e10,c11,e12,DF,Di,CU,CV,CW]<;>(repeat' apply A7)<;>first|rfl|exact⟨_,rfl⟩|exact⟨_,_,rfl⟩|simp [AR,A9]
   ·rw [if_neg e12]at h;have e12f:(((l.take l.length).drop ((cd.wrap (FT+1)).toNat)).contains (l.getD FT.toNat be))=false:=JA.mpr e12;by_cases e13:out<0
    ·rw [if_pos e13]at h
     obtain rfl:=Option.some.inj h
     simp (maxDischargeDepth:=9) only [↓AP,AQ,Ae,↓reduceIte,bh,bj,bk,bl,bm,bo,bp,br,bt,bw,bx,bO,b0,b3,b4,b5,b6,m0,m1,m2,m3,m4,e1,e2.1,e2.2,e3,e4,e5,c6,e7f,e8,e9,e10,c11,e12f,e13,DF,Di,CU,CV,CW]<;>(repeat' apply A7)<;>first|rfl|exact⟨_,rfl⟩|exact⟨_,_,rfl⟩|simp [AR,A9]
    ·rw [if_neg e13]at h;by_cases e14:(l.getD FT.toNat be)<out
     ·rw [if_pos e14]at h
      obtain rfl:=Option.some.inj h
      simp (maxDischargeDepth:=9) only [↓AP,AQ,Ae,↓reduceIte,bh,bj,bk,bl,bm,bo,bp,br,bt,bw,bx,bO,b0,b3,b4,b5,b6,m0,m1,m2,m3,m4,e1,e2.1,e2.2,e3,e4,e5,c6,e7f,e8,e9,e10,c11,e12f,e13,e14,DF,Di,CU,CV,CW]<;>(repeat' apply A7)<;>first|rfl|exact⟨_,rfl⟩|exact⟨_,_,rfl⟩|simp [AR,A9]
     ·rw [if_neg e14]at h
      obtain rfl:=Option.some.inj h
      simp (maxDischargeDepth:=9) only [↓AP,AQ,Ae,↓reduceIte,bh,bj,bk,bl,bm,bo,bp,br,bt,bw,bx,bO,b0,b3,b4,b5,b6,m0,m1,m2,m3,m4,e1,e2.1,e2.2,e3,e4,e5,c6,e7f,e8,e9,e10,c11,e12f,e13,e14,DF,Di,CU,CV,CW]<;>(repeat' apply A7)<;>first|rfl|exact⟨_,rfl⟩|exact⟨_,_,rfl⟩|simp [AR,A9]
 ·rw [if_neg e1]at h
  obtain rfl:=Option.some.inj h
  simp (maxDischargeDepth:=9) only [↓AP,AQ,Ae,↓reduceIte,bh,bj,bk,bl,bm,bo,bp,br,bt,bw,bx,bO,b0,b3,b4,b5,b6,m0,m1,m2,m3,m4,e1,DF,Di,CU,CV,CW]<;>(repeat' apply A7)<;>first|rfl|exact⟨_,rfl⟩|exact⟨_,_,rfl⟩|simp [AR,A9]
theorem Oy(l:AO){r:Int}(h:MO l=some r):Y.call 108 [b7 3 (AR (bd .i64) l)] []=some (bd .i64 r,[]):=by
 refine AG4 ?_ rfl;unfold A3W;unfold MO at h;obtain⟨AX,hl2,h⟩:=Av h;try dsimp only at h
 simp (maxDischargeDepth:=9) only [↓AP,AQ,Ae,↓reduceIte,bh,bj,bk,bl,bm,bo,bp,br,bt,bw,bx,bO,b0,b3,b4,b5,b6];refine BB (VQ l hl2 ?_) ?_
 ·simp (maxDischargeDepth:=9) only [↓AP,AQ,Ae,↓reduceIte,bh,bj,bk,bl,bm,bo,bp,br,bt,bw,bx,bO,b0,b3,b4,b5,b6,DF]<;>(repeat' apply A7)<;>first|rfl|exact⟨_,rfl⟩|exact⟨_,_,rfl⟩|simp [AR,A9]
 ·intro ex2 s2 hX2;unfold Di at hX2;obtain⟨rfl,n2_0⟩:=hX2
  obtain rfl:=Option.some.inj h
  simp (maxDischargeDepth:=9) only [↓AP,AQ,Ae,↓reduceIte,bh,bj,bk,bl,bm,bo,bp,br,bt,bw,bx,bO,b0,b3,b4,b5,b6,n2_0]<;>(repeat' apply A7)<;>first|rfl|exact⟨_,rfl⟩|exact⟨_,_,rfl⟩|simp [AR,A9]
def OZ(AC:Aq)(AY:AO)(AB:AO)(task:Int)(class_:AO):Option (Bool):= if task=1 then (MO class_).bind fun AAQ=> some (decide (0≤AAQ)) else (Jl AC AY AB task class_).bind fun Yd=> some Yd
def k63:SC:= .seq (.ops [oX 3 (.box 47 (tK 0)) 0,oX 6 CF 4]) (.seq (.seq (.ops [oM 7 1 3,oB 8 .eql 3 (tK 7) (iK 1) 3 4]) (.cond (tK 8) (.seq (.ops [oM 9 2 26,oC 10 108 [(tK 9)] [26] 3,oB 11 .geq 3 (tK 10) (iK 0) 3 4,oA 6 11 4]) .ret) .skip)) (.seq (.ops [oL 12 47 3 47,oM 13 1 3,oM 14 2 26,oC 15 109 [(tK 12),(tK 13),(tK 14)] [47,3,26] 4,oA 6 15 4]) .ret))
theorem A3X:Try.f63.body.map (Bc lends)=some k63:=by kernel_rfl
theorem AG6:Bn Try.f63 3=true:=by kernel_rfl
theorem c63{a l:List D}{r:D×List D}(h:Bq Y.env k63 (F9 Ab l.length [cb 6] r) (entry a l))(ha:a.length=3):Y.call 63 a l=some r:=
 Aa (Y:=Y) rfl Try.func63 (ha▸AG6) A3X h
theorem Yi(AC:Aq)(AY:AO)(AB:AO)(task:Int)(class_:AO){r:Bool}(h:OZ AC AY AB task class_=some r):Y.call 63 [D.agg [b7 123 (AR (fun x=>b7 125 (Ay .i64 .i64 x)) AC),b7 3 (AR (bd .i64) AY),b7 3 (AR (bd .i64) AB)],bd .i64 task,b7 3 (AR (bd .i64) class_)] []=some (ca r,[]):=by
 refine c63 ?_ rfl;unfold k63;unfold OZ at h;by_cases e1:task=1
 ·rw [if_pos e1]at h;obtain⟨AAQ,hl2,h⟩:=Av h;try dsimp only at h
  have c2:=Oy class_ hl2
  obtain rfl:=Option.some.inj h
  simp (maxDischargeDepth:=9) only [↓AP,AQ,Ae,↓reduceIte,bh,bj,bk,bl,bm,bo,bp,br,bt,bw,bx,bO,b0,b3,b4,b5,b6,decide_eq_true e1,c2]<;>(repeat' apply A7)<;>first|rfl|exact⟨_,rfl⟩|exact⟨_,_,rfl⟩|simp [AR,A9]
 ·rw [if_neg e1]at h;obtain⟨Yd,hl2,h⟩:=Av h;try dsimp only at h
  have c2:=V8 AC AY AB task class_ hl2
  obtain rfl:=Option.some.inj h
  simp (maxDischargeDepth:=9) only [↓AP,AQ,Ae,↓reduceIte,bh,bj,bk,bl,bm,bo,bp,br,bt,bw,bx,bO,b0,b3,b4,b5,b6,e1,c2]<;>(repeat' apply A7)<;>first|rfl|exact⟨_,rfl⟩|exact⟨_,_,rfl⟩|simp [AR,A9]
def Jn(AC:Aq)(AY:AO)(AB:AO)(task:Int):Option (AO×Bool):= ck (CX AC)<| ck (AY.length<1099511627776)<| ck (AB.length<1099511627776)<| if(Il AC AY AB)=true then (QR task).bind fun I9=> if I9=true then (OE AC AY AB).bind fun af=> (GL task af.2).bind fun uZ=> (OY AC AY AB task uZ).bind fun uf=> if uf=true then some (uZ,true) else some ([],false) else some ([],false) else some ([],false)
def k29:SC:= .seq (.ops [oX 2 (.box 47 (tK 0)) 0,oX 4 Kz 26,oX 5 CF 4]) (.seq (.seq (.ops [oL 9 47 2 47,oC 10 67 [(tK 9)] [47] 4,oX 11 (.unOp .not 4 (tK 10)) 4,oM 12 11 4,⟨(some 13),(.move (tK 1)),3,(some (some 12,false))⟩,⟨(some 14),(.call ⟨(.value (.func 68)), #[(tK 13)], #[3]⟩),4,(some (some 12,false))⟩,⟨(some 15),(.unOp .not 4 (tK 14)),4,(some (some 12,false))⟩,oX 16 (.pick (tK 12) Eh (tK 15)) 4]) (.cond (tK 16) (.seq (.ops [oX 4 Kz 26,oX 5 CF 4]) .ret) .skip)) (.seq (.ops [oL 18 47 2 47,oC 19 78 [(tK 18)] [47] 97,oM 17 19 97,oE 20 17 0 3,oE 21 17 1 26,oA 6 20 3,oA 7 21 26]) (.seq (.ops [oM 22 1 3,oM 23 7 26,oC 24 71 [(tK 22),(tK 23)] [3,26] 26,oA 8 24 26]) (.seq (.seq (.ops [oL 25 47 2 47,oM 26 1 3,oM 27 8 26,oC 28 70 [(tK 25),(tK 26),(tK 27)] [47,3,26] 4,oX 29 (.unOp .not 4 (tK 28)) 4]) (.cond (tK 29) (.seq (.ops [oX 4 Kz 26,oX 5 CF 4]) .ret) .skip)) (.seq (.ops [oM 30 8 26,oA 4 30 26,oX 5 (.assign Eh) 4]) .ret)))))
theorem A3Y:Try.f29.body.map (Bc lends)=some k29:=by kernel_rfl
theorem AG8:Bn Try.f29 2=true:=by kernel_rfl
theorem WX{a l:List D}{r:D×List D}(h:Bq Y.env k29 (F9 Ab l.length [cb 4,cb 5] r) (entry a l))(ha:a.length=2):Y.call 29 a l=some r:=
 Aa (Y:=Y) rfl Try.func29 (ha▸AG8) A3Y h
theorem KN(AC:Aq)(AY:AO)(AB:AO)(task:Int){r:AO×Bool}(h:Jn AC AY AB task=some r):Y.call 29 [D.agg [b7 123 (AR (fun x=>b7 125 (Ay .i64 .i64 x)) AC),b7 3 (AR (bd .i64) AY),b7 3 (AR (bd .i64) AB)],bd .i64 task] []=some (D.tup [b9 3 (AR (bd .i64) r.1),ca r.2],[]):=by
 refine WX ?_ rfl;unfold k29;unfold Jn at h;obtain⟨e1,h⟩:=BS h;obtain⟨e2,h⟩:=BS h;obtain⟨e3,h⟩:=BS h;have c4:=Ur AC AY AB e1 e2 e3;by_cases e5:(Il AC AY AB)=true
 ·rw [if_pos e5]at h;obtain⟨I9,hl6,h⟩:=Av h;try dsimp only at h
  have c6:=WU task hl6;by_cases e7:I9=true
  ·rw [if_pos e7]at h;obtain⟨af,hl8,h⟩:=Av h;try dsimp only at h
   have c8:=WS AC AY AB hl8;obtain⟨uZ,hl9,h⟩:=Av h;try dsimp only at h
   have c9:=QS task af.2 hl9;obtain⟨uf,hl10,h⟩:=Av h;try dsimp only at h
   have Lm:=YV AC AY AB task uZ hl10;by_cases e11:uf=true
   ·rw [if_pos e11]at h
    obtain rfl:=Option.some.inj h
    simp (maxDischargeDepth:=9) only [↓AP,AQ,Ae,↓reduceIte,bh,bj,bk,bl,bm,bo,bp,br,bt,bw,bx,bO,b0,b3,b4,b5,b6,e1,e2,e3,c4,e5,c6,e7,c8,c9,Lm,e11]<;>(repeat' apply A7)<;>first|rfl|exact⟨_,rfl⟩|exact⟨_,_,rfl⟩|simp [AR,A9]
   ·rw [if_neg e11]at h;have e11f:uf=false:=JA.mpr e11
    obtain rfl:=Option.some.inj h
    simp (maxDischargeDepth:=9) only [↓AP,AQ,Ae,↓reduceIte,bh,bj,bk,bl,bm,bo,bp,br,bt,bw,bx,bO,b0,b3,b4,b5,b6,e1,e2,e3,c4,e5,c6,e7,c8,c9,Lm,e11f]<;>(repeat' apply A7)<;>first|rfl|exact⟨_,rfl⟩|exact⟨_,_,rfl⟩|simp [AR,A9]
  ·rw [if_neg e7]at h;have e7f:I9=false:=JA.mpr e7
   obtain rfl:=Option.some.inj h
   simp (maxDischargeDepth:=9) only [↓AP,AQ,Ae,↓reduceIte,bh,bj,bk,bl,bm,bo,bp,br,bt,bw,bx,bO,b0,b3,b4,b5,b6,e1,e2,e3,c4,e5,c6,e7f]<;>(repeat' apply A7)<;>first|rfl|exact⟨_,rfl⟩|exact⟨_,_,rfl⟩|simp [AR,A9]
 ·rw [if_neg e5]at h;have e5f:(Il AC AY AB)=false:=JA.mpr e5
  obtain rfl:=Option.some.inj h
  simp (maxDischargeDepth:=9) only [↓AP,AQ,Ae,↓reduceIte,bh,bj,bk,bl,bm,bo,bp,br,bt,bw,bx,bO,b0,b3,b4,b5,b6,e1,e2,e3,c4,e5f]<;>(repeat' apply A7)<;>first|rfl|exact⟨_,rfl⟩|exact⟨_,_,rfl⟩|simp [AR,A9]
def H9(class_:AO)(LB:Int)(out:AO)(VS:Int):Option ((AO×Int)⊕(AO)):= if VS<(class_.length:Int)then ck (0≤VS∧VS.toNat<class_.length)<| if(class_.getD VS.toNat be)=LB then ck (out.length+1<1099511627776)<| some (cc ((out++[1]),cd.wrap (VS+1))) else ck (out.length+1<1099511627776)<| some (cc ((out++[0]),cd.wrap (VS+1))) else some (b8 out)
def KF(class_:AO)(LB:Int)(v:AO×Int):Option (AO):=Iy (fun v=>H9 class_ LB v.1 v.2) v
def QU(task:Int)(class_:AO):Option ((AO)⊕(AO)):= if task=1 then (MO class_).bind fun LB=> (KF class_ LB ([],0)).bind fun AX=> some (cc AX) else some (b8 class_)
def Yj:SC:= .seq (.ops [oB 17 .lss 3 (tK 16) (tK 15) 3 0]) (.seq (.cond (tK 17) .skip (.exit 0)) (.seq (.block 1 (.seq (.ops [oI 18 26 14 16,oL 19 3 18 3,oA 8 19 3]) (.seq (.ops [oM 20 8 3,oM 21 5 3,oB 22 .eql 3 (tK 20) (tK 21) 3 4]) (.cond (tK 22) (.ops [oM 23 6 26,oX 24 (.buildSlice 26 1 #[(0,(iK 1))]) 26,oX 25 (.call ⟨(.builtin .append), #[(tK 23),(tK 24)], #[26,26]⟩) 26,oA 6 25 26]) (.ops [oM 26 6 26,oX 27 (.buildSlice 26 1 #[(0,(iK 0))]) 26,oX 28 (.call ⟨(.builtin .append), #[(tK 26),(tK 27)], #[26,26]⟩) 26,oA 6 28 26]))))) (.ops [oB 29 .add 3 (tK 16) (iK 1) 3 3,oM 16 29 3])))
def qD:SC:= .loop Yj
def k77:SC:= .seq (.ops [oX 4 Kz 26]) (.seq (.seq (.ops [oM 9 0 3,oB 10 .neq 3 (tK 9) (iK 1) 3 4]) (.cond (tK 10) (.seq (.ops [oM 11 1 26,oA 4 11 26]) .ret) .skip)) (.seq (.ops [oM 12 1 26,oC 13 108 [(tK 12)] [26] 3,oA 5 13 3]) (.seq (.ops [oX 6 Kz 26]) (.seq (.seq (.ops [oM 14 1 26,oN 15 14 26,oX 16 (.move (iK 0)) 3]) (.block 0 qD)) (.seq (.ops [oM 30 6 26,oA 4 30 26]) .ret)))))
theorem A3Z:Try.f77.body.map (Bc lends)=some k77:=by kernel_rfl
theorem AGA:Bn Try.f77 2=true:=by kernel_rfl
theorem c77{a l:List D}{r:D×List D}(h:Bq Y.env k77 (F9 Ab l.length [cb 4] r) (entry a l))(ha:a.length=2):Y.call 77 a l=some r:=
 Aa (Y:=Y) rfl Try.func77 (ha▸AGA) A3Z h
def FQ(class_:AO)(LB:Int)(out:AO)(VS:Int)(s:St):Prop:=s.v 5=bd .i64 LB∧s.v 6=b9 3 (AR (bd .i64) out)∧s.v 14=b7 3 (AR (bd .i64) class_)∧s.v 15=bd .i64 (class_.length:Int)∧s.v 16=bd .i64 VS
def HV(class_:AO)(LB:Int)(r:AO)(ex:Ex)(s:St):Prop:=ex= .exit 0∧s.v 6=b9 3 (AR (bd .i64) r)
theorem VT(class_:AO)(LB:Int){v:AO×Int}{s:St}{r:AO}(h:KF class_ LB v=some r)(hM:FQ class_ LB v.1 v.2 s):Bq Y.env qD (HV class_ LB r) s:=by
 unfold KF at h;refine BV (c:=Yj) (fun v=>H9 class_ LB v.1 v.2) (fun v s=>FQ class_ LB v.1 v.2 s) (HV class_ LB) ?_ h hM;clear h hM s v r;intro v s o hM h;obtain⟨out,VS⟩:=v;dsimp only at h hM;unfold H9 at h;unfold FQ at hM;obtain⟨m0,m1,m2,m3,m4⟩:=hM;unfold Yj;by_cases e3:VS<(class_.length:Int)
 ·rw [if_pos e3]at h;obtain⟨e4,h⟩:=BS h;by_cases e5:(class_.getD VS.toNat be)=LB
  ·rw [if_pos e5]at h;obtain⟨e6,h⟩:=BS h
   obtain rfl:=Option.some.inj h
   simp (maxDischargeDepth:=9) only [↓AP,AQ,Ae,↓reduceIte,bh,bj,bk,bl,bm,bo,bp,br,bt,bw,bx,bO,b0,b3,b4,b5,b6,m0,m1,m2,m3,m4,e3,e4.1,e4.2,decide_eq_true e5,e6,FQ,HV,CU,CV,CW]<;>(repeat' apply A7)<;>first|rfl|exact⟨_,rfl⟩|exact⟨_,_,rfl⟩|simp [AR,A9]
  ·rw [if_neg e5]at h;obtain⟨e6,h⟩:=BS h
   obtain rfl:=Option.some.inj h
   simp (maxDischargeDepth:=9) only [↓AP,AQ,Ae,↓reduceIte,bh,bj,bk,bl,bm,bo,bp,br,bt,bw,bx,bO,b0,b3,b4,b5,b6,m0,m1,m2,m3,m4,e3,e4.1,e4.2,e5,e6,FQ,HV,CU,CV,CW]<;>(repeat' apply A7)<;>first|rfl|exact⟨_,rfl⟩|exact⟨_,_,rfl⟩|simp [AR,A9]
 ·rw [if_neg e3]at h
  obtain rfl:=Option.some.inj h
  simp (maxDischargeDepth:=9) only [↓AP,AQ,Ae,↓reduceIte,bh,bj,bk,bl,bm,bo,bp,br,bt,bw,bx,bO,b0,b3,b4,b5,b6,m0,m1,m2,m3,m4,e3,FQ,HV,CU,CV,CW]<;>(repeat' apply A7)<;>first|rfl|exact⟨_,rfl⟩|exact⟨_,_,rfl⟩|simp [AR,A9]
theorem WY(task:Int)(class_:AO){r:(AO)⊕(AO)}(h:QU task class_=some r):Y.call 77 [bd .i64 task,b7 3 (AR (bd .i64) class_)] []=some (match (generalizing:=false) r with| .inl q=>(b9 3 (AR (bd .i64) q),[])| .inr q=>(b7 3 (AR (bd .i64) q),[])):=by
 refine c77 ?_ rfl;unfold k77;unfold QU at h;by_cases e1:task=1
 ·rw [if_pos e1]at h;obtain⟨LB,hl2,h⟩:=Av h;try dsimp only at h
  have c2:=Oy class_ hl2;obtain⟨AX,hl4,h⟩:=Av h;try dsimp only at h
  simp (maxDischargeDepth:=9) only [↓AP,AQ,Ae,↓reduceIte,bh,bj,bk,bl,bm,bo,bp,br,bt,bw,bx,bO,b0,b3,b4,b5,b6,decide_eq_true e1,c2];refine BB (VT class_ LB hl4 ?_) ?_
  ·simp (maxDischargeDepth:=9) only [↓AP,AQ,Ae,↓reduceIte,bh,bj,bk,bl,bm,bo,bp,br,bt,bw,bx,bO,b0,b3,b4,b5,b6,decide_eq_true e1,c2,FQ]<;>(repeat' apply A7)<;>first|rfl|exact⟨_,rfl⟩|exact⟨_,_,rfl⟩|simp [AR,A9]
  ·intro ex4 s4 hX4;unfold HV at hX4;obtain⟨rfl,n4_0⟩:=hX4
   obtain rfl:=Option.some.inj h
   simp (maxDischargeDepth:=9) only [↓AP,AQ,Ae,↓reduceIte,bh,bj,bk,bl,bm,bo,bp,br,bt,bw,bx,bO,b0,b3,b4,b5,b6,decide_eq_true e1,c2,n4_0]<;>(repeat' apply A7)<;>first|rfl|exact⟨_,rfl⟩|exact⟨_,_,rfl⟩|simp [AR,A9]
 ·rw [if_neg e1]at h
  obtain rfl:=Option.some.inj h
  simp (maxDischargeDepth:=9) only [↓AP,AQ,Ae,↓reduceIte,bh,bj,bk,bl,bm,bo,bp,br,bt,bw,bx,bO,b0,b3,b4,b5,b6,e1]<;>(repeat' apply A7)<;>first|rfl|exact⟨_,rfl⟩|exact⟨_,_,rfl⟩|simp [AR,A9]
def Jo(AC:Aq)(AY:AO)(AB:AO)(task:Int):Option ((AO×Bool)⊕(AO×Bool)):=
 ck (CX AC)<|
 ck (AY.length<1099511627776)<|
 ck (AB.length<1099511627776)<|
 if(Il AC AY AB)=true then
  (QT task).bind fun ug=>
  if ug=true then
   (MN AC AY AB).bind fun Jk=>
   (OZ AC AY AB task Jk).bind fun af=>
   if af=true then
    (QU task Jk).bind fun SB=>
    match SB with
    | .inl q25_=>
     some (cc (q25_,true))
    | .inr q25_=>
     some (b8 (q25_,true))
   else
    some (cc ([],false))
  else
   some (cc ([],false))
 else
  some (cc ([],false))
abbrev Oi:List Nat:=[6,7,8,9,10,11,12,13,14,15,16,17,18,19,20,21]
def k28:SC:= .seq (.ops [oX 2 (.box 47 (tK 0)) 0,oX 4 Kz 26,oX 5 CF 4]) (.seq (.seq (.draws [(⟨[6,2,2],Oi,[6]⟩,oL 6 47 2 47),(⟨[7,6,2],Oi,[7]⟩,oC 7 60 [(tK 6)] [47] 4),(⟨[8,7,7],Oi,[8]⟩,oX 8 (.unOp .not 4 (tK 7)) 4),(⟨[9,8,8],Oi,[9]⟩,oM 9 8 4),(⟨[10,1,1,9],Oi,[10]⟩,⟨(some 10),(.move (tK 1)),3,(some (some 9,false))⟩),(⟨[11,10,1,9],Oi,[11]⟩,⟨(some 11),(.call ⟨(.value (.func 61)), #[(tK 10)], #[3]⟩),4,(some (some 9,false))⟩),(⟨[12,11,11,9],Oi,[12]⟩,⟨(some 12),(.unOp .not 4 (tK 11)),4,(some (some 9,false))⟩),(⟨[13,9,12,8,12],Oi,[13]⟩,oX 13 (.pick (tK 9) Eh (tK 12)) 4),(⟨[14,13,13],Oi,[14]⟩,oM 14 13 4),(⟨[15,2,2,14],Oi,[15]⟩,⟨(some 15),(.load 47 (tK 2)),47,(some (some 14,false))⟩),(⟨[16,1,1,14],Oi,[16]⟩,⟨(some 16),(.move (tK 1)),3,(some (some 14,false))⟩),(⟨[17,2,2,14],Oi,[17]⟩,⟨(some 17),(.load 47 (tK 2)),47,(some (some 14,false))⟩),(⟨[18,17,2,14],Oi,[18]⟩,⟨(some 18),(.call ⟨(.value (.func 74)), #[(tK 17)], #[47]⟩),26,(some (some 14,false))⟩),(⟨[19,15,16,18,2,1,18,14],Oi,[19]⟩,⟨(some 19),(.call ⟨(.value (.func 63)), #[(tK 15),(tK 16),(tK 18)], #[47,3,26]⟩),4,(some (some 14,false))⟩),(⟨[20,19,19,14],Oi,[20]⟩,⟨(some 20),(.unOp .not 4 (tK 19)),4,(some (some 14,false))⟩),(⟨[21,14,20,13,20],Oi,[21]⟩,oX 21 (.pick (tK 14) Eh (tK 20)) 4)])
 (.cond (tK 21) (.seq (.ops [oX 4 Kz 26,oX 5 CF 4]) .ret) .skip)) (.seq (.ops [oM 22 1 3,oL 23 47 2 47,oC 24 74 [(tK 23)] [47] 26,oC 25 77 [(tK 22),(tK 24)] [3,26] 26,oA 4 25 26,oX 5 (.assign Eh) 4]) .ret))
theorem A3a:Try.f28.body.map (Bc lends)=some k28:=by kernel_rfl
theorem AGC:Bn Try.f28 2=true:=by kernel_rfl
theorem c28{a l:List D}{r:D×List D}(h:Bq Y.env k28 (F9 Ab l.length [cb 4,cb 5] r) (entry a l))(ha:a.length=2):Y.call 28 a l=some r:=
 Aa (Y:=Y) rfl Try.func28 (ha▸AGC) A3a h
theorem SS(AC:Aq)(AY:AO)(AB:AO)(task:Int){r:(AO×Bool)⊕(AO×Bool)}(h:Jo AC AY AB task=some r):Y.call 28 [D.agg [b7 123 (AR (fun x=>b7 125 (Ay .i64 .i64 x)) AC),b7 3 (AR (bd .i64) AY),b7 3 (AR (bd .i64) AB)],bd .i64 task] []=some (match (generalizing:=false) r with| .inl q=>(D.tup [b9 3 (AR (bd .i64) q.1),ca q.2],[])| .inr q=>(D.tup [b7 3 (AR (bd .i64) q.1),ca q.2],[])):=by
 refine c28 ?_ rfl;unfold k28;unfold Jo at h;obtain⟨e1,h⟩:=BS h;obtain⟨e2,h⟩:=BS h;obtain⟨e3,h⟩:=BS h;have c4:=aY AC AY AB e1 e2 e3;by_cases e5:(Il AC AY AB)=true
 ·rw [if_pos e5]at h;obtain⟨ug,hl6,h⟩:=Av h;try dsimp only at h
  have c6:=WW task hl6;by_cases e7:ug=true
  ·rw [if_pos e7]at h;obtain⟨Jk,hl8,h⟩:=Av h;try dsimp only at h
   have c8:=VN AC AY AB hl8;obtain⟨af,hl9,h⟩:=Av h;try dsimp only at h
   have c9:=Yi AC AY AB task Jk hl9;by_cases e10:af=true
   ·rw [if_pos e10]at h;obtain⟨SB,hl11,h⟩:=Av h;try dsimp only at h
    have c11:=WY task Jk hl11;rcases SB with q25_|q25_
    ·dsimp only at h c11
     obtain rfl:=Option.some.inj h
     simp (maxDischargeDepth:=9) only [↓AP,AQ,Ae,↓reduceIte,bh,bj,bk,bl,bm,bo,bp,br,bt,bw,bx,bO,b0,b3,b4,b5,b6,e1,e2,e3,c4,e5,c6,e7,c8,c9,e10,c11]<;>(repeat' apply A7)<;>first|rfl|exact⟨_,rfl⟩|exact⟨_,_,rfl⟩|simp [AR,A9]
    ·dsimp only at h c11;by_cases e12:(!q25_.isEmpty)=true
     ·skip
      obtain rfl:=Option.some.inj h
      simp (maxDischargeDepth:=9) only [↓AP,AQ,Ae,↓reduceIte,bh,bj,bk,bl,bm,bo,bp,br,bt,bw,bx,bO,b0,b3,b4,b5,b6,e1,e2,e3,c4,e5,c6,e7,c8,c9,e10,c11,e12]<;>(repeat' apply A7)<;>first|rfl|exact⟨_,rfl⟩|exact⟨_,_,rfl⟩|simp [AR,A9]
     ·skip
      have e12f:(!q25_.isEmpty)=false:=JA.mpr e12
      obtain rfl:=Option.some.inj h
      simp (maxDischargeDepth:=9) only [↓AP,AQ,Ae,↓reduceIte,bh,bj,bk,bl,bm,bo,bp,br,bt,bw,bx,bO,b0,b3,b4,b5,b6,e1,e2,e3,c4,e5,c6,e7,c8,c9,e10,c11,e12f]<;>(repeat' apply A7)<;>first|rfl|exact⟨_,rfl⟩|exact⟨_,_,rfl⟩|simp [AR,A9]
   ·rw [if_neg e10]at h;have e10f:af=false:=JA.mpr e10
    obtain rfl:=Option.some.inj h
    simp (maxDischargeDepth:=9) only [↓AP,AQ,Ae,↓reduceIte,bh,bj,bk,bl,bm,bo,bp,br,bt,bw,bx,bO,b0,b3,b4,b5,b6,e1,e2,e3,c4,e5,c6,e7,c8,c9,e10f]<;>(repeat' apply A7)<;>first|rfl|exact⟨_,rfl⟩|exact⟨_,_,rfl⟩|simp [AR,A9]
  ·rw [if_neg e7]at h;have e7f:ug=false:=JA.mpr e7
   obtain rfl:=Option.some.inj h
   simp (maxDischargeDepth:=9) only [↓AP,AQ,Ae,↓reduceIte,bh,bj,bk,bl,bm,bo,bp,br,bt,bw,bx,bO,b0,b3,b4,b5,b6,e1,e2,e3,c4,e5,c6,e7f]<;>(repeat' apply A7)<;>first|rfl|exact⟨_,rfl⟩|exact⟨_,_,rfl⟩|simp [AR,A9]
 ·rw [if_neg e5]at h;have e5f:(Il AC AY AB)=false:=JA.mpr e5
  obtain rfl:=Option.some.inj h
  simp (maxDischargeDepth:=9) only [↓AP,AQ,Ae,↓reduceIte,bh,bj,bk,bl,bm,bo,bp,br,bt,bw,bx,bO,b0,b3,b4,b5,b6,e1,e2,e3,c4,e5f]<;>(repeat' apply A7)<;>first|rfl|exact⟨_,rfl⟩|exact⟨_,_,rfl⟩|simp [AR,A9]
def k27:SC:= .seq (.ops [oX 2 (.box 47 (tK 0)) 0,oX 3 (.box 3 (tK 1)) 0,oX 4 (.assign (iK 0)) 3,oX 5 CF 4]) (.seq (.seq (.ops [oL 6 47 2 47,oC 7 67 [(tK 6)] [47] 4,oX 8 (.unOp .not 4 (tK 7)) 4,oM 9 8 4,⟨(some 10),(.load 3 (tK 3)),3,(some (some 9,false))⟩,⟨(some 11),(.call ⟨(.value (.func 68)), #[(tK 10)], #[3]⟩),4,(some (some 9,false))⟩,⟨(some 12),(.unOp .not 4 (tK 11)),4,(some (some 9,false))⟩,oX 13 (.pick (tK 9) Eh (tK 12)) 4]) (.cond (tK 13) (.seq (.ops [oX 4 (.assign (iK 0)) 3,oX 5 CF 4]) .ret) .skip)) (.seq (.ops [oL 14 47 2 47,oX 15 (.makeFunc (Fn.func 76) #[] #[(tK 2),(tK 3)]) 96,oC 16 75 [(tK 14),(tK 15)] [47,96] 51,oE 17 16 0 3,oE 18 16 1 4,oA 4 17 3,oA 5 18 4]) .ret))
theorem A3b:Try.f27.body.map (Bc lends)=some k27:=by kernel_rfl
theorem AGD:Bn Try.f27 2=true:=by kernel_rfl
theorem c27{a l:List D}{r:D×List D}(h:Bq Y.env k27 (F9 Ab l.length [cb 4,cb 5] r) (entry a l))(ha:a.length=2):Y.call 27 a l=some r:=
 Aa (Y:=Y) rfl Try.func27 (ha▸AGD) A3b h
def uh:SC:= .seq (.seq (.draws [(⟨[23,2,2],[23,24,25,26,27,28,29],[23]⟩,oL 23 47 2 47),(⟨[24,1,1],[23,24,25,26,27,28,29],[24]⟩,oM 24 1 3),(⟨[25,2,2],[23,24,25,26,27,28,29],[25]⟩,oL 25 47 2 47),(⟨[26,6,6],[23,24,25,26,27,28,29],[26]⟩,oM 26 6 3),(⟨[27,25,26,2,6],[23,24,25,26,27,28,29],[27]⟩,oC 27 64 [(tK 25),(tK 26)] [47,3] 26),(⟨[28,23,24,27,2,1,27],[23,24,25,26,27,28,29],[28]⟩,oC 28 63 [(tK 23),(tK 24),(tK 27)] [47,3,26] 4),(⟨[29,28,28],[23,24,25,26,27,28,29],[29]⟩,oX 29 (.unOp .not 4 (tK 28)) 4)]) (.cond (tK 29) .skip (.exit 0))) (.block 1 (.ops [oM 30 6 3,oB 31 .add 3 (tK 30) (iK 1) 3 3,oA 6 31 3]))
def A3c:SC:= .loop uh
abbrev Oj:List Nat:=[7,8,9,10,11,12,13,14,15,16,17,18,19,20,21,22]
def k26:SC:= .seq (.ops [oX 2 (.box 47 (tK 0)) 0,oX 4 (.assign (iK 0)) 3,oX 5 CF 4]) (.seq (.seq (.draws [(⟨[7,2,2],Oj,[7]⟩,oL 7 47 2 47),(⟨[8,7,2],Oj,[8]⟩,oC 8 60 [(tK 7)] [47] 4),(⟨[9,8,8],Oj,[9]⟩,oX 9 (.unOp .not 4 (tK 8)) 4),(⟨[10,9,9],Oj,[10]⟩,oM 10 9 4),(⟨[11,1,1,10],Oj,[11]⟩,⟨(some 11),(.move (tK 1)),3,(some (some 10,false))⟩),(⟨[12,11,1,10],Oj,[12]⟩,⟨(some 12),(.call ⟨(.value (.func 61)), #[(tK 11)], #[3]⟩),4,(some (some 10,false))⟩),(⟨[13,12,12,10],Oj,[13]⟩,⟨(some 13),(.unOp .not 4 (tK 12)),4,(some (some 10,false))⟩),(⟨[14,10,13,9,13],Oj,[14]⟩,oX 14 (.pick (tK 10) Eh (tK 13)) 4),(⟨[15,14,14],Oj,[15]⟩,oM 15 14 4),(⟨[16,2,2,15],Oj,[16]⟩,⟨(some 16),(.load 47 (tK 2)),47,(some (some 15,false))⟩),(⟨[17,1,1,15],Oj,[17]⟩,⟨(some 17),(.move (tK 1)),3,(some (some 15,false))⟩),(⟨[18,2,2,15],Oj,[18]⟩,⟨(some 18),(.load 47 (tK 2)),47,(some (some 15,false))⟩),(⟨[19,18,2,15],Oj,[19]⟩,⟨(some 19),(.call ⟨(.value (.func 74)), #[(tK 18)], #[47]⟩),26,(some (some 15,false))⟩),(⟨[20,16,17,19,2,1,19,15],Oj,[20]⟩,⟨(some 20),(.call ⟨(.value (.func 63)), #[(tK 16),(tK 17),(tK 19)], #[47,3,26]⟩),4,(some (some 15,false))⟩),(⟨[21,20,20,15],Oj,[21]⟩,⟨(some 21),(.unOp .not 4 (tK 20)),4,(some (some 15,false))⟩),
 (⟨[22,15,21,14,21],Oj,[22]⟩,oX 22 (.pick (tK 15) Eh (tK 21)) 4)]) (.cond (tK 22) (.seq (.ops [oX 4 (.assign (iK 0)) 3,oX 5 CF 4]) .ret) .skip)) (.seq (.ops [oX 6 (.assign (iK 0)) 3]) (.seq (.block 0 A3c) (.seq (.ops [oM 32 6 3,oA 4 32 3,oX 5 (.assign Eh) 4]) .ret))))
theorem A3d:Try.f26.body.map (Bc lends)=some k26:=by kernel_rfl
theorem AGE:Bn Try.f26 2=true:=by kernel_rfl
theorem Sw{a l:List D}{r:D×List D}(h:Bq Y.env k26 (F9 Ab l.length [cb 4,cb 5] r) (entry a l))(ha:a.length=2):Y.call 26 a l=some r:=
 Aa (Y:=Y) rfl Try.func26 (ha▸AGE) A3d h
def ah(k:Int)(n:Nat):G8:=(List.range n).map fun(i:Nat)=>(k+2*(i:Int),k+2*(i:Int)+1)
theorem Yk(k:Int)(n:Nat):(ah k n).length=n:=by simp [ah]
theorem qE(k:Int)(n:Nat):ah k (n+1)=ah k n++[(k+2*(n:Int),k+2*(n:Int)+1)]:=by simp [ah,List.range_succ]
theorem A3e{α:Type}(A xs:List α)(i:Nat)(v:α)(hA:A.length=i)(h:i<xs.length):(A++xs.drop i).set i v=(A++[v])++xs.drop (i+1):=by
 rw [cg _ _ (by omega),hA,Qd,jA h,bL,P5];rfl
theorem qF(t:G8)(i:Nat)(p:Int×Int)(h:i<t.length):BH (t.set i p) i=p.1:=by
 unfold BH;simp [KG,h]
def Et(k:Int)(k1:Int)(i:Int)(Ap:G8):Option ((Int×Int×G8)⊕(Int×G8)):= if i<(Ap.length:Int)then ck (0≤i∧i.toNat<Ap.length)<| ck (0≤i∧i.toNat<(Ap.set i.toNat (k1,(CK Ap i.toNat))).length)<| some (cc (cd.wrap ((cd.wrap (k1+1))+1),cd.wrap (i+1),((Ap.set i.toNat (k1,(CK Ap i.toNat))).set i.toNat ((BH (Ap.set i.toNat (k1,(CK Ap i.toNat))) i.toNat),cd.wrap (k1+1))))) else some (b8 (k1,Ap))
def Js(k:Int)(v:Int×Int×G8):Option (Int×G8):=Iy (fun v=>Et k v.1 v.2.1 v.2.2) v
def N7(a:G8)(k:Int):Option (Int×G8):= (Js k (k,0,a)).bind fun AX=> some (AX.1,AX.2)
def VU:SC:= .seq (.seq (.ops [oM 6 5 3,oM 7 0 123,oN 8 7 123,oB 9 .lss 3 (tK 6) (tK 8) 3 4]) (.cond (tK 9) .skip (.exit 0))) (.seq (.block 1 (.seq (.ops [oM 12 0 123,oM 13 5 3,oM 14 1 3,oI 15 123 12 13,oF 16 125 15 0,oS 3 16 14]) (.seq (.ops [oM 17 1 3,oB 18 .add 3 (tK 17) (iK 1) 3 3,oA 1 18 3]) (.seq (.ops [oM 19 0 123,oM 20 5 3,oM 21 1 3,oI 22 123 19 20,oF 23 125 22 1,oS 3 23 21]) (.ops [oM 24 1 3,oB 25 .add 3 (tK 24) (iK 1) 3 3,oA 1 25 3]))))) (.ops [oM 10 5 3,oB 11 .add 3 (tK 10) (iK 1) 3 3,oA 5 11 3]))
def iW:SC:= .loop VU
def A3f:SC:= .seq (.ops [oX 4 (.assign (iK 0)) 3]) (.seq (.seq (.ops [oX 5 (.assign (iK 0)) 3]) (.block 0 iW)) (.seq (.ops [oM 26 1 3,oA 4 26 3]) .ret))
theorem uj:Try.f128.body.map (Bc lends)=some A3f:=by kernel_rfl
theorem AAR:Bn Try.f128 2=true:=by kernel_rfl
theorem AGF{a l:List D}{r:D×List D}(h:Bq Y.env A3f (F9 Ab l.length [cb 4] r) (entry a l))(ha:a.length=2):Y.call 128 a l=some r:=
 Aa (Y:=Y) rfl Try.func128 (ha▸AAR) uj h
def Eu(k:Int)(k1:Int)(i:Int)(Ap:G8)(s:St):Prop:=(∃w_,s.v 0=D.vw [100000] (s.k 100000) w_)∧s.v 1=bd .i64 k1∧s.v 5=bd .i64 i∧s.v 100000=b9 125 (Ay .i64 .i64 Ap)
def Ga(k:Int)(r:Int×G8)(ex:Ex)(s:St):Prop:=ex= .exit 0∧s.v 1=bd .i64 r.1∧s.v 100000=b9 125 (Ay .i64 .i64 r.2)
theorem RA(k:Int){v:Int×Int×G8}{s:St}{r:Int×G8}(h:Js k v=some r)(hM:Eu k v.1 v.2.1 v.2.2 s):Bq Y.env iW (Ga k r) s:=by
 unfold Js at h;refine BV (c:=VU) (fun v=>Et k v.1 v.2.1 v.2.2) (fun v s=>Eu k v.1 v.2.1 v.2.2 s) (Ga k) ?_ h hM;clear h hM s v r;intro v s o hM h;obtain⟨k1,i,Ap⟩:=v;dsimp only at h hM;unfold Et at h;unfold Eu at hM;obtain⟨⟨w0_,m0⟩,m1,m2,m3⟩:=hM;unfold VU;by_cases e1:i<(Ap.length:Int)
 ·rw [if_pos e1]at h;obtain⟨e2,h⟩:=BS h;obtain⟨e3,h⟩:=BS h
  obtain rfl:=Option.some.inj h
  simp (maxDischargeDepth:=9) only [↓AP,AQ,Ae,↓reduceIte,bh,bj,bk,bl,bm,bo,bp,br,bt,bw,bx,bO,b0,b3,b4,b5,b6,m0,m1,m2,m3,e1,e2.1,e2.2,e3.1,e3.2,Eu,Ga,CU,CV,CW]<;>(repeat' apply A7)<;>first|rfl|exact⟨_,rfl⟩|exact⟨_,_,rfl⟩|simp [AR,A9]
 ·rw [if_neg e1]at h
  obtain rfl:=Option.some.inj h
  simp (maxDischargeDepth:=9) only [↓AP,AQ,Ae,↓reduceIte,bh,bj,bk,bl,bm,bo,bp,br,bt,bw,bx,bO,b0,b3,b4,b5,b6,m0,m1,m2,m3,e1,Eu,Ga,CU,CV,CW]<;>(repeat' apply A7)<;>first|rfl|exact⟨_,rfl⟩|exact⟨_,_,rfl⟩|simp [AR,A9]
theorem SV(a:G8)(k:Int){r:Int×G8}(h:N7 a k=some r):Y.call 128 [D.vw [100000] 0 0,bd .i64 k] [b9 125 (Ay .i64 .i64 a)]=some (bd .i64 r.1,[b9 125 (Ay .i64 .i64 r.2)]):=by
 refine AGF ?_ rfl;unfold A3f;unfold N7 at h;obtain⟨AX,hl2,h⟩:=Av h;try dsimp only at h
 simp (maxDischargeDepth:=9) only [↓AP,AQ,Ae,↓reduceIte,bh,bj,bk,bl,bm,bo,bp,br,bt,bw,bx,bO,b0,b3,b4,b5,b6];refine BB (RA k hl2 ?_) ?_
 ·simp (maxDischargeDepth:=9) only [↓AP,AQ,Ae,↓reduceIte,bh,bj,bk,bl,bm,bo,bp,br,bt,bw,bx,bO,b0,b3,b4,b5,b6,Eu]<;>(repeat' apply A7)<;>first|rfl|exact⟨_,rfl⟩|exact⟨_,_,rfl⟩|simp [AR,A9]
 ·intro ex2 s2 hX2;unfold Ga at hX2;obtain⟨rfl,n2_0,n2_1⟩:=hX2
  obtain rfl:=Option.some.inj h
  simp (maxDischargeDepth:=9) only [↓AP,AQ,Ae,↓reduceIte,bh,bj,bk,bl,bm,bo,bp,br,bt,bw,bx,bO,b0,b3,b4,b5,b6,n2_0,n2_1]<;>(repeat' apply A7)<;>first|rfl|exact⟨_,rfl⟩|exact⟨_,_,rfl⟩|simp [AR,A9]
theorem WZ(a:G8)(k:Int)(ha:a.length<549755813888)(hk:0≤k∧k+2*(a.length:Int)<1099511627776):N7 a k=some (k+2*(a.length:Int),ah k a.length):=by
 have key:=CB (fun v=>Et k v.1 v.2.1 v.2.2) (fun i=>(k+2*(i:Int),(i:Int),ah k i++a.drop i)) a.length (k+2*(a.length:Int),ah k a.length) ?_ ?_
 ·unfold N7 Js;have e0:ah k 0=[]:=rfl;simp only [Lu,Int.mul_zero,Int.add_zero,List.drop_zero,e0,PY]at key;rw [key];rfl
 ·intro i hi;simp only [Et];have el:(ah k i++a.drop i).length=a.length:=by simp [Yk];omega
  rw [el,if_pos (Be hi),Bb (IZ hi),JX,Bb (by rw [Ro,el];omega),qF _ _ _ (by rw [el];exact hi),List.set_set,KO i (by omega),KI (k+2*(i:Int)+1) (by omega),KI (k+2*(i:Int)+1+1) (by omega),A3e _ _ _ _ (Yk k i) hi,←qE]
  rw [show k+2*(i:Int)+1+1=k+2*((i+1:Nat):Int) by omega]
 ·simp only [Et];have el:(ah k a.length++a.drop a.length).length=a.length:=by simp [Yk]
  rw [el,if_neg (Am _)];simp
theorem Wd(a:G8)(k:Int)(h0:a.length<549755813888)(h1:0≤k∧k+2*(a.length:Int)<1099511627776):Y.call 128 [D.vw [100000] 0 0,bd .i64 k] [b9 125 (Ay .i64 .i64 a)]=some (bd .i64 (k+2*(a.length:Int)),[b9 125 (Ay .i64 .i64 (ah k a.length))]):=SV a k (WZ a k h0 h1)
def Fv(k:Int)(k1:Int)(i:Int)(Ap:Aq):Option ((Int×Int×Aq)⊕(Int×Aq)):= if i<(Ap.length:Int)then ck (0≤i∧i.toNat<Ap.length)<| ck ((Ap.getD i.toNat be).length<549755813888)<| ck (0≤k1∧k1+2*((Ap.getD i.toNat be).length:Int)<1099511627776)<| some (cc ((k1+2*((Ap.getD i.toNat be).length:Int)),cd.wrap (i+1),(Ap.set i.toNat (ah k1 (Ap.getD i.toNat be).length)))) else some (b8 (k1,Ap))
def Fw(k:Int)(v:Int×Int×Aq):Option (Int×Aq):=Iy (fun v=>Fv k v.1 v.2.1 v.2.2) v
def Lg(a:Aq)(k:Int):Option (Int×Aq):= (Fw k (k,0,a)).bind fun AX=> some (AX.1,AX.2)
def Yl:SC:= .seq (.seq (.ops [oM 6 5 3,oM 7 0 45,oN 8 7 45,oB 9 .lss 3 (tK 6) (tK 8) 3 4]) (.cond (tK 9) .skip (.exit 0))) (.seq (.block 1 (.ops [oM 12 0 45,oM 13 5 3,oI 14 45 12 13,oL 15 123 14 123,oM 16 1 3,oC 17 128 [(tK 15),(tK 16)] [123,3] 3,oA 1 17 3])) (.ops [oM 10 5 3,oB 11 .add 3 (tK 10) (iK 1) 3 3,oA 5 11 3]))
def qG:SC:= .loop Yl
def k79:SC:= .seq (.ops [oX 4 (.assign (iK 0)) 3]) (.seq (.seq (.ops [oX 5 (.assign (iK 0)) 3]) (.block 0 qG)) (.seq (.ops [oM 18 1 3,oA 4 18 3]) .ret))
theorem A3g:Try.f79.body.map (Bc lends)=some k79:=by kernel_rfl
theorem AGH:Bn Try.f79 2=true:=by kernel_rfl
theorem c79{a l:List D}{r:D×List D}(h:Bq Y.env k79 (F9 Ab l.length [cb 4] r) (entry a l))(ha:a.length=2):Y.call 79 a l=some r:=
 Aa (Y:=Y) rfl Try.func79 (ha▸AGH) A3g h
def EU(k:Int)(k1:Int)(i:Int)(Ap:Aq)(s:St):Prop:=(∃w_,s.v 0=D.vw [100000] (s.k 100000) w_)∧s.v 1=bd .i64 k1∧s.v 5=bd .i64 i∧s.v 100000=b9 123 (AR (fun x=>b9 125 (Ay .i64 .i64 x)) Ap)
def Fx(k:Int)(r:Int×Aq)(ex:Ex)(s:St):Prop:=ex= .exit 0∧s.v 1=bd .i64 r.1∧s.v 100000=b9 123 (AR (fun x=>b9 125 (Ay .i64 .i64 x)) r.2)
theorem QV(k:Int){v:Int×Int×Aq}{s:St}{r:Int×Aq}(h:Fw k v=some r)(hM:EU k v.1 v.2.1 v.2.2 s):Bq Y.env qG (Fx k r) s:=by
 unfold Fw at h;refine BV (c:=Yl) (fun v=>Fv k v.1 v.2.1 v.2.2) (fun v s=>EU k v.1 v.2.1 v.2.2 s) (Fx k) ?_ h hM;clear h hM s v r;intro v s o hM h;obtain⟨k1,i,Ap⟩:=v;dsimp only at h hM;unfold Fv at h;unfold EU at hM;obtain⟨⟨w0_,m0⟩,m1,m2,m3⟩:=hM;unfold Yl;by_cases e1:i<(Ap.length:Int)
 ·rw [if_pos e1]at h;obtain⟨e2,h⟩:=BS h;obtain⟨e3,h⟩:=BS h;obtain⟨e4,h⟩:=BS h;have c5:=Wd (Ap.getD i.toNat be) k1 e3 e4
  obtain rfl:=Option.some.inj h
  simp (maxDischargeDepth:=9) only [↓AP,AQ,Ae,↓reduceIte,bh,bj,bk,bl,bm,bo,bp,br,bt,bw,bx,bO,b0,b3,b4,b5,b6,m0,m1,m2,m3,e1,e2.1,e2.2,e3,e4.1,e4.2,c5,EU,Fx,CU,CV,CW]<;>(repeat' apply A7)<;>first|rfl|exact⟨_,rfl⟩|exact⟨_,_,rfl⟩|simp [AR,A9]
 ·rw [if_neg e1]at h
  obtain rfl:=Option.some.inj h
  simp (maxDischargeDepth:=9) only [↓AP,AQ,Ae,↓reduceIte,bh,bj,bk,bl,bm,bo,bp,br,bt,bw,bx,bO,b0,b3,b4,b5,b6,m0,m1,m2,m3,e1,EU,Fx,CU,CV,CW]<;>(repeat' apply A7)<;>first|rfl|exact⟨_,rfl⟩|exact⟨_,_,rfl⟩|simp [AR,A9]
theorem RB(a:Aq)(k:Int){r:Int×Aq}(h:Lg a k=some r):Y.call 79 [D.vw [100000] 0 0,bd .i64 k] [b9 123 (AR (fun x=>b9 125 (Ay .i64 .i64 x)) a)]=some (bd .i64 r.1,[b9 123 (AR (fun x=>b9 125 (Ay .i64 .i64 x)) r.2)]):=by
 refine c79 ?_ rfl;unfold k79;unfold Lg at h;obtain⟨AX,hl2,h⟩:=Av h;try dsimp only at h
 simp (maxDischargeDepth:=9) only [↓AP,AQ,Ae,↓reduceIte,bh,bj,bk,bl,bm,bo,bp,br,bt,bw,bx,bO,b0,b3,b4,b5,b6];refine BB (QV k hl2 ?_) ?_
 ·simp (maxDischargeDepth:=9) only [↓AP,AQ,Ae,↓reduceIte,bh,bj,bk,bl,bm,bo,bp,br,bt,bw,bx,bO,b0,b3,b4,b5,b6,EU]<;>(repeat' apply A7)<;>first|rfl|exact⟨_,rfl⟩|exact⟨_,_,rfl⟩|simp [AR,A9]
 ·intro ex2 s2 hX2;unfold Fx at hX2;obtain⟨rfl,n2_0,n2_1⟩:=hX2
  obtain rfl:=Option.some.inj h
  simp (maxDischargeDepth:=9) only [↓AP,AQ,Ae,↓reduceIte,bh,bj,bk,bl,bm,bo,bp,br,bt,bw,bx,bO,b0,b3,b4,b5,b6,n2_0,n2_1]<;>(repeat' apply A7)<;>first|rfl|exact⟨_,rfl⟩|exact⟨_,_,rfl⟩|simp [AR,A9]
def OG:Int→Aq→Aq
 |_,[]=>[]
 |k,x::l=>ah k x.length::OG (k+2*(x.length:Int)) l
theorem iX(x:G8)(l:Aq):El (fE (x::l))=x.length+El (fE l):=by
 rw [show fE (x::l)=x.map Prod.fst::fE l from rfl,O8,P6]
theorem QW(kk:Int): ∀(b a:Aq) (k:Int),CX b→a.length+b.length<1099511627776→0≤k→k+2*El (fE b)<1099511627776→
  Fw kk (k,(a.length:Int),a++b)=some (k+2*El (fE b),a++OG k b):=by
 intro b
 induction b with
 |nil=>
  intro a k hb hab hk hkt;unfold Fw;rw [Mj (r:=(k,a++[]))]
  ·rw [show El (fE [])=0 from rfl,Int.mul_zero,Int.add_zero];rfl
  ·simp only [Fv];rw [if_neg (gm _)]
 |cons x b ih=>
  intro a k hb hab hk hkt;rw [iX]at hkt;simp only [Lr]at hab;have hx:x.length<549755813888:=hb.2 x (LF ..);have ht:=I4 (fE b);have:=ih (a++[ah k x.length]) (k+2*(x.length:Int)) ⟨by omega,fun y hy=>hb.2 y (Jb _ hy)⟩ (by simp;omega) (by omega) (by omega)
  unfold Fw at this ⊢;have eg:(a++x::b).getD (a.length:Int).toNat be=x:=by rw [JX];exact O1 a (x::b) a.length rfl (by simp)
  rw [Q8 (s':=(k+2*(x.length:Int),((a++[ah k x.length]).length:Int),(a++[ah k x.length])++b)),this]
  ·rw [iX,show k+2*(x.length:Int)+2*El (fE b)=k+2*(x.length+El (fE b)) by omega]
   simp [OG]
  ·simp only [Fv];rw [if_pos (eU ..),Bb (eX ..),Bb (by rw [eg];exact hx),Bb (by rw [eg];omega),eg,KO _ (by omega),JX,cg _ _ (IG _),Qd,bL]
   simp
theorem VV(a:Aq)(k:Int)(ha:CX a)(hk:0≤k∧k+2*El (fE a)<1099511627776):Lg a k=some (k+2*El (fE a),OG k a):=by
 unfold Lg;have:=QW k a [] k ha (by have:=ha.1;simp;omega) hk.1 hk.2
 simp only [Qa,PY,Lu]at this;rw [this];rfl
theorem VW(a:Aq)(k:Int)(h0:CX a)(h1:0≤k∧k+2*El (fE a)<1099511627776):Y.call 79 [D.vw [100000] 0 0,bd .i64 k] [b9 123 (AR (fun x=>b9 125 (Ay .i64 .i64 x)) a)]=some (bd .i64 (k+2*El (fE a)),[b9 123 (AR (fun x=>b9 125 (Ay .i64 .i64 x)) (OG k a))]):=RB a k (VV a k h0 h1)
def Jt(Ai:Aq)(BP:AO)(Aj:AO)(k:Int):Option (Int×Aq×AO×AO):= ck (CX Ai)<| ck (0≤k∧k+2*El (fE Ai)<1099511627776)<| ck (BP.length<1099511627776)<| ck (0≤(k+2*El (fE Ai))∧(k+2*El (fE Ai))<1099511627776)<| ck (Aj.length<1099511627776)<| ck (0≤((k+2*El (fE Ai))+BP.length)∧((k+2*El (fE Ai))+BP.length)<1099511627776)<| some ((((k+2*El (fE Ai))+BP.length)+Aj.length),(OG k Ai),(upto (k+2*El (fE Ai)) BP.length),(upto ((k+2*El (fE Ai))+BP.length) Aj.length))
def k30:SC:= .seq (.ops [oX 2 (.box 47 (tK 0)) 0,oX 4 (.assign (iK 0)) 3]) (.seq (.ops [oF 5 47 2 0,oL 6 45 5 45,oM 7 1 3,oC 8 79 [(tK 6),(tK 7)] [45,3] 3,oA 1 8 3]) (.seq (.ops [oF 9 47 2 1,oL 10 26 9 26,oM 11 1 3,oC 12 17 [(tK 10),(tK 11)] [26,3] 3,oA 1 12 3]) (.seq (.ops [oF 13 47 2 2,oL 14 26 13 26,oM 15 1 3,oC 16 17 [(tK 14),(tK 15)] [26,3] 3,oA 1 16 3]) (.seq (.ops [oM 17 1 3,oA 4 17 3]) .ret))))
theorem A3h:Try.f30.body.map (Bc lends)=some k30:=by kernel_rfl
theorem AGJ:Bn Try.f30 2=true:=by kernel_rfl
theorem uk{a l:List D}{r:D×List D}(h:Bq Y.env k30 (F9 Ab l.length [cb 4] r) (entry a l))(ha:a.length=2):Y.call 30 a l=some r:=
 Aa (Y:=Y) rfl Try.func30 (ha▸AGJ) A3h h
theorem PV(Ai:Aq)(BP:AO)(Aj:AO)(k:Int){r:Int×Aq×AO×AO}(h:Jt Ai BP Aj k=some r):Y.call 30 [D.agg [D.vw [100000] 0 0,D.vw [100001] 0 0,D.vw [100002] 0 0],bd .i64 k] [b9 123 (AR (fun x=>b9 125 (Ay .i64 .i64 x)) Ai),b9 3 (AR (bd .i64) BP),b9 3 (AR (bd .i64) Aj)]=some (bd .i64 r.1,[b9 123 (AR (fun x=>b9 125 (Ay .i64 .i64 x)) r.2.1),b9 3 (AR (bd .i64) r.2.2.1),b9 3 (AR (bd .i64) r.2.2.2)]):=by
 refine uk ?_ rfl;unfold k30;unfold Jt at h;obtain⟨e1,h⟩:=BS h;obtain⟨e2,h⟩:=BS h;have c3:=VW Ai k e1 e2;obtain⟨e4,h⟩:=BS h;obtain⟨e5,h⟩:=BS h;have c6:=EI BP (k+2*El (fE Ai)) e4 e5;obtain⟨e7,h⟩:=BS h;obtain⟨e8,h⟩:=BS h;have c9:=EI Aj ((k+2*El (fE Ai))+BP.length) e7 e8
 obtain rfl:=Option.some.inj h
 simp (maxDischargeDepth:=9) only [↓AP,AQ,Ae,↓reduceIte,bh,bj,bk,bl,bm,bo,bp,br,bt,bw,bx,bO,b0,b3,b4,b5,b6,e1,e2.1,e2.2,c3,e4,e5.1,e5.2,c6,e7,e8.1,e8.2,c9]<;>(repeat' apply A7)<;>first|rfl|exact⟨_,rfl⟩|exact⟨_,_,rfl⟩|simp [AR,A9]
theorem RD(a:Aq)(b c:AO)(k:Int)(ha:CX a)(hb:b.length<1099511627776)(hc:c.length<1099511627776)(hk:0≤k∧k+2*El (fE a)+b.length+c.length<1099511627776):
  Jt a b c k=some (k+2*El (fE a)+b.length+c.length,OG k a,upto (k+2*El (fE a)) b.length,upto (k+2*El (fE a)+b.length) c.length):=by
 have ht:=I4 (fE a);unfold Jt;rw [Bb ha,Bb (by omega),Bb hb,Bb (by omega),Bb hc,Bb (by omega)]
theorem EW(Ai:Aq)(BP:AO)(Aj:AO)(k:Int)(h0:CX Ai)(h1:BP.length<1099511627776)(h2:Aj.length<1099511627776)(h3:0≤k∧k+2*El (fE Ai)+BP.length+Aj.length<1099511627776):Y.call 30 [D.agg [D.vw [100000] 0 0,D.vw [100001] 0 0,D.vw [100002] 0 0],bd .i64 k] [b9 123 (AR (fun x=>b9 125 (Ay .i64 .i64 x)) Ai),b9 3 (AR (bd .i64) BP),b9 3 (AR (bd .i64) Aj)]=some (bd .i64 (k+2*El (fE Ai)+BP.length+Aj.length),[b9 123 (AR (fun x=>b9 125 (Ay .i64 .i64 x)) (OG k Ai)),b9 3 (AR (bd .i64) (upto (k+2*El (fE Ai)) BP.length)),b9 3 (AR (bd .i64) (upto (k+2*El (fE Ai)+BP.length) Aj.length))]):=PV Ai BP Aj k (RD Ai BP Aj k h0 h1 h2 h3)
def Hg(A8:Aq)(AL:AO)(AA:AO)(Ha:Int):Option (Bool):=
 ck (Ow A8)<|
 ck (AL.length<9223372036854775808)<|
 ck (AA.length<9223372036854775808)<|
 ck (0≤(1048576:Int)∧(1048576:Int)≤1048576)<|
 if(qi (1048576:Int) A8 AL AA)<0 then
  some true
 else
  ck (CX A8)<|
  ck (AL.length<1099511627776)<|
  ck (AA.length<1099511627776)<|
  (Jo A8 AL AA Ha).bind fun SB=>
  match SB with
  | .inl q25_=>
   (Jn A8 AL AA Ha).bind fun BG=>
   ck (BG.1.length<1099511627776)<|
   if(decide (BG.1=q25_.1))=true then
    if BG.2=true then
     if q25_.2=true then
      if(Ij A8 AL AA A8 AL AA)=true then
       ck (0≤(1:Int)∧(1:Int)+2*El (fE A8)+AL.length+AA.length<1099511627776)<|
       if((1:Int)+2*El (fE A8)+AL.length+AA.length)<0 then
        some false
       else
        ck (0≤(1:Int)∧(1:Int)<1099511627776)<|
        ck ((upto (1:Int) BG.1.length).length<1099511627776)<|
        ck (0≤(1:Int)∧(1:Int)+(upto (1:Int) BG.1.length).length<1099511627776)<|
        if(Hm (1:Int) (upto (1:Int) BG.1.length))<0 then
         some false
        else
         if(Hm (1:Int) (upto (1:Int) BG.1.length))=((1:Int)+BG.1.length)then
          some true
         else
          some false
      else
       some false
     else
      some false
    else
     if q25_.2=true then
      some false
     else
      if(Ij A8 AL AA A8 AL AA)=true then
       ck (0≤(1:Int)∧(1:Int)+2*El (fE A8)+AL.length+AA.length<1099511627776)<|
       if((1:Int)+2*El (fE A8)+AL.length+AA.length)<0 then
        some false
       else
        ck (0≤(1:Int)∧(1:Int)<1099511627776)<|
        ck ((upto (1:Int) BG.1.length).length<1099511627776)<|
        ck (0≤(1:Int)∧(1:Int)+(upto (1:Int) BG.1.length).length<1099511627776)<|
        if(Hm (1:Int) (upto (1:Int) BG.1.length))<0 then
         some false
        else
         if(Hm (1:Int) (upto (1:Int) BG.1.length))=((1:Int)+BG.1.length)then
          some true
         else
          some false
      else
       some false
   else
    some false
  | .inr q25_=>
   (Jn A8 AL AA Ha).bind fun BG=>
   ck (BG.1.length<1099511627776)<|
   if(decide (BG.1=q25_.1))=true then
    if BG.2=true then
     if q25_.2=true then
      if(Ij A8 AL AA A8 AL AA)=true then
       ck (0≤(1:Int)∧(1:Int)+2*El (fE A8)+AL.length+AA.length<1099511627776)<|
       if((1:Int)+2*El (fE A8)+AL.length+AA.length)<0 then
        some false
       else
        ck (0≤(1:Int)∧(1:Int)<1099511627776)<|
        ck ((upto (1:Int) BG.1.length).length<1099511627776)<|
        ck (0≤(1:Int)∧(1:Int)+(upto (1:Int) BG.1.length).length<1099511627776)<|
        if(Hm (1:Int) (upto (1:Int) BG.1.length))<0 then
         some false
        else
         if(Hm (1:Int) (upto (1:Int) BG.1.length))=((1:Int)+BG.1.length)then
          some true
         else
          some false
      else
       some false
     else
      some false
    else
     if q25_.2=true then
      some false
     else
      if(Ij A8 AL AA A8 AL AA)=true then
       ck (0≤(1:Int)∧(1:Int)+2*El (fE A8)+AL.length+AA.length<1099511627776)<|
       if((1:Int)+2*El (fE A8)+AL.length+AA.length)<0 then
        some false
       else
        ck (0≤(1:Int)∧(1:Int)<1099511627776)<|
        ck ((upto (1:Int) BG.1.length).length<1099511627776)<|
        ck (0≤(1:Int)∧(1:Int)+(upto (1:Int) BG.1.length).length<1099511627776)<|
        if(Hm (1:Int) (upto (1:Int) BG.1.length))<0 then
         some false
        else
         if(Hm (1:Int) (upto (1:Int) BG.1.length))=((1:Int)+BG.1.length)then
          some true
         else
          some false
      else
       some false
   else
    some false
def k7:SC:= .seq (.ops [oX 2 (.box 41 (tK 0)) 0,oX 4 CF 4]) (.seq (.ops [oX 5 (.assign (iK 1048576)) 3]) (.seq (.ops [oL 16 41 2 41,oM 17 5 3,oC 18 21 [(tK 16),(tK 17)] [41,3] 3,oA 5 18 3]) (.seq (.seq (.ops [oM 19 5 3,oB 20 .lss 3 (tK 19) (iK 0) 3 4]) (.cond (tK 20) (.seq (.ops [oX 4 (.assign Eh) 4]) .ret) .skip)) (.seq (.ops [oL 22 41 2 41,oC 23 23 [(tK 22)] [41] 47,oM 24 1 3,oC 25 28 [(tK 23),(tK 24)] [47,3] 27,oM 21 25 27,oE 26 21 0 26,oE 27 21 1 4,oA 6 26 26,oA 7 27 4]) (.seq (.ops [oL 28 41 2 41,oC 29 23 [(tK 28)] [41] 47,oX 8 (.alloc 47) 0,oS 47 8 29]) (.seq (.ops [oL 31 47 8 47,oM 32 1 3,oC 33 29 [(tK 31),(tK 32)] [47,3] 27,oM 30 33 27,oE 34 30 0 26,oE 35 30 1 4,oA 9 34 26,oA 10 35 4]) (.seq (.seq (.ops [oM 36 9 26,oM 37 6 26,oC 38 14 [(tK 36),(tK 37)] [26,26] 4,oX 39 (.unOp .not 4 (tK 38)) 4,oM 40 39 4,⟨(some 41),(.move (tK 10)),4,(some (some 40,false))⟩,⟨(some 42),(.move (tK 7)),4,(some (some 40,false))⟩,⟨(some 43),(.binOp .neq 4 (tK 41) (tK 42) 4),4,(some (some 40,false))⟩,oX 44 (.pick (tK 40) Eh (tK 43)) 4]) (.cond (tK 44) (.seq (.ops [oX 4 CF 4]) .ret) .skip)) (.seq (.seq (.draws [(⟨[45,8,8],[45,46,47,48,49],[45]⟩,oL 45 47 8 47),
 (⟨[46,2,2],[45,46,47,48,49],[46]⟩,oL 46 41 2 41),(⟨[47,46,2],[45,46,47,48,49],[47]⟩,oC 47 23 [(tK 46)] [41] 47),(⟨[48,45,47,8,47],[45,46,47,48,49],[48]⟩,oC 48 25 [(tK 45),(tK 47)] [47,47] 4),(⟨[49,48,48],[45,46,47,48,49],[49]⟩,oX 49 (.unOp .not 4 (tK 48)) 4)]) (.cond (tK 49) (.seq (.ops [oX 4 CF 4]) .ret) .skip)) (.seq (.ops [oX 11 (.assign (iK 1)) 3]) (.seq (.ops [oL 50 47 8 47,oM 51 11 3,oC 52 30 [(tK 50),(tK 51)] [47,3] 3,oA 11 52 3]) (.seq (.seq (.ops [oM 53 11 3,oB 54 .lss 3 (tK 53) (iK 0) 3 4,oM 55 54 4,⟨(some 56),(.move (tK 9)),26,(some (some 55,false))⟩,⟨(some 57),(.move (tK 6)),26,(some (some 55,false))⟩,⟨(some 58),(.call ⟨(.value (.func 14)), #[(tK 56),(tK 57)], #[26,26]⟩),4,(some (some 55,false))⟩,⟨(some 59),(.unOp .not 4 (tK 58)),4,(some (some 55,false))⟩,oX 60 (.pick (tK 55) Eh (tK 59)) 4,oM 61 60 4,⟨(some 62),(.move (tK 10)),4,(some (some 61,false))⟩,⟨(some 63),(.move (tK 7)),4,(some (some 61,false))⟩,⟨(some 64),(.binOp .neq 4 (tK 62) (tK 63) 4),4,(some (some 61,false))⟩,oX 65 (.pick (tK 61) Eh (tK 64)) 4]) (.cond (tK 65) (.seq (.ops [oX 4 CF 4]) .ret) .skip)) (.seq (.ops [oX 12 (.assign (iK 1)) 3]) (.seq (.ops [oM 66 9 26,oM 67 12 3,oC 68 17 [(tK 66),(tK 67)] [26,3] 3,
 oA 12 68 3]) (.seq (.ops [oX 13 (.assign (iK 1)) 3]) (.seq (.ops [oM 69 9 26,oM 70 13 3,oC 71 18 [(tK 69),(tK 70)] [26,3] 3,oA 13 71 3]) (.seq (.seq (.ops [oM 72 13 3,oB 73 .lss 3 (tK 72) (iK 0) 3 4]) (.cond (tK 73) (.seq (.ops [oX 4 CF 4]) .ret) .skip)) (.seq (.seq (.ops [oM 74 13 3,oM 75 12 3,oB 76 .neq 3 (tK 74) (tK 75) 3 4]) (.cond (tK 76) (.seq (.ops [oX 4 CF 4]) .ret) .skip)) (.seq (.ops [oL 78 41 2 41,oC 79 23 [(tK 78)] [41] 47,oM 80 1 3,oC 81 29 [(tK 79),(tK 80)] [47,3] 27,oM 77 81 27,oE 82 77 0 26,oE 83 77 1 4,oA 14 82 26,oA 15 83 4]) (.seq (.seq (.ops [oM 84 14 26,oM 85 6 26,oC 86 14 [(tK 84),(tK 85)] [26,26] 4,oX 87 (.unOp .not 4 (tK 86)) 4,oM 88 87 4,⟨(some 89),(.move (tK 15)),4,(some (some 88,false))⟩,⟨(some 90),(.move (tK 7)),4,(some (some 88,false))⟩,⟨(some 91),(.binOp .neq 4 (tK 89) (tK 90) 4),4,(some (some 88,false))⟩,oX 92 (.pick (tK 88) Eh (tK 91)) 4]) (.cond (tK 92) (.seq (.ops [oX 4 CF 4]) .ret) .skip)) (.seq (.ops [oX 13 (.assign (iK 1)) 3]) (.seq (.ops [oM 93 9 26,oM 94 13 3,oC 95 18 [(tK 93),(tK 94)] [26,3] 3,oA 13 95 3]) (.seq (.seq (.ops [oM 96 13 3,oB 97 .lss 3 (tK 96) (iK 0) 3 4]) (.cond (tK 97) (.seq (.ops [oX 4 CF 4])
 .ret) .skip)) (.seq (.seq (.ops [oM 98 13 3,oM 99 12 3,oB 100 .neq 3 (tK 98) (tK 99) 3 4]) (.cond (tK 100) (.seq (.ops [oX 4 CF 4]) .ret) .skip)) (.seq (.ops [oX 4 (.assign Eh) 4]) .ret))))))))))))))))))))))))
theorem AAS:Try.f7.body.map (Bc lends)=some k7:=by kernel_rfl
theorem ok7:Bn Try.f7 2=true:=by kernel_rfl
theorem c7{a l:List D}{r:D×List D}(h:Bq Y.env k7 (F9 Ab l.length [cb 4] r) (entry a l))(ha:a.length=2):Y.call 7 a l=some r:=
 Aa (Y:=Y) rfl Try.func7 (ha▸ok7) AAS h
theorem N8(A8:Aq)(AL:AO)(AA:AO)(Ha:Int){r:Bool}(h:Hg A8 AL AA Ha=some r):Y.call 7 [D.agg [b7 121 (AR (fun x=>b7 159 (Ay .i64 .i64 x)) A8),b7 3 (AR (bd .i64) AL),b7 3 (AR (bd .i64) AA)],bd .i64 Ha] []=some (ca r,[]):=by
 refine c7 ?_ rfl;unfold k7;unfold Hg at h;obtain⟨e1,h⟩:=BS h;obtain⟨e2,h⟩:=BS h;obtain⟨e3,h⟩:=BS h;obtain⟨e4,h⟩:=BS h;have c5:=Ui A8 AL AA (1048576:Int) e1 e2 e3 e4;by_cases e6:(qi (1048576:Int) A8 AL AA)<0
 ·rw [if_pos e6]at h
  obtain rfl:=Option.some.inj h
  simp (maxDischargeDepth:=9) only [↓AP,AQ,Ae,↓reduceIte,bh,bj,bk,bl,bm,bo,bp,br,bt,bw,bx,bO,b0,b3,b4,b5,b6,e1,e2,e3,e4.1,e4.2,c5,e6]<;>(repeat' apply A7)<;>first|rfl|exact⟨_,rfl⟩|exact⟨_,_,rfl⟩|simp [AR,A9]
 ·rw [if_neg e6]at h;obtain⟨e7,h⟩:=BS h;obtain⟨e8,h⟩:=BS h;obtain⟨e9,h⟩:=BS h;have Lm:=BQ A8 AL AA e7 e8 e9;obtain⟨SB,hl11,h⟩:=Av h;try dsimp only at h
  have c11:=SS A8 AL AA Ha hl11;rcases SB with q25_|q25_
  ·dsimp only at h c11;have gp:=BQ A8 AL AA e7 e8 e9;obtain⟨BG,hl13,h⟩:=Av h;try dsimp only at h
   have c13:=KN A8 AL AA Ha hl13;obtain⟨e14,h⟩:=BS h;have Y7:=Bw BG.1 q25_.1 e14;by_cases e16:(decide (BG.1=q25_.1))=true
   ·rw [if_pos e16]at h;by_cases e17:BG.2=true
    ·rw [if_pos e17]at h;by_cases e18:q25_.2=true
     ·rw [if_pos e18]at h;have c19:=BQ A8 AL AA e7 e8 e9;have c20:=Fe A8 AL AA A8 AL AA e7 e8 e9;by_cases e21:(Ij A8 AL AA A8 AL AA)=true
      ·rw [if_pos e21]at h;obtain⟨e22,h⟩:=BS h;have p8:=EW A8 AL AA (1:Int) e7 e8 e9 e22;by_cases e24:((1:Int)+2*El (fE A8)+AL.length+AA.length)<0
       ·rw [if_pos e24]at h
        obtain rfl:=Option.some.inj h
        simp (maxDischargeDepth:=9) only [↓AP,AQ,Ae,↓reduceIte,bh,bj,bk,bl,bm,bo,bp,br,bt,bw,bx,bO,b0,b3,b4,b5,b6,e1,e2,e3,e4.1,e4.2,c5,e6,e7,e8,e9,Lm,c11,gp,c13,e14,Y7,e16,e17,e18,c19,c20,e21,e22.1,e22.2,p8,e24]<;>(repeat' apply A7)<;>first|rfl|exact⟨_,rfl⟩|exact⟨_,_,rfl⟩|simp [AR,A9]
       ·rw [if_neg e24]at h;have Oe:=Bw BG.1 q25_.1 e14;obtain⟨e26,h⟩:=BS h;have c27:=EI BG.1 (1:Int) e14 e26;obtain⟨e28,h⟩:=BS h;obtain⟨e29,h⟩:=BS h;have uk:=Ca (upto (1:Int) BG.1.length) (1:Int) e28 e29;by_cases e31:(Hm (1:Int) (upto (1:Int) BG.1.length))<0
        ·rw [if_pos e31]at h
         obtain rfl:=Option.some.inj h
         simp (maxDischargeDepth:=9) only [↓AP,AQ,Ae,↓reduceIte,bh,bj,bk,bl,bm,bo,bp,br,bt,bw,bx,bO,b0,b3,b4,b5,b6,e1,e2,e3,e4.1,e4.2,c5,e6,e7,e8,e9,Lm,c11,gp,c13,e14,Y7,e16,e17,e18,c19,c20,e21,e22.1,e22.2,p8,e24,Oe,e26.1,e26.2,c27,e28,e29.1,e29.2,uk,e31]<;>(repeat' apply A7)<;>first|rfl|exact⟨_,rfl⟩|exact⟨_,_,rfl⟩|simp [AR,A9]
        ·rw [if_neg e31]at h;by_cases e32:(Hm (1:Int) (upto (1:Int) BG.1.length))=((1:Int)+BG.1.length)
         ·rw [if_pos e32]at h;have c33:=BQ A8 AL AA e7 e8 e9;have c34:=Bw BG.1 q25_.1 e14;have c35:=Ca (upto (1:Int) BG.1.length) (1:Int) e28 e29
          obtain rfl:=Option.some.inj h
          simp (maxDischargeDepth:=9) only [↓AP,AQ,Ae,↓reduceIte,bh,bj,bk,bl,bm,bo,bp,br,bt,bw,bx,bO,b0,b3,b4,b5,b6,e1,e2,e3,e4.1,e4.2,c5,e6,e7,e8,e9,Lm,c11,gp,c13,e14,Y7,e16,e17,e18,c19,c20,e21,e22.1,e22.2,p8,e24,Oe,e26.1,e26.2,c27,e28,e29.1,e29.2,uk,e31,decide_eq_true e32,c33,c34,c35]<;>(repeat' apply A7)<;>first|rfl|exact⟨_,rfl⟩|exact⟨_,_,rfl⟩|simp [AR,A9]
         ·rw [if_neg e32]at h
          obtain rfl:=Option.some.inj h
          simp (maxDischargeDepth:=9) only [↓AP,AQ,Ae,↓reduceIte,bh,bj,bk,bl,bm,bo,bp,br,bt,bw,bx,bO,b0,b3,b4,b5,b6,e1,e2,e3,e4.1,e4.2,c5,e6,e7,e8,e9,Lm,c11,gp,c13,e14,Y7,e16,e17,e18,c19,c20,e21,e22.1,e22.2,p8,e24,Oe,e26.1,e26.2,c27,e28,e29.1,e29.2,uk,e31,e32]<;>(repeat' apply A7)<;>first|rfl|exact⟨_,rfl⟩|exact⟨_,_,rfl⟩|simp [AR,A9]
      ·rw [if_neg e21]at h;have e21f:(Ij A8 AL AA A8 AL AA)=false:=JA.mpr e21
       obtain rfl:=Option.some.inj h
       simp (maxDischargeDepth:=9) only [↓AP,AQ,Ae,↓reduceIte,bh,bj,bk,bl,bm,bo,bp,br,bt,bw,bx,bO,b0,b3,b4,b5,b6,e1,e2,e3,e4.1,e4.2,c5,e6,e7,e8,e9,Lm,c11,gp,c13,e14,Y7,e16,e17,e18,c19,c20,e21f]<;>(repeat' apply A7)<;>first|rfl|exact⟨_,rfl⟩|exact⟨_,_,rfl⟩|simp [AR,A9]
     ·rw [if_neg e18]at h;have e18f:q25_.2=false:=JA.mpr e18
      obtain rfl:=Option.some.inj h
      simp (maxDischargeDepth:=9) only [↓AP,AQ,Ae,↓reduceIte,bh,bj,bk,bl,bm,bo,bp,br,bt,bw,bx,bO,b0,b3,b4,b5,b6,e1,e2,e3,e4.1,e4.2,c5,e6,e7,e8,e9,Lm,c11,gp,c13,e14,Y7,e16,e17,e18f]<;>(repeat' apply A7)<;>first|rfl|exact⟨_,rfl⟩|exact⟨_,_,rfl⟩|simp [AR,A9]
    ·rw [if_neg e17]at h;have e17f:BG.2=false:=JA.mpr e17;by_cases e18:q25_.2=true
     ·rw [if_pos e18]at h
      obtain rfl:=Option.some.inj h
      simp (maxDischargeDepth:=9) only [↓AP,AQ,Ae,↓reduceIte,bh,bj,bk,bl,bm,bo,bp,br,bt,bw,bx,bO,b0,b3,b4,b5,b6,e1,e2,e3,e4.1,e4.2,c5,e6,e7,e8,e9,Lm,c11,gp,c13,e14,Y7,e16,e17f,e18]<;>(repeat' apply A7)<;>first|rfl|exact⟨_,rfl⟩|exact⟨_,_,rfl⟩|simp [AR,A9]
     ·rw [if_neg e18]at h;have e18f:q25_.2=false:=JA.mpr e18;have c19:=BQ A8 AL AA e7 e8 e9;have c20:=Fe A8 AL AA A8 AL AA e7 e8 e9;by_cases e21:(Ij A8 AL AA A8 AL AA)=true
      ·rw [if_pos e21]at h;obtain⟨e22,h⟩:=BS h;have p8:=EW A8 AL AA (1:Int) e7 e8 e9 e22;by_cases e24:((1:Int)+2*El (fE A8)+AL.length+AA.length)<0
       ·rw [if_pos e24]at h
        obtain rfl:=Option.some.inj h
        simp (maxDischargeDepth:=9) only [↓AP,AQ,Ae,↓reduceIte,bh,bj,bk,bl,bm,bo,bp,br,bt,bw,bx,bO,b0,b3,b4,b5,b6,e1,e2,e3,e4.1,e4.2,c5,e6,e7,e8,e9,Lm,c11,gp,c13,e14,Y7,e16,e17f,e18f,c19,c20,e21,e22.1,e22.2,p8,e24]<;>(repeat' apply A7)<;>first|rfl|exact⟨_,rfl⟩|exact⟨_,_,rfl⟩|simp [AR,A9]
       ·rw [if_neg e24]at h;have Oe:=Bw BG.1 q25_.1 e14;obtain⟨e26,h⟩:=BS h;have c27:=EI BG.1 (1:Int) e14 e26;obtain⟨e28,h⟩:=BS h;obtain⟨e29,h⟩:=BS h;have uk:=Ca (upto (1:Int) BG.1.length) (1:Int) e28 e29;by_cases e31:(Hm (1:Int) (upto (1:Int) BG.1.length))<0
        ·rw [if_pos e31]at h
         obtain rfl:=Option.some.inj h
         simp (maxDischargeDepth:=9) only [↓AP,AQ,Ae,↓reduceIte,bh,bj,bk,bl,bm,bo,bp,br,bt,bw,bx,bO,b0,b3,b4,b5,b6,e1,e2,e3,e4.1,e4.2,c5,e6,e7,e8,e9,Lm,c11,gp,c13,e14,Y7,e16,e17f,e18f,c19,c20,e21,e22.1,e22.2,p8,e24,Oe,e26.1,e26.2,c27,e28,e29.1,e29.2,uk,e31]<;>(repeat' apply A7)<;>first|rfl|exact⟨_,rfl⟩|exact⟨_,_,rfl⟩|simp [AR,A9]
        ·rw [if_neg e31]at h;by_cases e32:(Hm (1:Int) (upto (1:Int) BG.1.length))=((1:Int)+BG.1.length)
         ·rw [if_pos e32]at h;have c33:=BQ A8 AL AA e7 e8 e9;have c34:=Bw BG.1 q25_.1 e14;have c35:=Ca (upto (1:Int) BG.1.length) (1:Int) e28 e29
          obtain rfl:=Option.some.inj h
          simp (maxDischargeDepth:=9) only [↓AP,AQ,Ae,↓reduceIte,bh,bj,bk,bl,bm,bo,bp,br,bt,bw,bx,bO,b0,b3,b4,b5,b6,e1,e2,e3,e4.1,e4.2,c5,e6,e7,e8,e9,Lm,c11,gp,c13,e14,Y7,e16,e17f,e18f,c19,c20,e21,e22.1,e22.2,p8,e24,Oe,e26.1,e26.2,c27,e28,e29.1,e29.2,uk,e31,decide_eq_true e32,c33,c34,c35]<;>(repeat' apply A7)<;>first|rfl|exact⟨_,rfl⟩|exact⟨_,_,rfl⟩|simp [AR,A9]
         ·rw [if_neg e32]at h
          obtain rfl:=Option.some.inj h
          simp (maxDischargeDepth:=9) only [↓AP,AQ,Ae,↓reduceIte,bh,bj,bk,bl,bm,bo,bp,br,bt,bw,bx,bO,b0,b3,b4,b5,b6,e1,e2,e3,e4.1,e4.2,c5,e6,e7,e8,e9,Lm,c11,gp,c13,e14,Y7,e16,e17f,e18f,c19,c20,e21,e22.1,e22.2,p8,e24,Oe,e26.1,e26.2,c27,e28,e29.1,e29.2,uk,e31,e32]<;>(repeat' apply A7)<;>first|rfl|exact⟨_,rfl⟩|exact⟨_,_,rfl⟩|simp [AR,A9]
      ·rw [if_neg e21]at h;have e21f:(Ij A8 AL AA A8 AL AA)=false:=JA.mpr e21
       obtain rfl:=Option.some.inj h
       simp (maxDischargeDepth:=9) only [↓AP,AQ,Ae,↓reduceIte,bh,bj,bk,bl,bm,bo,bp,br,bt,bw,bx,bO,b0,b3,b4,b5,b6,e1,e2,e3,e4.1,e4.2,c5,e6,e7,e8,e9,Lm,c11,gp,c13,e14,Y7,e16,e17f,e18f,c19,c20,e21f]<;>(repeat' apply A7)<;>first|rfl|exact⟨_,rfl⟩|exact⟨_,_,rfl⟩|simp [AR,A9]
   ·rw [if_neg e16]at h;have e16f:(decide (BG.1=q25_.1))=false:=JA.mpr e16
    obtain rfl:=Option.some.inj h
    simp (maxDischargeDepth:=9) only [↓AP,AQ,Ae,↓reduceIte,bh,bj,bk,bl,bm,bo,bp,br,bt,bw,bx,bO,b0,b3,b4,b5,b6,e1,e2,e3,e4.1,e4.2,c5,e6,e7,e8,e9,Lm,c11,gp,c13,e14,Y7,e16f]<;>(repeat' apply A7)<;>first|rfl|exact⟨_,rfl⟩|exact⟨_,_,rfl⟩|simp [AR,A9]
  ·dsimp only at h c11;by_cases e17:(!q25_.1.isEmpty)=true
   ·skip
    have Od:=BQ A8 AL AA e7 e8 e9;obtain⟨BG,hl19,h⟩:=Av h;try dsimp only at h
    have c19:=KN A8 AL AA Ha hl19;obtain⟨e20,h⟩:=BS h;have QH:=Bw BG.1 q25_.1 e20;by_cases e22:(decide (BG.1=q25_.1))=true
    ·rw [if_pos e22]at h;by_cases e23:BG.2=true
     ·rw [if_pos e23]at h;by_cases e24:q25_.2=true
      ·rw [if_pos e24]at h;have Oe:=BQ A8 AL AA e7 e8 e9;have Sw:=Fe A8 AL AA A8 AL AA e7 e8 e9;by_cases e27:(Ij A8 AL AA A8 AL AA)=true
       ·rw [if_pos e27]at h;obtain⟨e28,h⟩:=BS h;have WX:=EW A8 AL AA (1:Int) e7 e8 e9 e28;by_cases e30:((1:Int)+2*El (fE A8)+AL.length+AA.length)<0
        ·rw [if_pos e30]at h
         obtain rfl:=Option.some.inj h
         simp (maxDischargeDepth:=9) only [↓AP,AQ,Ae,↓reduceIte,bh,bj,bk,bl,bm,bo,bp,br,bt,bw,bx,bO,b0,b3,b4,b5,b6,e1,e2,e3,e4.1,e4.2,c5,e6,e7,e8,e9,Lm,c11,e17,Od,c19,e20,QH,e22,e23,e24,Oe,Sw,e27,e28.1,e28.2,WX,e30]<;>(repeat' apply A7)<;>first|rfl|exact⟨_,rfl⟩|exact⟨_,_,rfl⟩|simp [AR,A9]
        ·rw [if_neg e30]at h;have c31:=Bw BG.1 q25_.1 e20;obtain⟨e32,h⟩:=BS h;have c33:=EI BG.1 (1:Int) e20 e32;obtain⟨e34,h⟩:=BS h;obtain⟨e35,h⟩:=BS h;have c36:=Ca (upto (1:Int) BG.1.length) (1:Int) e34 e35;by_cases e37:(Hm (1:Int) (upto (1:Int) BG.1.length))<0
         ·rw [if_pos e37]at h
          obtain rfl:=Option.some.inj h
          simp (maxDischargeDepth:=9) only [↓AP,AQ,Ae,↓reduceIte,bh,bj,bk,bl,bm,bo,bp,br,bt,bw,bx,bO,b0,b3,b4,b5,b6,e1,e2,e3,e4.1,e4.2,c5,e6,e7,e8,e9,Lm,c11,e17,Od,c19,e20,QH,e22,e23,e24,Oe,Sw,e27,e28.1,e28.2,WX,e30,c31,e32.1,e32.2,c33,e34,e35.1,e35.2,c36,e37]<;>(repeat' apply A7)<;>first|rfl|exact⟨_,rfl⟩|exact⟨_,_,rfl⟩|simp [AR,A9]
         ·rw [if_neg e37]at h;by_cases e38:(Hm (1:Int) (upto (1:Int) BG.1.length))=((1:Int)+BG.1.length)
          ·rw [if_pos e38]at h;have c39:=BQ A8 AL AA e7 e8 e9;have c40:=Bw BG.1 q25_.1 e20;have c41:=Ca (upto (1:Int) BG.1.length) (1:Int) e34 e35
           obtain rfl:=Option.some.inj h
           simp (maxDischargeDepth:=9) only [↓AP,AQ,Ae,↓reduceIte,bh,bj,bk,bl,bm,bo,bp,br,bt,bw,bx,bO,b0,b3,b4,b5,b6,e1,e2,e3,e4.1,e4.2,c5,e6,e7,e8,e9,Lm,c11,e17,Od,c19,e20,QH,e22,e23,e24,Oe,Sw,e27,e28.1,e28.2,WX,e30,c31,e32.1,e32.2,c33,e34,e35.1,e35.2,c36,e37,decide_eq_true e38,c39,c40,c41]<;>(repeat' apply A7)<;>first|rfl|exact⟨_,rfl⟩|exact⟨_,_,rfl⟩|simp [AR,A9]
          ·rw [if_neg e38]at h
           obtain rfl:=Option.some.inj h
           simp (maxDischargeDepth:=9) only [↓AP,AQ,Ae,↓reduceIte,bh,bj,bk,bl,bm,bo,bp,br,bt,bw,bx,bO,b0,b3,b4,b5,b6,e1,e2,e3,e4.1,e4.2,c5,e6,e7,e8,e9,Lm,c11,e17,Od,c19,e20,QH,e22,e23,e24,Oe,Sw,e27,e28.1,e28.2,WX,e30,c31,e32.1,e32.2,c33,e34,e35.1,e35.2,c36,e37,e38]<;>(repeat' apply A7)<;>first|rfl|exact⟨_,rfl⟩|exact⟨_,_,rfl⟩|simp [AR,A9]
       ·rw [if_neg e27]at h;have e27f:(Ij A8 AL AA A8 AL AA)=false:=JA.mpr e27
        obtain rfl:=Option.some.inj h
        simp (maxDischargeDepth:=9) only [↓AP,AQ,Ae,↓reduceIte,bh,bj,bk,bl,bm,bo,bp,br,bt,bw,bx,bO,b0,b3,b4,b5,b6,e1,e2,e3,e4.1,e4.2,c5,e6,e7,e8,e9,Lm,c11,e17,Od,c19,e20,QH,e22,e23,e24,Oe,Sw,e27f]<;>(repeat' apply A7)<;>first|rfl|exact⟨_,rfl⟩|exact⟨_,_,rfl⟩|simp [AR,A9]
      ·rw [if_neg e24]at h;have e24f:q25_.2=false:=JA.mpr e24
       obtain rfl:=Option.some.inj h
       simp (maxDischargeDepth:=9) only [↓AP,AQ,Ae,↓reduceIte,bh,bj,bk,bl,bm,bo,bp,br,bt,bw,bx,bO,b0,b3,b4,b5,b6,e1,e2,e3,e4.1,e4.2,c5,e6,e7,e8,e9,Lm,c11,e17,Od,c19,e20,QH,e22,e23,e24f]<;>(repeat' apply A7)<;>first|rfl|exact⟨_,rfl⟩|exact⟨_,_,rfl⟩|simp [AR,A9]
     ·rw [if_neg e23]at h;have e23f:BG.2=false:=JA.mpr e23;by_cases e24:q25_.2=true
      ·rw [if_pos e24]at h
       obtain rfl:=Option.some.inj h
       simp (maxDischargeDepth:=9) only [↓AP,AQ,Ae,↓reduceIte,bh,bj,bk,bl,bm,bo,bp,br,bt,bw,bx,bO,b0,b3,b4,b5,b6,e1,e2,e3,e4.1,e4.2,c5,e6,e7,e8,e9,Lm,c11,e17,Od,c19,e20,QH,e22,e23f,e24]<;>(repeat' apply A7)<;>first|rfl|exact⟨_,rfl⟩|exact⟨_,_,rfl⟩|simp [AR,A9]
      ·rw [if_neg e24]at h;have e24f:q25_.2=false:=JA.mpr e24;have Oe:=BQ A8 AL AA e7 e8 e9;have Sw:=Fe A8 AL AA A8 AL AA e7 e8 e9;by_cases e27:(Ij A8 AL AA A8 AL AA)=true
       ·rw [if_pos e27]at h;obtain⟨e28,h⟩:=BS h;have WX:=EW A8 AL AA (1:Int) e7 e8 e9 e28;by_cases e30:((1:Int)+2*El (fE A8)+AL.length+AA.length)<0
        ·rw [if_pos e30]at h
         obtain rfl:=Option.some.inj h
         simp (maxDischargeDepth:=9) only [↓AP,AQ,Ae,↓reduceIte,bh,bj,bk,bl,bm,bo,bp,br,bt,bw,bx,bO,b0,b3,b4,b5,b6,e1,e2,e3,e4.1,e4.2,c5,e6,e7,e8,e9,Lm,c11,e17,Od,c19,e20,QH,e22,e23f,e24f,Oe,Sw,e27,e28.1,e28.2,WX,e30]<;>(repeat' apply A7)<;>first|rfl|exact⟨_,rfl⟩|exact⟨_,_,rfl⟩|simp [AR,A9]
        ·rw [if_neg e30]at h;have c31:=Bw BG.1 q25_.1 e20;obtain⟨e32,h⟩:=BS h;have c33:=EI BG.1 (1:Int) e20 e32;obtain⟨e34,h⟩:=BS h;obtain⟨e35,h⟩:=BS h;have c36:=Ca (upto (1:Int) BG.1.length) (1:Int) e34 e35;by_cases e37:(Hm (1:Int) (upto (1:Int) BG.1.length))<0
         ·rw [if_pos e37]at h
          obtain rfl:=Option.some.inj h
          simp (maxDischargeDepth:=9) only [↓AP,AQ,Ae,↓reduceIte,bh,bj,bk,bl,bm,bo,bp,br,bt,bw,bx,bO,b0,b3,b4,b5,b6,e1,e2,e3,e4.1,e4.2,c5,e6,e7,e8,e9,Lm,c11,e17,Od,c19,e20,QH,e22,e23f,e24f,Oe,Sw,e27,e28.1,e28.2,WX,e30,c31,e32.1,e32.2,c33,e34,e35.1,e35.2,c36,e37]<;>(repeat' apply A7)<;>first|rfl|exact⟨_,rfl⟩|exact⟨_,_,rfl⟩|simp [AR,A9]
         ·rw [if_neg e37]at h;by_cases e38:(Hm (1:Int) (upto (1:Int) BG.1.length))=((1:Int)+BG.1.length)
          ·rw [if_pos e38]at h;have c39:=BQ A8 AL AA e7 e8 e9;have c40:=Bw BG.1 q25_.1 e20;have c41:=Ca (upto (1:Int) BG.1.length) (1:Int) e34 e35
           obtain rfl:=Option.some.inj h
           simp (maxDischargeDepth:=9) only [↓AP,AQ,Ae,↓reduceIte,bh,bj,bk,bl,bm,bo,bp,br,bt,bw,bx,bO,b0,b3,b4,b5,b6,e1,e2,e3,e4.1,e4.2,c5,e6,e7,e8,e9,Lm,c11,e17,Od,c19,e20,QH,e22,e23f,e24f,Oe,Sw,e27,e28.1,e28.2,WX,e30,c31,e32.1,e32.2,c33,e34,e35.1,e35.2,c36,e37,decide_eq_true e38,c39,c40,c41]<;>(repeat' apply A7)<;>first|rfl|exact⟨_,rfl⟩|exact⟨_,_,rfl⟩|simp [AR,A9]
          ·rw [if_neg e38]at h
           obtain rfl:=Option.some.inj h
           simp (maxDischargeDepth:=9) only [↓AP,AQ,Ae,↓reduceIte,bh,bj,bk,bl,bm,bo,bp,br,bt,bw,bx,bO,b0,b3,b4,b5,b6,e1,e2,e3,e4.1,e4.2,c5,e6,e7,e8,e9,Lm,c11,e17,Od,c19,e20,QH,e22,e23f,e24f,Oe,Sw,e27,e28.1,e28.2,WX,e30,c31,e32.1,e32.2,c33,e34,e35.1,e35.2,c36,e37,e38]<;>(repeat' apply A7)<;>first|rfl|exact⟨_,rfl⟩|exact⟨_,_,rfl⟩|simp [AR,A9]
       ·rw [if_neg e27]at h;have e27f:(Ij A8 AL AA A8 AL AA)=false:=JA.mpr e27
        obtain rfl:=Option.some.inj h
        simp (maxDischargeDepth:=9) only [↓AP,AQ,Ae,↓reduceIte,bh,bj,bk,bl,bm,bo,bp,br,bt,bw,bx,bO,b0,b3,b4,b5,b6,e1,e2,e3,e4.1,e4.2,c5,e6,e7,e8,e9,Lm,c11,e17,Od,c19,e20,QH,e22,e23f,e24f,Oe,Sw,e27f]<;>(repeat' apply A7)<;>first|rfl|exact⟨_,rfl⟩|exact⟨_,_,rfl⟩|simp [AR,A9]
    ·rw [if_neg e22]at h;have e22f:(decide (BG.1=q25_.1))=false:=JA.mpr e22
     obtain rfl:=Option.some.inj h
     simp (maxDischargeDepth:=9) only [↓AP,AQ,Ae,↓reduceIte,bh,bj,bk,bl,bm,bo,bp,br,bt,bw,bx,bO,b0,b3,b4,b5,b6,e1,e2,e3,e4.1,e4.2,c5,e6,e7,e8,e9,Lm,c11,e17,Od,c19,e20,QH,e22f]<;>(repeat' apply A7)<;>first|rfl|exact⟨_,rfl⟩|exact⟨_,_,rfl⟩|simp [AR,A9]
   ·skip
    have e17f:(!q25_.1.isEmpty)=false:=JA.mpr e17;have Od:=BQ A8 AL AA e7 e8 e9;obtain⟨BG,hl19,h⟩:=Av h;try dsimp only at h
    have c19:=KN A8 AL AA Ha hl19;obtain⟨e20,h⟩:=BS h;have QH:=Bw BG.1 q25_.1 e20;by_cases e22:(decide (BG.1=q25_.1))=true
    ·rw [if_pos e22]at h;by_cases e23:BG.2=true
     ·rw [if_pos e23]at h;by_cases e24:q25_.2=true
      ·rw [if_pos e24]at h;have Oe:=BQ A8 AL AA e7 e8 e9;have Sw:=Fe A8 AL AA A8 AL AA e7 e8 e9;by_cases e27:(Ij A8 AL AA A8 AL AA)=true
       ·rw [if_pos e27]at h;obtain⟨e28,h⟩:=BS h;have WX:=EW A8 AL AA (1:Int) e7 e8 e9 e28;by_cases e30:((1:Int)+2*El (fE A8)+AL.length+AA.length)<0
        ·rw [if_pos e30]at h
         obtain rfl:=Option.some.inj h
         simp (maxDischargeDepth:=9) only [↓AP,AQ,Ae,↓reduceIte,bh,bj,bk,bl,bm,bo,bp,br,bt,bw,bx,bO,b0,b3,b4,b5,b6,e1,e2,e3,e4.1,e4.2,c5,e6,e7,e8,e9,Lm,c11,e17f,Od,c19,e20,QH,e22,e23,e24,Oe,Sw,e27,e28.1,e28.2,WX,e30]<;>(repeat' apply A7)<;>first|rfl|exact⟨_,rfl⟩|exact⟨_,_,rfl⟩|simp [AR,A9]
        ·rw [if_neg e30]at h;have c31:=Bw BG.1 q25_.1 e20;obtain⟨e32,h⟩:=BS h;have c33:=EI BG.1 (1:Int) e20 e32;obtain⟨e34,h⟩:=BS h;obtain⟨e35,h⟩:=BS h;have c36:=Ca (upto (1:Int) BG.1.length) (1:Int) e34 e35;by_cases e37:(Hm (1:Int) (upto (1:Int) BG.1.length))<0
         ·rw [if_pos e37]at h
          obtain rfl:=Option.some.inj h
          simp (maxDischargeDepth:=9) only [↓AP,AQ,Ae,↓reduceIte,bh,bj,bk,bl,bm,bo,bp,br,bt,bw,bx,bO,b0,b3,b4,b5,b6,e1,e2,e3,e4.1,e4.2,c5,e6,e7,e8,e9,Lm,c11,e17f,Od,c19,e20,QH,e22,e23,e24,Oe,Sw,e27,e28.1,e28.2,WX,e30,c31,e32.1,e32.2,c33,e34,e35.1,e35.2,c36,e37]<;>(repeat' apply A7)<;>first|rfl|exact⟨_,rfl⟩|exact⟨_,_,rfl⟩|simp [AR,A9]
         ·rw [if_neg e37]at h;by_cases e38:(Hm (1:Int) (upto (1:Int) BG.1.length))=((1:Int)+BG.1.length)
          ·rw [if_pos e38]at h;have c39:=BQ A8 AL AA e7 e8 e9;have c40:=Bw BG.1 q25_.1 e20;have c41:=Ca (upto (1:Int) BG.1.length) (1:Int) e34 e35
           obtain rfl:=Option.some.inj h
           simp (maxDischargeDepth:=9) only [↓AP,AQ,Ae,↓reduceIte,bh,bj,bk,bl,bm,bo,bp,br,bt,bw,bx,bO,b0,b3,b4,b5,b6,e1,e2,e3,e4.1,e4.2,c5,e6,e7,e8,e9,Lm,c11,e17f,Od,c19,e20,QH,e22,e23,e24,Oe,Sw,e27,e28.1,e28.2,WX,e30,c31,e32.1,e32.2,c33,e34,e35.1,e35.2,c36,e37,decide_eq_true e38,c39,c40,c41]<;>(repeat' apply A7)<;>first|rfl|exact⟨_,rfl⟩|exact⟨_,_,rfl⟩|simp [AR,A9]
          ·rw [if_neg e38]at h
           obtain rfl:=Option.some.inj h
           simp (maxDischargeDepth:=9) only [↓AP,AQ,Ae,↓reduceIte,bh,bj,bk,bl,bm,bo,bp,br,bt,bw,bx,bO,b0,b3,b4,b5,b6,e1,e2,e3,e4.1,e4.2,c5,e6,e7,e8,e9,Lm,c11,e17f,Od,c19,e20,QH,e22,e23,e24,Oe,Sw,e27,e28.1,e28.2,WX,e30,c31,e32.1,e32.2,c33,e34,e35.1,e35.2,c36,e37,e38]<;>(repeat' apply A7)<;>first|rfl|exact⟨_,rfl⟩|exact⟨_,_,rfl⟩|simp [AR,A9]
       ·rw [if_neg e27]at h;have e27f:(Ij A8 AL AA A8 AL AA)=false:=JA.mpr e27
        obtain rfl:=Option.some.inj h
        simp (maxDischargeDepth:=9) only [↓AP,AQ,Ae,↓reduceIte,bh,bj,bk,bl,bm,bo,bp,br,bt,bw,bx,bO,b0,b3,b4,b5,b6,e1,e2,e3,e4.1,e4.2,c5,e6,e7,e8,e9,Lm,c11,e17f,Od,c19,e20,QH,e22,e23,e24,Oe,Sw,e27f]<;>(repeat' apply A7)<;>first|rfl|exact⟨_,rfl⟩|exact⟨_,_,rfl⟩|simp [AR,A9]
      ·rw [if_neg e24]at h;have e24f:q25_.2=false:=JA.mpr e24
       obtain rfl:=Option.some.inj h
       simp (maxDischargeDepth:=9) only [↓AP,AQ,Ae,↓reduceIte,bh,bj,bk,bl,bm,bo,bp,br,bt,bw,bx,bO,b0,b3,b4,b5,b6,e1,e2,e3,e4.1,e4.2,c5,e6,e7,e8,e9,Lm,c11,e17f,Od,c19,e20,QH,e22,e23,e24f]<;>(repeat' apply A7)<;>first|rfl|exact⟨_,rfl⟩|exact⟨_,_,rfl⟩|simp [AR,A9]
     ·rw [if_neg e23]at h;have e23f:BG.2=false:=JA.mpr e23;by_cases e24:q25_.2=true
      ·rw [if_pos e24]at h
       obtain rfl:=Option.some.inj h
       simp (maxDischargeDepth:=9) only [↓AP,AQ,Ae,↓reduceIte,bh,bj,bk,bl,bm,bo,bp,br,bt,bw,bx,bO,b0,b3,b4,b5,b6,e1,e2,e3,e4.1,e4.2,c5,e6,e7,e8,e9,Lm,c11,e17f,Od,c19,e20,QH,e22,e23f,e24]<;>(repeat' apply A7)<;>first|rfl|exact⟨_,rfl⟩|exact⟨_,_,rfl⟩|simp [AR,A9]
      ·rw [if_neg e24]at h;have e24f:q25_.2=false:=JA.mpr e24;have Oe:=BQ A8 AL AA e7 e8 e9;have Sw:=Fe A8 AL AA A8 AL AA e7 e8 e9;by_cases e27:(Ij A8 AL AA A8 AL AA)=true
       ·rw [if_pos e27]at h;obtain⟨e28,h⟩:=BS h;have WX:=EW A8 AL AA (1:Int) e7 e8 e9 e28;by_cases e30:((1:Int)+2*El (fE A8)+AL.length+AA.length)<0
        ·rw [if_pos e30]at h
         obtain rfl:=Option.some.inj h
         simp (maxDischargeDepth:=9) only [↓AP,AQ,Ae,↓reduceIte,bh,bj,bk,bl,bm,bo,bp,br,bt,bw,bx,bO,b0,b3,b4,b5,b6,e1,e2,e3,e4.1,e4.2,c5,e6,e7,e8,e9,Lm,c11,e17f,Od,c19,e20,QH,e22,e23f,e24f,Oe,Sw,e27,e28.1,e28.2,WX,e30]<;>(repeat' apply A7)<;>first|rfl|exact⟨_,rfl⟩|exact⟨_,_,rfl⟩|simp [AR,A9]
        ·rw [if_neg e30]at h;have c31:=Bw BG.1 q25_.1 e20;obtain⟨e32,h⟩:=BS h;have c33:=EI BG.1 (1:Int) e20 e32;obtain⟨e34,h⟩:=BS h;obtain⟨e35,h⟩:=BS h;have c36:=Ca (upto (1:Int) BG.1.length) (1:Int) e34 e35;by_cases e37:(Hm (1:Int) (upto (1:Int) BG.1.length))<0
         ·rw [if_pos e37]at h
          obtain rfl:=Option.some.inj h
          simp (maxDischargeDepth:=9) only [↓AP,AQ,Ae,↓reduceIte,bh,bj,bk,bl,bm,bo,bp,br,bt,bw,bx,bO,b0,b3,b4,b5,b6,e1,e2,e3,e4.1,e4.2,c5,e6,e7,e8,e9,Lm,c11,e17f,Od,c19,e20,QH,e22,e23f,e24f,Oe,Sw,e27,e28.1,e28.2,WX,e30,c31,e32.1,e32.2,c33,e34,e35.1,e35.2,c36,e37]<;>(repeat' apply A7)<;>first|rfl|exact⟨_,rfl⟩|exact⟨_,_,rfl⟩|simp [AR,A9]
         ·rw [if_neg e37]at h;by_cases e38:(Hm (1:Int) (upto (1:Int) BG.1.length))=((1:Int)+BG.1.length)
          ·rw [if_pos e38]at h;have c39:=BQ A8 AL AA e7 e8 e9;have c40:=Bw BG.1 q25_.1 e20;have c41:=Ca (upto (1:Int) BG.1.length) (1:Int) e34 e35
           obtain rfl:=Option.some.inj h
           simp (maxDischargeDepth:=9) only [↓AP,AQ,Ae,↓reduceIte,bh,bj,bk,bl,bm,bo,bp,br,bt,bw,bx,bO,b0,b3,b4,b5,b6,e1,e2,e3,e4.1,e4.2,c5,e6,e7,e8,e9,Lm,c11,e17f,Od,c19,e20,QH,e22,e23f,e24f,Oe,Sw,e27,e28.1,e28.2,WX,e30,c31,e32.1,e32.2,c33,e34,e35.1,e35.2,c36,e37,decide_eq_true e38,c39,c40,c41]<;>(repeat' apply A7)<;>first|rfl|exact⟨_,rfl⟩|exact⟨_,_,rfl⟩|simp [AR,A9]
          ·rw [if_neg e38]at h
           obtain rfl:=Option.some.inj h
           simp (maxDischargeDepth:=9) only [↓AP,AQ,Ae,↓reduceIte,bh,bj,bk,bl,bm,bo,bp,br,bt,bw,bx,bO,b0,b3,b4,b5,b6,e1,e2,e3,e4.1,e4.2,c5,e6,e7,e8,e9,Lm,c11,e17f,Od,c19,e20,QH,e22,e23f,e24f,Oe,Sw,e27,e28.1,e28.2,WX,e30,c31,e32.1,e32.2,c33,e34,e35.1,e35.2,c36,e37,e38]<;>(repeat' apply A7)<;>first|rfl|exact⟨_,rfl⟩|exact⟨_,_,rfl⟩|simp [AR,A9]
       ·rw [if_neg e27]at h;have e27f:(Ij A8 AL AA A8 AL AA)=false:=JA.mpr e27
        obtain rfl:=Option.some.inj h
        simp (maxDischargeDepth:=9) only [↓AP,AQ,Ae,↓reduceIte,bh,bj,bk,bl,bm,bo,bp,br,bt,bw,bx,bO,b0,b3,b4,b5,b6,e1,e2,e3,e4.1,e4.2,c5,e6,e7,e8,e9,Lm,c11,e17f,Od,c19,e20,QH,e22,e23f,e24f,Oe,Sw,e27f]<;>(repeat' apply A7)<;>first|rfl|exact⟨_,rfl⟩|exact⟨_,_,rfl⟩|simp [AR,A9]
    ·rw [if_neg e22]at h;have e22f:(decide (BG.1=q25_.1))=false:=JA.mpr e22
     obtain rfl:=Option.some.inj h
     simp (maxDischargeDepth:=9) only [↓AP,AQ,Ae,↓reduceIte,bh,bj,bk,bl,bm,bo,bp,br,bt,bw,bx,bO,b0,b3,b4,b5,b6,e1,e2,e3,e4.1,e4.2,c5,e6,e7,e8,e9,Lm,c11,e17f,Od,c19,e20,QH,e22f]<;>(repeat' apply A7)<;>first|rfl|exact⟨_,rfl⟩|exact⟨_,_,rfl⟩|simp [AR,A9]
def Ag(n:Nat)(P:Nat→Bool):Option Nat:=(List.range n).find? P
theorem N9{n:Nat}{P:Nat→Bool}(h: ∀i,i<n→P i=false):Ag n P=none:=by
 unfold Ag;rw [cj];intro i hi;rw [h i (P7.1 hi)];decide
theorem NA{n m:Nat}{P:Nat→Bool}(hm:m<n)(h:P m=true)(h0: ∀i,i<m→P i=false):Ag n P=some m:=by
 unfold Ag;rw [List.find?_range_eq_some]
 exact⟨h,P7.2 hm,fun j hj=>by rw [h0 j hj];rfl⟩
theorem Dc{n m:Nat}{P:Nat→Bool}(h:Ag n P=some m):m<n∧P m=true:=by
 unfold Ag at h
 exact⟨P7.1 (List.mem_of_find?_eq_some h),List.find?_some h⟩
theorem MP{σ ρ:Type}(f:σ→Option (σ⊕ρ))(st:Nat→σ)(n:Nat)(P:Nat→Bool)(hit:Nat→ρ)(miss:ρ)
  (h: ∀i,i<n→f (st i)=if P i=true then some (.inr (hit i))else some (.inl (st (i+1))))(e:f (st n)=some (.inr miss)):
  Iy f (st 0)=some (match Ag n P with|some i=>hit i|none=>miss):=by
 by_cases hp: ∀i,i<n→(!P i)=true
 ·have h0: ∀i,i<n→P i=false:=fun i hi=>by simpa using hp i hi
  rw [N9 h0];exact CB f st n miss (fun i hi=>by rw [h i hi,h0 i hi,if_neg (by decide)]) e
 ·obtain⟨m,hm,hpm,h0⟩:=PL hp;have hpm':P m=true:=by simpa using hpm
  have h0': ∀i,i<m→P i=false:=fun i hi=>by simpa using h0 i hi
  rw [NA hm hpm' h0'];exact CB f st m (hit m) (fun i hi=>by rw [h i (by omega),h0' i hi,if_neg (by decide)]) (by rw [h m hm,if_pos hpm'])
theorem Dt{n:Nat}{P:Nat→Bool}:(Ag n P).isSome=true↔ ∃i,i<n∧P i=true:=by
 constructor
 ·intro h
  cases hq:Ag n P with
  |none=>rw [hq]at h;cases h
  |some m=>exact⟨m,Dc hq⟩
 ·rintro⟨i,hi,hp⟩
  cases hq:Ag n P with
  |some m=>rfl
  |none=>
   unfold Ag at hq;rw [cj]at hq;exact absurd hp (hq i (P7.2 hi))
theorem OH{n m:Nat}{P:Nat→Bool}(h:Ag n P=some m): ∀i,i<m→P i=false:=by
 unfold Ag at h;rw [List.find?_range_eq_some]at h;intro i hi;simpa using h.2.2 i hi
theorem ko(m:List (AO×Int))(k k':AO)(v:Int)(h:(JJ m k).2=false):JJ (m++[(k,v)]) k'=if k'=k then(v,true)else JJ m k':=by
 unfold JJ at h ⊢;rw [List.find?_append];by_cases e:k'=k
 ·subst e
  cases hf:m.find? (fun p=>p.1==k')with
  |some p=>rw [hf]at h;cases h
  |none=>simp
 ·rw [if_neg e];have e2:(k==k')=false:=by simpa using fun c:k=k'=>e c.symm
  cases hf:m.find? (fun p=>p.1==k')with
  |some p=>simp
  |none=>simp [e2]
theorem kr(m:List (AO×Int))(k:AO)(v:Int)(h:(JJ m k).2=false):UD m k v=m++[(k,v)]:=by
 unfold UD
 have:m.findIdx? (fun p=>p.1==k)=none:=by
  rw [List.findIdx?_eq_none_iff];intro x hx;unfold JJ at h
  cases hf:m.find? (fun p=>p.1==k)with
  |some p=>rw [hf]at h;cases h
  |none=>rw [cj]at hf;simpa using hf x hx
 rw [this]
theorem NB(n:Nat)(P:Nat→Bool):Ag (n+1) P=match Ag n P with|some u=>some u|none=>if P n=true then some n else none:=by
 unfold Ag;rw [List.range_succ,List.find?_append]
 cases (List.range n).find? P with
 |some u=>rfl
 |none=>
  cases hp:P n
  ·simp [hp]
  ·simp [hp]
theorem HY{n:Nat}{P Q:Nat→Bool}(h: ∀i,i<n→P i=Q i):Ag n P=Ag n Q:=by
 induction n with
 |zero=>rfl
 |succ n ih=>rw [NB,NB,ih fun i hi=>h i (by omega),h n (by omega)]
theorem Jp{n:Nat}{P:Nat→Bool}(h:Ag n P=none): ∀i,i<n→P i=false:=by
 intro i hi
 cases hp:P i with
 |false=>rfl
 |true=>have:=Dt.2 ⟨i,hi,hp⟩;rw [h]at this;cases this
def cl(K:Nat→AO):Nat→AO×Nat
 |0=>([],0)
 |v+1=>match Ag v (fun u=>K u==K v)with
  |some u=>((cl K v).1++[(cl K v).1.getD u be],(cl K v).2)
  |none=>((cl K v).1++[((cl K v).2:Int)],(cl K v).2+1)
def cv(K:Nat→AO)(v:Nat):Int:=(cl K (v+1)).1.getD v be
theorem Sy{K:Nat→AO}{v u:Nat}(h:Ag v (fun u=>K u==K v)=some u):cl K (v+1)=((cl K v).1++[(cl K v).1.getD u be],(cl K v).2):=by rw [cl,h]
theorem Sz{K:Nat→AO}{v:Nat}(h:Ag v (fun u=>K u==K v)=none):cl K (v+1)=((cl K v).1++[((cl K v).2:Int)],(cl K v).2+1):=by rw [cl,h]
theorem NC(K:Nat→AO): ∀v,(cl K v).1.length=v
 |0=>rfl
 |v+1=>by
  have:=NC K v
  cases h:Ag v (fun u=>K u==K v)with
  |some u=>rw [Sy h];simp [this]
  |none=>rw [Sz h];simp [this]
theorem RF{l m:AO}{i:Nat}(h:i<l.length):(l++m).getD i be=l.getD i be:=by
 rw [KG,NV h,KG]
theorem A3i(K:Nat→AO)(v u:Nat)(h:u<v):(cl K (v+1)).1.getD u be=(cl K v).1.getD u be:=by
 have hl:=NC K v
 cases hf:Ag v (fun u=>K u==K v)with
 |some f=>rw [Sy hf];exact RF (by omega)
 |none=>rw [Sz hf];exact RF (by omega)
theorem VX(K:Nat→AO): ∀(v u:Nat),u<v→(cl K v).1.getD u be=cv K u
 |0,u,h=>by omega
 |v+1,u,h=>by
  by_cases e:u=v
  ·subst e;rfl
  ·rw [A3i K v u (by omega),VX K v u (by omega)]
theorem Oa{K:Nat→AO}{v u:Nat}(h:Ag v (fun u=>K u==K v)=some u):cv K v=cv K u:=by
 have hl:=NC K v;have hu:=(Dc h).1;unfold cv;rw [Sy h]
 show((cl K v).1++[(cl K v).1.getD u be]).getD v be=_
 rw [KG,NM (by omega),hl,Qd]
 show(cl K v).1.getD u be=_
 rw [VX K v u hu];rfl
theorem ND{K:Nat→AO}{v:Nat}(h:Ag v (fun u=>K u==K v)=none):cv K v=((cl K v).2:Int):=by
 have hl:=NC K v;unfold cv;rw [Sz h]
 show((cl K v).1++[((cl K v).2:Int)]).getD v be=_
 rw [KG,NM (by omega),hl,Qd]
 rfl
theorem Ym(K:Nat→AO)(v:Nat):(cl K (v+1)).1=(cl K v).1++[cv K v]:=by
 cases h:Ag v (fun u=>K u==K v)with
 |some u=>rw [Sy h,Oa h,VX K v u (Dc h).1]
 |none=>rw [Sz h,ND h]
theorem qH(K:Nat→AO): ∀v,(cl K v).1=(List.range v).map (cv K)
 |0=>rfl
 |v+1=>by rw [Ym,qH K v,List.range_succ,List.map_append];rfl
theorem NE(K:Nat→AO)(v:Nat):(cl K (v+1)).2=match Ag v (fun u=>K u==K v)with|some _=>(cl K v).2|none=>(cl K v).2+1:=by
 rw [cl]
 split<;>rfl
theorem iY(K:Nat→AO): ∀v,(cl K v).2≤v
 |0=>IG _
 |v+1=>by
  have:=iY K v
  rw [NE];split
  ·exact Nat.le_succ_of_le this
  ·exact Nat.succ_le_succ this
theorem fK(K:Nat→AO): ∀v,(∀u,u<v→0≤cv K u∧cv K u<((cl K v).2:Int))∧ ∀u w,u<v→w<v→(cv K u=cv K w↔K u=K w)
 |0=>⟨fun u h=>by omega,fun u w h=>by omega⟩
 |v+1=>by
  obtain⟨h1,h2⟩:=fK K v;have hm:=NE K v
  cases hf:Ag v (fun u=>K u==K v)with
  |some f=>
   have hfv:=(Dc hf).1;have hk:K f=K v:=by simpa using (Dc hf).2
   have hc:=Oa hf;rw [hf]at hm
   refine⟨fun u hu=> ?_, ?_⟩
   ·rw [hm];by_cases e:u=v
    ·subst e;rw [hc];exact h1 f hfv
    ·exact h1 u (by omega)
   ·have key: ∀u,u<v→(cv K u=cv K v↔K u=K v):=fun u hu=>by rw [hc,←hk];exact h2 u f hu hfv
    intro u w hu hw;by_cases eu:u=v
    ·subst eu;by_cases ew:w=u
     ·subst ew;simp
     ·exact⟨fun h=>((key w (by omega)).1 h.symm).symm,fun h=>((key w (by omega)).2 h.symm).symm⟩
    ·by_cases ew:w=v
     ·subst ew;exact key u (by omega)
     ·exact h2 u w (by omega) (by omega)
  |none=>
   have hno:=Jp hf;have hc:=ND hf;rw [hf]at hm;simp only at hm
   refine⟨fun u hu=> ?_, ?_⟩
   ·rw [hm];by_cases e:u=v
    ·subst e;rw [hc];omega
    ·have:=h1 u (by omega);omega
   ·have key: ∀u,u<v→(cv K u=cv K v↔K u=K v):=fun u hu=>by
     have a:=h1 u hu;have b:=hno u hu
     refine⟨fun h=>by rw [hc]at h;omega,fun h=> ?_⟩
     rw [h]at b;simp at b
    intro u w hu hw;by_cases eu:u=v
    ·subst eu;by_cases ew:w=u
     ·subst ew;simp
     ·exact⟨fun h=>((key w (by omega)).1 h.symm).symm,fun h=>((key w (by omega)).2 h.symm).symm⟩
    ·by_cases ew:w=v
     ·subst ew;exact key u (by omega)
     ·exact h2 u w (by omega) (by omega)
theorem A3j(K:Nat→AO)(u w:Nat):cv K u=cv K w↔K u=K w:=(fK K (u+w+1)).2 u w (by omega) (by omega)
theorem qI(K:Nat→AO)(v u:Nat)(h:u<v):0≤cv K u∧cv K u<((cl K v).2:Int):=(fK K v).1 u h
def Hr(l:AO):Int:=l.foldl (fun a x=>max a (x+1)) 0
theorem XG(l:AO)(x:Int):Hr (l++[x])=max (Hr l) (x+1):=by unfold Hr;rw [List.foldl_append];rfl
theorem iZ(K:Nat→AO): ∀v,Hr (cl K v).1=((cl K v).2:Int)
 |0=>rfl
 |v+1=>by
  have hm:=NE K v;rw [Ym,XG,iZ K v]
  cases hf:Ag v (fun u=>K u==K v)with
  |some f=>
   rw [hf]at hm;have:=qI K v f (Dc hf).1
   rw [Oa hf,hm];simp only;omega
  |none=>
   rw [hf]at hm;have hm:(cl K (v+1)).2=(cl K v).2+1:=hm;rw [ND hf,hm];omega
theorem ib{K K':Nat→AO}: ∀v,(∀u w,u<v→w<v→K' u=K' w→K u=K w)→(cl K v).2≤(cl K' v).2
 |0,_=>IG _
 |v+1,h=>by
  have ih:=ib v fun u w hu hw=>h u w (by omega) (by omega)
  rw [NE,NE]
  cases hf:Ag v (fun u=>K u==K v)with
  |some f=>simp only;cases Ag v (fun u=>K' u==K' v)<;>simp only<;>omega
  |none=>
   have hno:=Jp hf
   have:Ag v (fun u=>K' u==K' v)=none:=N9 fun i hi=>by
    have:=hno i hi
    cases hb:(K' i==K' v)with
    |false=>rfl
    |true=>rw [h i v (by omega) (by omega) (by simpa using hb)]at this;simp at this
   rw [this];simp only;omega
def RG(K:Nat→AO):Nat→List (AO×Int)
 |0=>[]
 |v+1=>match Ag v (fun u=>K u==K v)with
  |some _=>RG K v
  |none=>RG K v++[(K v,((cl K v).2:Int))]
theorem T9(K:Nat→AO): ∀(v:Nat) (k:AO),JJ (RG K v) k=match Ag v (fun u=>K u==k)with|some u=>(cv K u,true)|none=>(0,false)
 |0,k=>rfl
 |v+1,k=>by
  have ih:=T9 K v;rw [NB]
  cases hf:Ag v (fun u=>K u==K v)with
  |some f=>
   rw [show RG K (v+1)=RG K v by rw [RG,hf],ih k]
   cases hk:Ag v (fun u=>K u==k)with
   |some u=>rfl
   |none=>
    have hno:=Jp hk f (Dc hf).1;have he:K f=K v:=by simpa using (Dc hf).2
    rw [he]at hno;simp only [hno];rfl
  |none=>
   have h0:(JJ (RG K v) (K v)).2=false:=by rw [ih,hf]
   rw [show RG K (v+1)=RG K v++[(K v,((cl K v).2:Int))] by rw [RG,hf],ko _ _ _ _ h0]
   by_cases e:k=K v
   ·subst e;rw [if_pos rfl,hf];simp only [beq_self_eq_true,if_true,ND hf]
   ·rw [if_neg e,ih k];have e2:(K v==k)=false:=by simpa using fun c:K v=k=>e c.symm
    cases hk:Ag v (fun u=>K u==k)with
    |some u=>rfl
    |none=>simp only [e2];rfl
theorem TA(K:Nat→AO): ∀v,(RG K v).length=(cl K v).2
 |0=>rfl
 |v+1=>by
  have ih:=TA K v;rw [NE,RG]
  split<;>simp [ih]
theorem ic(K:Nat→AO)(v:Nat)(h:Ag v (fun u=>K u==K v)=none):UD (RG K v) (K v) ((RG K v).length:Int)=RG K (v+1):=by
 rw [kr _ _ _ (by rw [T9,h]),TA,RG,h]
theorem qJ(l:AO)(n:Nat)(x:Int)(hi:l.length<n):(l++ao (n-l.length) 0).set l.length x=(l++[x])++ao (n-(l.length+1)) 0:=by
 rw [cg _ _ (IG _),Qd,show n-l.length=(n-(l.length+1))+1 by omega,jC,bL,P5]
 rfl
end Go.Proofs.Ytclkfhhdikfcpaa
end
