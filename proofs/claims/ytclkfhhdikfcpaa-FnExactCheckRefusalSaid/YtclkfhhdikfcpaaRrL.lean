/- Functions of the program as plain functions, and what they compute. Conditions: those in each lemma. -/
import Derived.Test.YtclkfhhdikfcpaaL6
import Derived.Test.YtclkfhhdikfcpaaNis
import Derived.Test.YtclkfhhdikfcpaaDt
open Inhabited renaming default → bl
open Dv.D renaming int → bk,sl → bm,bool → cd,agg → cj
open Nat renaming reduceEqDiff → bo,reduceLT → bp,reduceLeDiff → br,reduceAdd → bt,reduceMul → bw,reduceMod → bx,reduceDiv → bO,reducePow → b0,reduceSub → b3,reduceBEq → b4,lt_of_le_of_lt → cv
open Int renaming reduceLE → b5,reduceLT → b6,reduceEq → b7,reduceSub → b8,reduceAdd → b9,reduceToNat → ca,reduceNeg → cb
open Go.IntKind renaming i64 → ce
open Sum renaming inl → cf,inr → cc
open Go.ResultVar renaming tmp → cg
open List renaming range → an,find?_eq_none → cr,count_eq_zero → ct,findIdx?_eq_some_iff_getElem → cw
noncomputable section
namespace Go.Proofs.Ytclkfhhdikfcpaa
open Go Dv
set_option linter.unusedSimpArgs false
set_option linter.unusedVariables false
set_option maxRecDepth 100000
set_option maxHeartbeats 4000000
def EX(c_:Int):Option (Bool):= some (decide (c_<0))
def wu:SC:= .seq (.ops [oX 2 BU 4]) (.seq (.ops [oM 3 0 3,oB 4 .lss 3 (tK 3) (iK 0) 3 4,oA 2 4 4]) .ret)
theorem jO:Try.f134.body.map (Bw lends)=some wu:=by kernel_rfl
theorem A4N:CV Try.f134 1=true:=by kernel_rfl
theorem A9D{a l:List D}{r:D×List D}(h:Cb Y.env wu (GX Ad l.length [cg 2] r) (entry a l))(ha:a.length=1):Y.call 134 a l=some r:=
 Ag (Y:=Y) rfl Try.func134 (ha▸A4N) jO h
theorem KL(c_:Int){r:Bool}(h:EX c_=some r):Y.call 134 [bk .i64 c_] []=some (cd r,[]):=by
 refine A9D ?_ rfl;unfold wu;unfold EX at h
 obtain rfl:=Option.some.inj h
 simp (maxDischargeDepth:=9) only [↓AQ,AR,Au,↓reduceIte,bo,bp,br,bt,bw,bx,bO,b0,b3,b4,b5,b6,b7,b8,b9,ca,cb]<;>(repeat' apply A7)<;>first|rfl|exact⟨_,rfl⟩|exact⟨_,_,rfl⟩|simp [AV,AB]
def Ci(AA:BN)(AL:AX)(AC:AX)(DT:AX)(IE:Cz)(CK:Int)(Ip:Int):Option ((Int)⊕(Unit⊕Unit)):= if Ip<((AA.getD CK.toNat bl).length:Int)then ck (0≤Ip∧Ip.toNat<(AA.getD CK.toNat bl).length)<| ck (0≤(CP IE (DT.getD CK.toNat bl)).1∧((CP IE (DT.getD CK.toNat bl)).1).toNat<AA.length)<| ck (0≤Ip∧Ip.toNat<(AA.getD (((CP IE (DT.getD CK.toNat bl)).1).toNat) bl).length)<| if(Bo (AA.getD CK.toNat bl) Ip.toNat)=(Bo (AA.getD (((CP IE (DT.getD CK.toNat bl)).1).toNat) bl) Ip.toNat)then ck (0≤(BJ (AA.getD CK.toNat bl) Ip.toNat)∧(BJ (AA.getD CK.toNat bl) Ip.toNat).toNat<DT.length)<| ck (0≤(BJ (AA.getD (((CP IE (DT.getD CK.toNat bl)).1).toNat) bl) Ip.toNat)∧(BJ (AA.getD (((CP IE (DT.getD CK.toNat bl)).1).toNat) bl) Ip.toNat).toNat<DT.length)<| if(DT.getD ((BJ (AA.getD CK.toNat bl) Ip.toNat).toNat) bl)=(DT.getD ((BJ (AA.getD (((CP IE (DT.getD CK.toNat bl)).1).toNat) bl) Ip.toNat).toNat) bl)then some (cf (ce.wrap (Ip+1))) else some (cc (cf ())) else some (cc (cf ())) else some (cc (cc ()))
def E9(AA:BN)(AL:AX)(AC:AX)(DT:AX)(IE:Cz)(CK:Int)(v:Int):Option (Unit⊕Unit):=Jf (fun v=>Ci AA AL AC DT IE CK v) v
def Cj(AA:BN)(AL:AX)(AC:AX)(DT:AX)(IE:Cz)(CK:Int):Option ((Cz×Int)⊕(Unit⊕Unit)):=
 if CK<(DT.length:Int)then
  ck (0≤CK∧CK.toNat<DT.length)<|
  if((CP IE (DT.getD CK.toNat bl)).2)=true then
   ck (0≤(CP IE (DT.getD CK.toNat bl)).1∧((CP IE (DT.getD CK.toNat bl)).1).toNat<AA.length)<|
   ck (0≤CK∧CK.toNat<AA.length)<|
   if((AA.getD (((CP IE (DT.getD CK.toNat bl)).1).toNat) bl).length:Int)=((AA.getD CK.toNat bl).length:Int)then
    ck (0≤(CP IE (DT.getD CK.toNat bl)).1∧((CP IE (DT.getD CK.toNat bl)).1).toNat<AC.length)<|
    ck (0≤CK∧CK.toNat<AC.length)<|
    if(AC.getD (((CP IE (DT.getD CK.toNat bl)).1).toNat) bl)=(AC.getD CK.toNat bl)then
     (E9 AA AL AC DT IE CK 0).bind fun Ap=>
     match Ap with
     | .inl q1000_=>
      some (cc (cf ()))
     | .inr q1000_=>
      some (cf (IE,ce.wrap (CK+1)))
    else
     some (cc (cf ()))
   else
    some (cc (cf ()))
  else
   some (cf ((Kn IE (DT.getD CK.toNat bl) CK),ce.wrap (CK+1)))
 else
  some (cc (cc ()))
def DJ(AA:BN)(AL:AX)(AC:AX)(DT:AX)(v:Cz×Int):Option (Unit⊕Unit):=Jf (fun v=>Cj AA AL AC DT v.1 v.2) v
def FY(AA:BN)(AL:AX)(AC:AX)(DT:AX):Option (Bool):=
 if(DT.length:Int)=(AA.length:Int)then
  (BM DT (fun a0=>EX a0)).bind fun Y6=>
  if Y6=true then
   some false
  else
   (DJ AA AL AC DT (([]:Cz),0)).bind fun GY=>
   match GY with
   | .inl q1001_=>
    some false
   | .inr q1001_=>
    some true
 else
  some false
abbrev Uk:List Nat:=[87,88,89,90,91,92,93,94,95,96,97,98,99,100,101,102,103,104]
def Ua:SC:= .seq (.ops [oB 75 .lss 3 (tK 74) (tK 73) 3 0]) (.seq (.cond (tK 75) .skip (.exit 2)) (.seq (.block 3 (.seq (.ops [oM 76 74 3,oI 77 123 72 74,oL 78 125 77 125,oX 11 (.alloc 125) 0,oA 10 76 3,oS 125 11 78]) (.seq (.ops [oF 79 47 2 0,oL 80 45 79 45,oM 81 8 3,oI 82 45 80 81,oL 83 123 82 123,oM 84 10 3,oI 85 123 83 84,oL 86 125 85 125,oX 12 (.alloc 125) 0,oS 125 12 86]) (.seq (.draws [(⟨[87,11,11],Uk,[87]⟩,oF 87 125 11 1),(⟨[88,87,11],Uk,[88]⟩,oL 88 3 87 3),(⟨[89,12,12],Uk,[89]⟩,oF 89 125 12 1),(⟨[90,89,12],Uk,[90]⟩,oL 90 3 89 3),(⟨[91,88,90,11,12],Uk,[91]⟩,oB 91 .neq 3 (tK 88) (tK 90) 3 4),(⟨[92,91,91],Uk,[92]⟩,oM 92 91 4),(⟨[93,1,1,92],Uk,[93]⟩,⟨(some 93),(.move (tK 1)),26,(some (some 92,false))⟩),(⟨[94,11,11,92],Uk,[94]⟩,⟨(some 94),(.fieldAddr 125 (tK 11) 0),0,(some (some 92,false))⟩),(⟨[95,94,11,92],Uk,[95]⟩,⟨(some 95),(.load 3 (tK 94)),3,(some (some 92,false))⟩),(⟨[96,93,95,1,11,92],Uk,[96]⟩,⟨(some 96),(.indexAddr 26 (tK 93) (tK 95)),0,(some (some 92,false))⟩),(⟨[97,96,1,92],Uk,[97]⟩,⟨(some 97),(.load 3 (tK 96)),3,(some (some 92,false))⟩),(⟨[98,1,1,92],Uk,[98]⟩,⟨(some 98),(.move (tK 1)),26,(some (some 92,false))⟩),(⟨[99,12,12,92],Uk,[99]⟩,⟨(some 99),(.fieldAddr 125 (tK 12) 0),0,(some (some 92,false))⟩),
 (⟨[100,99,12,92],Uk,[100]⟩,⟨(some 100),(.load 3 (tK 99)),3,(some (some 92,false))⟩),(⟨[101,98,100,1,12,92],Uk,[101]⟩,⟨(some 101),(.indexAddr 26 (tK 98) (tK 100)),0,(some (some 92,false))⟩),(⟨[102,101,1,92],Uk,[102]⟩,⟨(some 102),(.load 3 (tK 101)),3,(some (some 92,false))⟩),(⟨[103,97,102,1,1,92],Uk,[103]⟩,⟨(some 103),(.binOp .neq 3 (tK 97) (tK 102) 3),4,(some (some 92,false))⟩),(⟨[104,92,103,91,103],Uk,[104]⟩,oX 104 (.pick (tK 92) Dz (tK 103)) 4)]) (.cond (tK 104) (.seq (.ops [oX 4 BU 4]) .ret) .skip))))) (.ops [oB 105 .add 3 (tK 74) (iK 1) 3 3,oM 74 105 3])))
def fK:SC:= .loop Ua
abbrev OY:List Nat:=[42,43,44,45,46,47,48,49,50,51,52,53,54,55,56,57,58,59,60,61,62,63,64,65,66,67]
def Ub:SC:= .seq (.ops [oB 27 .lss 3 (tK 26) (tK 25) 3 0]) (.seq (.cond (tK 27) .skip (.exit 0)) (.seq (.block 1 (.seq (.ops [oM 28 26 3,oI 29 26 24 26,oL 30 3 29 3,oA 6 28 3,oA 7 30 3]) (.seq (.ops [oM 32 5 144,oM 33 7 3,oX 34 (.lookup 144 (tK 32) (tK 33) true) 51,oM 31 34 51,oE 35 31 0 3,oE 36 31 1 4,oA 8 35 3,oA 9 36 4]) (.seq (.seq (.ops [oM 37 9 4,oX 38 (.unOp .not 4 (tK 37)) 4]) (.cond (tK 38) (.seq (.ops [oM 39 5 144,oM 40 7 3,oM 41 6 3,⟨none,(.mapUpdate 144 (tK 39) (tK 40) (tK 41)),0,none⟩]) (.exit 1)) .skip)) (.seq (.seq (.draws [(⟨[42,2,2],OY,[42]⟩,oF 42 47 2 0),(⟨[43,42,2],OY,[43]⟩,oL 43 45 42 45),(⟨[44,8,8],OY,[44]⟩,oM 44 8 3),(⟨[45,43,44,2,8],OY,[45]⟩,oI 45 45 43 44),(⟨[46,45,2],OY,[46]⟩,oL 46 123 45 123),(⟨[47,46,2],OY,[47]⟩,oN 47 46 123),(⟨[48,2,2],OY,[48]⟩,oF 48 47 2 0),(⟨[49,48,2],OY,[49]⟩,oL 49 45 48 45),(⟨[50,6,6],OY,[50]⟩,oM 50 6 3),(⟨[51,49,50,2,6],OY,[51]⟩,oI 51 45 49 50),(⟨[52,51,2],OY,[52]⟩,oL 52 123 51 123),(⟨[53,52,2],OY,[53]⟩,oN 53 52 123),(⟨[54,47,53,47,53],OY,[54]⟩,oB 54 .neq 3 (tK 47) (tK 53) 3 4),(⟨[55,54,54],OY,[55]⟩,oM 55 54 4),(⟨[56,2,2,55],OY,[56]⟩,⟨(some 56),(.fieldAddr 47 (tK 2) 2),0,(some (some 55,false))⟩),(⟨[57,56,2,55],OY,[57]⟩,⟨(some 57),(.load 26 (tK 56)),26,(some (some 55,false))⟩),
 (⟨[58,8,8,55],OY,[58]⟩,⟨(some 58),(.move (tK 8)),3,(some (some 55,false))⟩),(⟨[59,57,58,2,8,55],OY,[59]⟩,⟨(some 59),(.indexAddr 26 (tK 57) (tK 58)),0,(some (some 55,false))⟩),(⟨[60,59,2,55],OY,[60]⟩,⟨(some 60),(.load 3 (tK 59)),3,(some (some 55,false))⟩),(⟨[61,2,2,55],OY,[61]⟩,⟨(some 61),(.fieldAddr 47 (tK 2) 2),0,(some (some 55,false))⟩),(⟨[62,61,2,55],OY,[62]⟩,⟨(some 62),(.load 26 (tK 61)),26,(some (some 55,false))⟩),(⟨[63,6,6,55],OY,[63]⟩,⟨(some 63),(.move (tK 6)),3,(some (some 55,false))⟩),(⟨[64,62,63,2,6,55],OY,[64]⟩,⟨(some 64),(.indexAddr 26 (tK 62) (tK 63)),0,(some (some 55,false))⟩),(⟨[65,64,2,55],OY,[65]⟩,⟨(some 65),(.load 3 (tK 64)),3,(some (some 55,false))⟩),(⟨[66,60,65,2,2,55],OY,[66]⟩,⟨(some 66),(.binOp .neq 3 (tK 60) (tK 65) 3),4,(some (some 55,false))⟩),(⟨[67,55,66,54,66],OY,[67]⟩,oX 67 (.pick (tK 55) Dz (tK 66)) 4)]) (.cond (tK 67) (.seq (.ops [oX 4 BU 4]) .ret) .skip)) (.seq (.ops [oF 68 47 2 0,oL 69 45 68 45,oM 70 6 3,oI 71 45 69 70,oL 72 123 71 123,oN 73 72 123,oX 74 (.move (iK 0)) 3]) (.block 2 fK))))))) (.ops [oB 106 .add 3 (tK 26) (iK 1) 3 3,oM 26 106 3])))
def fM:SC:= .loop Ub
def k84:SC:= .seq (.ops [oX 2 (.box 47 (tK 0)) 0,oX 4 BU 4]) (.seq (.seq (.ops [oM 13 1 26,oN 14 13 26,oF 15 47 2 0,oL 16 45 15 45,oN 17 16 45,oB 18 .neq 3 (tK 14) (tK 17) 3 4,oM 19 18 4,⟨(some 20),(.move (tK 1)),26,(some (some 19,false))⟩,⟨(some 21),(.call ⟨(.value (.func 133)), #[(tK 20),(.func 134)], #[26,87]⟩),4,(some (some 19,false))⟩,oX 22 (.pick (tK 19) Dz (tK 21)) 4]) (.cond (tK 22) (.seq (.ops [oX 4 BU 4]) .ret) .skip)) (.seq (.ops [oX 23 (.makeMap 144 none) 144,oA 5 23 144]) (.seq (.seq (.ops [oM 24 1 26,oN 25 24 26,oX 26 (.move (iK 0)) 3]) (.block 0 fM)) (.seq (.ops [oX 4 (.assign Dz) 4]) .ret))))
theorem ww:Try.f84.body.map (Bw lends)=some k84:=by kernel_rfl
theorem A9F:CV Try.f84 2=true:=by kernel_rfl
theorem c84{a l:List D}{r:D×List D}(h:Cb Y.env k84 (GX Ad l.length [cg 4] r) (entry a l))(ha:a.length=2):Y.call 84 a l=some r:=
 Ag (Y:=Y) rfl Try.func84 (ha▸A9F) ww h
def Bg(AA:BN)(AL:AX)(AC:AX)(DT:AX)(IE:Cz)(CK:Int)(Ip:Int)(s:St):Prop:=s.v 1=bm 3 (AV (bk .i64) DT)∧s.v 2=D.box [bm 123 (AV (fun x=>bm 125 (BG .i64 .i64 x)) AA),bm 3 (AV (bk .i64) AL),bm 3 (AV (bk .i64) AC)]∧s.v 5=D.mp 3 3 (Nn IE)∧s.v 8=bk .i64 ((CP IE (DT.getD CK.toNat bl)).1)∧s.v 24=bm 3 (AV (bk .i64) DT)∧s.v 25=bk .i64 (DT.length:Int)∧s.v 26=bk .i64 CK∧s.v 72=bm 125 (BG .i64 .i64 (AA.getD CK.toNat bl))∧s.v 73=bk .i64 ((AA.getD CK.toNat bl).length:Int)∧s.v 74=bk .i64 Ip
def Bh(AA:BN)(AL:AX)(AC:AX)(DT:AX)(IE:Cz)(CK:Int)(r:Unit⊕Unit)(ex:Ex)(s:St):Prop:=match r with
 | .inl q=>ex= .ret∧s.v 4=cd false
 | .inr q=>ex= .exit 2∧s.v 1=bm 3 (AV (bk .i64) DT)∧s.v 2=D.box [bm 123 (AV (fun x=>bm 125 (BG .i64 .i64 x)) AA),bm 3 (AV (bk .i64) AL),bm 3 (AV (bk .i64) AC)]∧s.v 5=D.mp 3 3 (Nn IE)∧s.v 24=bm 3 (AV (bk .i64) DT)∧s.v 25=bk .i64 (DT.length:Int)∧s.v 26=bk .i64 CK
theorem L6(AA:BN)(AL:AX)(AC:AX)(DT:AX)(IE:Cz)(CK:Int){v:Int}{s:St}{r:Unit⊕Unit}(h:E9 AA AL AC DT IE CK v=some r)(hM:Bg AA AL AC DT IE CK v s):Cb Y.env fK (Bh AA AL AC DT IE CK r) s:=by
 unfold E9 at h;refine DK (c:=Ua) (fun v=>Ci AA AL AC DT IE CK v) (fun v s=>Bg AA AL AC DT IE CK v s) (Bh AA AL AC DT IE CK) ?_ h hM;clear h hM s v r;intro Ip s o hM h;unfold Ci at h;unfold Bg at hM;obtain⟨m0,m1,m2,m3,m4,m5,m6,m7,m8,m9⟩:=hM;unfold Ua;by_cases e13:Ip<((AA.getD CK.toNat bl).length:Int)
 ·rw [if_pos e13]at h;obtain⟨e14,h⟩:=Cq h;obtain⟨e15,h⟩:=Cq h;obtain⟨e16,h⟩:=Cq h;by_cases e17:(Bo (AA.getD CK.toNat bl) Ip.toNat)=(Bo (AA.getD (((CP IE (DT.getD CK.toNat bl)).1).toNat) bl) Ip.toNat)
  ·rw [if_pos e17]at h;obtain⟨e18,h⟩:=Cq h;obtain⟨e19,h⟩:=Cq h;by_cases e20:(DT.getD ((BJ (AA.getD CK.toNat bl) Ip.toNat).toNat) bl)=(DT.getD ((BJ (AA.getD (((CP IE (DT.getD CK.toNat bl)).1).toNat) bl) Ip.toNat).toNat) bl)
   ·rw [if_pos e20]at h
    obtain rfl:=Option.some.inj h
    simp (maxDischargeDepth:=9) only [↓AQ,AR,Au,↓reduceIte,bo,bp,br,bt,bw,bx,bO,b0,b3,b4,b5,b6,b7,b8,b9,ca,cb,m0,m1,m2,m3,m4,m5,m6,m7,m8,m9,e13,e14.1,e14.2,e15.1,e15.2,e16.1,e16.2,decide_eq_true e17,e18.1,e18.2,e19.1,e19.2,decide_eq_true e20,Bg,Bh,EA,EB,EC]<;>(repeat' apply A7)<;>first|rfl|exact⟨_,rfl⟩|exact⟨_,_,rfl⟩|simp [AV,AB]
   ·rw [if_neg e20]at h
    obtain rfl:=Option.some.inj h
    simp (maxDischargeDepth:=9) only [↓AQ,AR,Au,↓reduceIte,bo,bp,br,bt,bw,bx,bO,b0,b3,b4,b5,b6,b7,b8,b9,ca,cb,m0,m1,m2,m3,m4,m5,m6,m7,m8,m9,e13,e14.1,e14.2,e15.1,e15.2,e16.1,e16.2,decide_eq_true e17,e18.1,e18.2,e19.1,e19.2,e20,Bg,Bh,EA,EB,EC]<;>(repeat' apply A7)<;>first|rfl|exact⟨_,rfl⟩|exact⟨_,_,rfl⟩|simp [AV,AB]
  ·rw [if_neg e17]at h
   obtain rfl:=Option.some.inj h
   simp (maxDischargeDepth:=9) only [↓AQ,AR,Au,↓reduceIte,bo,bp,br,bt,bw,bx,bO,b0,b3,b4,b5,b6,b7,b8,b9,ca,cb,m0,m1,m2,m3,m4,m5,m6,m7,m8,m9,e13,e14.1,e14.2,e15.1,e15.2,e16.1,e16.2,e17,Bg,Bh,EA,EB,EC]<;>(repeat' apply A7)<;>first|rfl|exact⟨_,rfl⟩|exact⟨_,_,rfl⟩|simp [AV,AB]
 ·rw [if_neg e13]at h
  obtain rfl:=Option.some.inj h
  simp (maxDischargeDepth:=9) only [↓AQ,AR,Au,↓reduceIte,bo,bp,br,bt,bw,bx,bO,b0,b3,b4,b5,b6,b7,b8,b9,ca,cb,m0,m1,m2,m3,m4,m5,m6,m7,m8,m9,e13,Bg,Bh,EA,EB,EC]<;>(repeat' apply A7)<;>first|rfl|exact⟨_,rfl⟩|exact⟨_,_,rfl⟩|simp [AV,AB]
def BO(AA:BN)(AL:AX)(AC:AX)(DT:AX)(IE:Cz)(CK:Int)(s:St):Prop:=s.v 1=bm 3 (AV (bk .i64) DT)∧s.v 2=D.box [bm 123 (AV (fun x=>bm 125 (BG .i64 .i64 x)) AA),bm 3 (AV (bk .i64) AL),bm 3 (AV (bk .i64) AC)]∧s.v 5=D.mp 3 3 (Nn IE)∧s.v 24=bm 3 (AV (bk .i64) DT)∧s.v 25=bk .i64 (DT.length:Int)∧s.v 26=bk .i64 CK
def BP(AA:BN)(AL:AX)(AC:AX)(DT:AX)(r:Unit⊕Unit)(ex:Ex)(s:St):Prop:=match r with
 | .inl q=>ex= .ret∧s.v 4=cd false
 | .inr q=>ex= .exit 0
theorem L8(AA:BN)(AL:AX)(AC:AX)(DT:AX){v:Cz×Int}{s:St}{r:Unit⊕Unit}(h:DJ AA AL AC DT v=some r)(hM:BO AA AL AC DT v.1 v.2 s):Cb Y.env fM (BP AA AL AC DT r) s:=by
 unfold DJ at h;refine DK (c:=Ub) (fun v=>Cj AA AL AC DT v.1 v.2) (fun v s=>BO AA AL AC DT v.1 v.2 s) (BP AA AL AC DT) ?_ h hM;clear h hM s v r;intro v s o hM h;obtain⟨IE,CK⟩:=v;dsimp only at h hM;unfold Cj at h;unfold BO at hM;obtain⟨m0,m1,m2,m3,m4,m5⟩:=hM;unfold Ub;by_cases e4:CK<(DT.length:Int)
 ·rw [if_pos e4]at h;obtain⟨e5,h⟩:=Cq h;by_cases e6:((CP IE (DT.getD CK.toNat bl)).2)=true
  ·rw [if_pos e6]at h;obtain⟨e7,h⟩:=Cq h;obtain⟨e8,h⟩:=Cq h;by_cases e9:((AA.getD (((CP IE (DT.getD CK.toNat bl)).1).toNat) bl).length:Int)=((AA.getD CK.toNat bl).length:Int)
   ·rw [if_pos e9]at h;obtain⟨e10,h⟩:=Cq h;obtain⟨e11,h⟩:=Cq h;by_cases e12:(AC.getD (((CP IE (DT.getD CK.toNat bl)).1).toNat) bl)=(AC.getD CK.toNat bl)
    ·rw [if_pos e12]at h;obtain⟨Ap,hl14,h⟩:=BS h;try dsimp only at h
     simp (maxDischargeDepth:=9) only [↓AQ,AR,Au,↓reduceIte,bo,bp,br,bt,bw,bx,bO,b0,b3,b4,b5,b6,b7,b8,b9,ca,cb,m0,m1,m2,m3,m4,m5,e4,e5.1,e5.2,e6,e7.1,e7.2,e8.1,e8.2,decide_eq_true e9,e10.1,e10.2,e11.1,e11.2,decide_eq_true e12];refine CQ (L6 AA AL AC DT IE CK hl14 ?_) ?_
     ·simp (maxDischargeDepth:=9) only [↓AQ,AR,Au,↓reduceIte,bo,bp,br,bt,bw,bx,bO,b0,b3,b4,b5,b6,b7,b8,b9,ca,cb,m0,m1,m2,m3,m4,m5,e4,e5.1,e5.2,e6,e7.1,e7.2,e8.1,e8.2,decide_eq_true e9,e10.1,e10.2,e11.1,e11.2,decide_eq_true e12,Bg]<;>(repeat' apply A7)<;>first|rfl|exact⟨_,rfl⟩|exact⟨_,_,rfl⟩|simp [AV,AB]
     ·intro ex14 s14 hX14;rcases Ap with q1000_|q1000_
      ·unfold Bh at hX14;dsimp only at hX14 h;obtain⟨rfl,n14_0⟩:=hX14
       obtain rfl:=Option.some.inj h
       simp (maxDischargeDepth:=9) only [↓AQ,AR,Au,↓reduceIte,bo,bp,br,bt,bw,bx,bO,b0,b3,b4,b5,b6,b7,b8,b9,ca,cb,e4,e5.1,e5.2,e6,e7.1,e7.2,e8.1,e8.2,decide_eq_true e9,e10.1,e10.2,e11.1,e11.2,decide_eq_true e12,n14_0,BO,BP,EA,EB,EC]<;>(repeat' apply A7)<;>first|rfl|exact⟨_,rfl⟩|exact⟨_,_,rfl⟩|simp [AV,AB]
      ·unfold Bh at hX14;dsimp only at hX14 h;obtain⟨rfl,n14_0,n14_1,n14_2,n14_3,n14_4,n14_5⟩:=hX14
       obtain rfl:=Option.some.inj h
       simp (maxDischargeDepth:=9) only [↓AQ,AR,Au,↓reduceIte,bo,bp,br,bt,bw,bx,bO,b0,b3,b4,b5,b6,b7,b8,b9,ca,cb,e4,e5.1,e5.2,e6,e7.1,e7.2,e8.1,e8.2,decide_eq_true e9,e10.1,e10.2,e11.1,e11.2,decide_eq_true e12,n14_0,n14_1,n14_2,n14_3,n14_4,n14_5,BO,BP,EA,EB,EC]<;>(repeat' apply A7)<;>first|rfl|exact⟨_,rfl⟩|exact⟨_,_,rfl⟩|simp [AV,AB]
    ·rw [if_neg e12]at h
     obtain rfl:=Option.some.inj h
     simp (maxDischargeDepth:=9) only [↓AQ,AR,Au,↓reduceIte,bo,bp,br,bt,bw,bx,bO,b0,b3,b4,b5,b6,b7,b8,b9,ca,cb,m0,m1,m2,m3,m4,m5,e4,e5.1,e5.2,e6,e7.1,e7.2,e8.1,e8.2,decide_eq_true e9,e10.1,e10.2,e11.1,e11.2,e12,BO,BP,EA,EB,EC]<;>(repeat' apply A7)<;>first|rfl|exact⟨_,rfl⟩|exact⟨_,_,rfl⟩|simp [AV,AB]
   ·rw [if_neg e9]at h
    obtain rfl:=Option.some.inj h
    simp (maxDischargeDepth:=9) only [↓AQ,AR,Au,↓reduceIte,bo,bp,br,bt,bw,bx,bO,b0,b3,b4,b5,b6,b7,b8,b9,ca,cb,m0,m1,m2,m3,m4,m5,e4,e5.1,e5.2,e6,e7.1,e7.2,e8.1,e8.2,e9,BO,BP,EA,EB,EC]<;>(repeat' apply A7)<;>first|rfl|exact⟨_,rfl⟩|exact⟨_,_,rfl⟩|simp [AV,AB]
  ·rw [if_neg e6]at h;have e6f:((CP IE (DT.getD CK.toNat bl)).2)=false:=Gw.mpr e6
   obtain rfl:=Option.some.inj h
   simp (maxDischargeDepth:=9) only [↓AQ,AR,Au,↓reduceIte,bo,bp,br,bt,bw,bx,bO,b0,b3,b4,b5,b6,b7,b8,b9,ca,cb,m0,m1,m2,m3,m4,m5,e4,e5.1,e5.2,e6f,BO,BP,EA,EB,EC]<;>(repeat' apply A7)<;>first|rfl|exact⟨_,rfl⟩|exact⟨_,_,rfl⟩|simp [AV,AB]
 ·rw [if_neg e4]at h
  obtain rfl:=Option.some.inj h
  simp (maxDischargeDepth:=9) only [↓AQ,AR,Au,↓reduceIte,bo,bp,br,bt,bw,bx,bO,b0,b3,b4,b5,b6,b7,b8,b9,ca,cb,m0,m1,m2,m3,m4,m5,e4,BO,BP,EA,EB,EC]<;>(repeat' apply A7)<;>first|rfl|exact⟨_,rfl⟩|exact⟨_,_,rfl⟩|simp [AV,AB]
theorem Le(AA:BN)(AL:AX)(AC:AX)(DT:AX){r:Bool}(h:FY AA AL AC DT=some r):Y.call 84 [cj [bm 123 (AV (fun x=>bm 125 (BG .i64 .i64 x)) AA),bm 3 (AV (bk .i64) AL),bm 3 (AV (bk .i64) AC)],bm 3 (AV (bk .i64) DT)] []=some (cd r,[]):=by
 refine c84 ?_ rfl;unfold k84;unfold FY at h;by_cases e1:(DT.length:Int)=(AA.length:Int)
 ·rw [if_pos e1]at h;obtain⟨Y6,hl2,h⟩:=BS h;try dsimp only at h
  have c2:=Db DT (fun a0=>EX a0) 134 [] (fun a0 _ hh=>KL a0 hh) dz hl2;by_cases e3:Y6=true
  ·rw [if_pos e3]at h
   obtain rfl:=Option.some.inj h
   simp (maxDischargeDepth:=9) only [↓AQ,AR,Au,↓reduceIte,bo,bp,br,bt,bw,bx,bO,b0,b3,b4,b5,b6,b7,b8,b9,ca,cb,decide_eq_true e1,c2,e3]<;>(repeat' apply A7)<;>first|rfl|exact⟨_,rfl⟩|exact⟨_,_,rfl⟩|simp [AV,AB]
  ·rw [if_neg e3]at h;have e3f:Y6=false:=Gw.mpr e3;obtain⟨GY,hl5,h⟩:=BS h;try dsimp only at h
   simp (maxDischargeDepth:=9) only [↓AQ,AR,Au,↓reduceIte,bo,bp,br,bt,bw,bx,bO,b0,b3,b4,b5,b6,b7,b8,b9,ca,cb,decide_eq_true e1,c2,e3f];refine CQ (L8 AA AL AC DT hl5 ?_) ?_
   ·simp (maxDischargeDepth:=9) only [↓AQ,AR,Au,↓reduceIte,bo,bp,br,bt,bw,bx,bO,b0,b3,b4,b5,b6,b7,b8,b9,ca,cb,decide_eq_true e1,c2,e3f,BO]<;>(repeat' apply A7)<;>first|rfl|exact⟨_,rfl⟩|exact⟨_,_,rfl⟩|simp [AV,AB]
   ·intro ex5 s5 hX5;rcases GY with q1001_|q1001_
    ·unfold BP at hX5;dsimp only at hX5 h;obtain⟨rfl,n5_0⟩:=hX5
     obtain rfl:=Option.some.inj h
     simp (maxDischargeDepth:=9) only [↓AQ,AR,Au,↓reduceIte,bo,bp,br,bt,bw,bx,bO,b0,b3,b4,b5,b6,b7,b8,b9,ca,cb,decide_eq_true e1,c2,e3f,n5_0]<;>(repeat' apply A7)<;>first|rfl|exact⟨_,rfl⟩|exact⟨_,_,rfl⟩|simp [AV,AB]
    ·unfold BP at hX5;dsimp only at hX5 h
     obtain rfl:=hX5
     obtain rfl:=Option.some.inj h
     simp (maxDischargeDepth:=9) only [↓AQ,AR,Au,↓reduceIte,bo,bp,br,bt,bw,bx,bO,b0,b3,b4,b5,b6,b7,b8,b9,ca,cb,decide_eq_true e1,c2,e3f]<;>(repeat' apply A7)<;>first|rfl|exact⟨_,rfl⟩|exact⟨_,_,rfl⟩|simp [AV,AB]
 ·rw [if_neg e1]at h
  obtain rfl:=Option.some.inj h
  simp (maxDischargeDepth:=9) only [↓AQ,AR,Au,↓reduceIte,bo,bp,br,bt,bw,bx,bO,b0,b3,b4,b5,b6,b7,b8,b9,ca,cb,e1]<;>(repeat' apply A7)<;>first|rfl|exact⟨_,rfl⟩|exact⟨_,_,rfl⟩|simp [AV,AB]
def EY(AA:BN)(AL:AX)(AC:AX)(DT:AX)(KN:Int)(L9:Int)(Iq:Int):Option ((Int)⊕(Unit⊕Unit)):= if Iq<((AA.getD KN.toNat bl).length:Int)then ck (0≤Iq∧Iq.toNat<(AA.getD KN.toNat bl).length)<| ck (0≤L9∧L9.toNat<AA.length)<| ck (0≤Iq∧Iq.toNat<(AA.getD L9.toNat bl).length)<| if(Bo (AA.getD KN.toNat bl) Iq.toNat)=(Bo (AA.getD L9.toNat bl) Iq.toNat)then ck (0≤(BJ (AA.getD KN.toNat bl) Iq.toNat)∧(BJ (AA.getD KN.toNat bl) Iq.toNat).toNat<DT.length)<| ck (0≤(BJ (AA.getD L9.toNat bl) Iq.toNat)∧(BJ (AA.getD L9.toNat bl) Iq.toNat).toNat<DT.length)<| if(DT.getD ((BJ (AA.getD KN.toNat bl) Iq.toNat).toNat) bl)=(DT.getD ((BJ (AA.getD L9.toNat bl) Iq.toNat).toNat) bl)then some (cf (ce.wrap (Iq+1))) else some (cc (cf ())) else some (cc (cf ())) else some (cc (cc ()))
def IG(AA:BN)(AL:AX)(AC:AX)(DT:AX)(KN:Int)(L9:Int)(v:Int):Option (Unit⊕Unit):=Jf (fun v=>EY AA AL AC DT KN L9 v) v
def Jb(AA:BN)(AL:AX)(AC:AX)(DT:AX)(KN:Int)(L9:Int):Option (Bool):=
 ck (0≤KN∧KN.toNat<AA.length)<|
 ck (0≤L9∧L9.toNat<AA.length)<|
 if((AA.getD KN.toNat bl).length:Int)=((AA.getD L9.toNat bl).length:Int)then
  ck (0≤KN∧KN.toNat<AC.length)<|
  ck (0≤L9∧L9.toNat<AC.length)<|
  if(AC.getD KN.toNat bl)=(AC.getD L9.toNat bl)then
   (IG AA AL AC DT KN L9 0).bind fun Ap=>
   match Ap with
   | .inl q1000_=>
    some false
   | .inr q1000_=>
    some true
  else
   some false
 else
  some false
abbrev KM:List Nat:=[57,58,59,60,61,62,63,64,65,66,67,68,69,70,71,72,73,74]
def R5:SC:= .seq (.ops [oB 45 .lss 3 (tK 44) (tK 43) 3 0]) (.seq (.cond (tK 45) .skip (.exit 0)) (.seq (.block 1 (.seq (.ops [oM 46 44 3,oI 47 123 42 44,oL 48 125 47 125,oX 10 (.alloc 125) 0,oA 9 46 3,oS 125 10 48]) (.seq (.ops [oF 49 47 4 0,oL 50 45 49 45,oM 51 3 3,oI 52 45 50 51,oL 53 123 52 123,oM 54 9 3,oI 55 123 53 54,oL 56 125 55 125,oX 11 (.alloc 125) 0,oS 125 11 56]) (.seq (.draws [(⟨[57,10,10],KM,[57]⟩,oF 57 125 10 1),(⟨[58,57,10],KM,[58]⟩,oL 58 3 57 3),(⟨[59,11,11],KM,[59]⟩,oF 59 125 11 1),(⟨[60,59,11],KM,[60]⟩,oL 60 3 59 3),(⟨[61,58,60,10,11],KM,[61]⟩,oB 61 .neq 3 (tK 58) (tK 60) 3 4),(⟨[62,61,61],KM,[62]⟩,oM 62 61 4),(⟨[63,1,1,62],KM,[63]⟩,⟨(some 63),(.move (tK 1)),26,(some (some 62,false))⟩),(⟨[64,10,10,62],KM,[64]⟩,⟨(some 64),(.fieldAddr 125 (tK 10) 0),0,(some (some 62,false))⟩),(⟨[65,64,10,62],KM,[65]⟩,⟨(some 65),(.load 3 (tK 64)),3,(some (some 62,false))⟩),(⟨[66,63,65,1,10,62],KM,[66]⟩,⟨(some 66),(.indexAddr 26 (tK 63) (tK 65)),0,(some (some 62,false))⟩),(⟨[67,66,1,62],KM,[67]⟩,⟨(some 67),(.load 3 (tK 66)),3,(some (some 62,false))⟩),(⟨[68,1,1,62],KM,[68]⟩,⟨(some 68),(.move (tK 1)),26,(some (some 62,false))⟩),(⟨[69,11,11,62],KM,[69]⟩,⟨(some 69),(.fieldAddr 125 (tK 11) 0),0,(some (some 62,false))⟩),
 (⟨[70,69,11,62],KM,[70]⟩,⟨(some 70),(.load 3 (tK 69)),3,(some (some 62,false))⟩),(⟨[71,68,70,1,11,62],KM,[71]⟩,⟨(some 71),(.indexAddr 26 (tK 68) (tK 70)),0,(some (some 62,false))⟩),(⟨[72,71,1,62],KM,[72]⟩,⟨(some 72),(.load 3 (tK 71)),3,(some (some 62,false))⟩),(⟨[73,67,72,1,1,62],KM,[73]⟩,⟨(some 73),(.binOp .neq 3 (tK 67) (tK 72) 3),4,(some (some 62,false))⟩),(⟨[74,62,73,61,73],KM,[74]⟩,oX 74 (.pick (tK 62) Dz (tK 73)) 4)]) (.cond (tK 74) (.seq (.ops [oX 8 BU 4]) .ret) .skip))))) (.ops [oB 75 .add 3 (tK 44) (iK 1) 3 3,oM 44 75 3])))
def Yh:SC:= .loop R5
abbrev Hr:List Nat:=[12,13,14,15,16,17,18,19,20,21,22,23,24,25,26,27,28,29,30,31,32,33,34,35,36,37]
def wy:SC:= .seq (.ops [oX 4 (.box 47 (tK 0)) 0,oX 8 BU 4]) (.seq (.seq (.draws [(⟨[12,4,4],Hr,[12]⟩,oF 12 47 4 0),(⟨[13,12,4],Hr,[13]⟩,oL 13 45 12 45),(⟨[14,2,2],Hr,[14]⟩,oM 14 2 3),(⟨[15,13,14,4,2],Hr,[15]⟩,oI 15 45 13 14),(⟨[16,15,4],Hr,[16]⟩,oL 16 123 15 123),(⟨[17,16,4],Hr,[17]⟩,oN 17 16 123),(⟨[18,4,4],Hr,[18]⟩,oF 18 47 4 0),(⟨[19,18,4],Hr,[19]⟩,oL 19 45 18 45),(⟨[20,3,3],Hr,[20]⟩,oM 20 3 3),(⟨[21,19,20,4,3],Hr,[21]⟩,oI 21 45 19 20),(⟨[22,21,4],Hr,[22]⟩,oL 22 123 21 123),(⟨[23,22,4],Hr,[23]⟩,oN 23 22 123),(⟨[24,17,23,17,23],Hr,[24]⟩,oB 24 .neq 3 (tK 17) (tK 23) 3 4),(⟨[25,24,24],Hr,[25]⟩,oM 25 24 4),(⟨[26,4,4,25],Hr,[26]⟩,⟨(some 26),(.fieldAddr 47 (tK 4) 2),0,(some (some 25,false))⟩),(⟨[27,26,4,25],Hr,[27]⟩,⟨(some 27),(.load 26 (tK 26)),26,(some (some 25,false))⟩),(⟨[28,2,2,25],Hr,[28]⟩,⟨(some 28),(.move (tK 2)),3,(some (some 25,false))⟩),(⟨[29,27,28,4,2,25],Hr,[29]⟩,⟨(some 29),(.indexAddr 26 (tK 27) (tK 28)),0,(some (some 25,false))⟩),(⟨[30,29,4,25],Hr,[30]⟩,⟨(some 30),(.load 3 (tK 29)),3,(some (some 25,false))⟩),(⟨[31,4,4,25],Hr,[31]⟩,⟨(some 31),(.fieldAddr 47 (tK 4) 2),0,(some (some 25,false))⟩),(⟨[32,31,4,25],Hr,[32]⟩,⟨(some 32),(.load 26 (tK 31)),26,(some (some 25,false))⟩),
 (⟨[33,3,3,25],Hr,[33]⟩,⟨(some 33),(.move (tK 3)),3,(some (some 25,false))⟩),(⟨[34,32,33,4,3,25],Hr,[34]⟩,⟨(some 34),(.indexAddr 26 (tK 32) (tK 33)),0,(some (some 25,false))⟩),(⟨[35,34,4,25],Hr,[35]⟩,⟨(some 35),(.load 3 (tK 34)),3,(some (some 25,false))⟩),(⟨[36,30,35,4,4,25],Hr,[36]⟩,⟨(some 36),(.binOp .neq 3 (tK 30) (tK 35) 3),4,(some (some 25,false))⟩),(⟨[37,25,36,24,36],Hr,[37]⟩,oX 37 (.pick (tK 25) Dz (tK 36)) 4)]) (.cond (tK 37) (.seq (.ops [oX 8 BU 4]) .ret) .skip)) (.seq (.seq (.ops [oF 38 47 4 0,oL 39 45 38 45,oM 40 2 3,oI 41 45 39 40,oL 42 123 41 123,oN 43 42 123,oX 44 (.move (iK 0)) 3]) (.block 0 Yh)) (.seq (.ops [oX 8 (.assign Dz) 4]) .ret)))
theorem jP:Try.f162.body.map (Bw lends)=some wy:=by kernel_rfl
theorem A4O:CV Try.f162 4=true:=by kernel_rfl
theorem A9G{a l:List D}{r:D×List D}(h:Cb Y.env wy (GX Ad l.length [cg 8] r) (entry a l))(ha:a.length=4):Y.call 162 a l=some r:=
 Ag (Y:=Y) rfl Try.func162 (ha▸A4O) jP h
def D9(AA:BN)(AL:AX)(AC:AX)(DT:AX)(KN:Int)(L9:Int)(Iq:Int)(s:St):Prop:=s.v 1=bm 3 (AV (bk .i64) DT)∧s.v 3=bk .i64 L9∧s.v 4=D.box [bm 123 (AV (fun x=>bm 125 (BG .i64 .i64 x)) AA),bm 3 (AV (bk .i64) AL),bm 3 (AV (bk .i64) AC)]∧s.v 42=bm 125 (BG .i64 .i64 (AA.getD KN.toNat bl))∧s.v 43=bk .i64 ((AA.getD KN.toNat bl).length:Int)∧s.v 44=bk .i64 Iq
def DC(AA:BN)(AL:AX)(AC:AX)(DT:AX)(KN:Int)(L9:Int)(r:Unit⊕Unit)(ex:Ex)(s:St):Prop:=match r with
 | .inl q=>ex= .ret∧s.v 8=cd false
 | .inr q=>ex= .exit 0
theorem Oy(AA:BN)(AL:AX)(AC:AX)(DT:AX)(KN:Int)(L9:Int){v:Int}{s:St}{r:Unit⊕Unit}(h:IG AA AL AC DT KN L9 v=some r)(hM:D9 AA AL AC DT KN L9 v s):Cb Y.env Yh (DC AA AL AC DT KN L9 r) s:=by
 unfold IG at h;refine DK (c:=R5) (fun v=>EY AA AL AC DT KN L9 v) (fun v s=>D9 AA AL AC DT KN L9 v s) (DC AA AL AC DT KN L9) ?_ h hM;clear h hM s v r;intro Iq s o hM h;unfold EY at h;unfold D9 at hM;obtain⟨m0,m1,m2,m3,m4,m5⟩:=hM;unfold R5;by_cases e7:Iq<((AA.getD KN.toNat bl).length:Int)
 ·rw [if_pos e7]at h;obtain⟨e8,h⟩:=Cq h;obtain⟨e9,h⟩:=Cq h;obtain⟨e10,h⟩:=Cq h;by_cases e11:(Bo (AA.getD KN.toNat bl) Iq.toNat)=(Bo (AA.getD L9.toNat bl) Iq.toNat)
  ·rw [if_pos e11]at h;obtain⟨e12,h⟩:=Cq h;obtain⟨e13,h⟩:=Cq h;by_cases e14:(DT.getD ((BJ (AA.getD KN.toNat bl) Iq.toNat).toNat) bl)=(DT.getD ((BJ (AA.getD L9.toNat bl) Iq.toNat).toNat) bl)
   ·rw [if_pos e14]at h
    obtain rfl:=Option.some.inj h
    simp (maxDischargeDepth:=9) only [↓AQ,AR,Au,↓reduceIte,bo,bp,br,bt,bw,bx,bO,b0,b3,b4,b5,b6,b7,b8,b9,ca,cb,m0,m1,m2,m3,m4,m5,e7,e8.1,e8.2,e9.1,e9.2,e10.1,e10.2,decide_eq_true e11,e12.1,e12.2,e13.1,e13.2,decide_eq_true e14,D9,DC,EA,EB,EC]<;>(repeat' apply A7)<;>first|rfl|exact⟨_,rfl⟩|exact⟨_,_,rfl⟩|simp [AV,AB]
   ·rw [if_neg e14]at h
    obtain rfl:=Option.some.inj h
    simp (maxDischargeDepth:=9) only [↓AQ,AR,Au,↓reduceIte,bo,bp,br,bt,bw,bx,bO,b0,b3,b4,b5,b6,b7,b8,b9,ca,cb,m0,m1,m2,m3,m4,m5,e7,e8.1,e8.2,e9.1,e9.2,e10.1,e10.2,decide_eq_true e11,e12.1,e12.2,e13.1,e13.2,e14,D9,DC,EA,EB,EC]<;>(repeat' apply A7)<;>first|rfl|exact⟨_,rfl⟩|exact⟨_,_,rfl⟩|simp [AV,AB]
  ·rw [if_neg e11]at h
   obtain rfl:=Option.some.inj h
   simp (maxDischargeDepth:=9) only [↓AQ,AR,Au,↓reduceIte,bo,bp,br,bt,bw,bx,bO,b0,b3,b4,b5,b6,b7,b8,b9,ca,cb,m0,m1,m2,m3,m4,m5,e7,e8.1,e8.2,e9.1,e9.2,e10.1,e10.2,e11,D9,DC,EA,EB,EC]<;>(repeat' apply A7)<;>first|rfl|exact⟨_,rfl⟩|exact⟨_,_,rfl⟩|simp [AV,AB]
 ·rw [if_neg e7]at h
  obtain rfl:=Option.some.inj h
  simp (maxDischargeDepth:=9) only [↓AQ,AR,Au,↓reduceIte,bo,bp,br,bt,bw,bx,bO,b0,b3,b4,b5,b6,b7,b8,b9,ca,cb,m0,m1,m2,m3,m4,m5,e7,D9,DC,EA,EB,EC]<;>(repeat' apply A7)<;>first|rfl|exact⟨_,rfl⟩|exact⟨_,_,rfl⟩|simp [AV,AB]
theorem R6(AA:BN)(AL:AX)(AC:AX)(DT:AX)(KN:Int)(L9:Int){r:Bool}(h:Jb AA AL AC DT KN L9=some r):Y.call 162 [cj [bm 123 (AV (fun x=>bm 125 (BG .i64 .i64 x)) AA),bm 3 (AV (bk .i64) AL),bm 3 (AV (bk .i64) AC)],bm 3 (AV (bk .i64) DT),bk .i64 KN,bk .i64 L9] []=some (cd r,[]):=by
 refine A9G ?_ rfl;unfold wy;unfold Jb at h;obtain⟨e1,h⟩:=Cq h;obtain⟨e2,h⟩:=Cq h;by_cases e3:((AA.getD KN.toNat bl).length:Int)=((AA.getD L9.toNat bl).length:Int)
 ·rw [if_pos e3]at h;obtain⟨e4,h⟩:=Cq h;obtain⟨e5,h⟩:=Cq h;by_cases e6:(AC.getD KN.toNat bl)=(AC.getD L9.toNat bl)
  ·rw [if_pos e6]at h;obtain⟨Ap,hl8,h⟩:=BS h;try dsimp only at h
   simp (maxDischargeDepth:=9) only [↓AQ,AR,Au,↓reduceIte,bo,bp,br,bt,bw,bx,bO,b0,b3,b4,b5,b6,b7,b8,b9,ca,cb,e1.1,e1.2,e2.1,e2.2,decide_eq_true e3,e4.1,e4.2,e5.1,e5.2,decide_eq_true e6];refine CQ (Oy AA AL AC DT KN L9 hl8 ?_) ?_
   ·simp (maxDischargeDepth:=9) only [↓AQ,AR,Au,↓reduceIte,bo,bp,br,bt,bw,bx,bO,b0,b3,b4,b5,b6,b7,b8,b9,ca,cb,e1.1,e1.2,e2.1,e2.2,decide_eq_true e3,e4.1,e4.2,e5.1,e5.2,decide_eq_true e6,D9]<;>(repeat' apply A7)<;>first|rfl|exact⟨_,rfl⟩|exact⟨_,_,rfl⟩|simp [AV,AB]
   ·intro ex8 s8 hX8;rcases Ap with q1000_|q1000_
    ·unfold DC at hX8;dsimp only at hX8 h;obtain⟨rfl,n8_0⟩:=hX8
     obtain rfl:=Option.some.inj h
     simp (maxDischargeDepth:=9) only [↓AQ,AR,Au,↓reduceIte,bo,bp,br,bt,bw,bx,bO,b0,b3,b4,b5,b6,b7,b8,b9,ca,cb,e1.1,e1.2,e2.1,e2.2,decide_eq_true e3,e4.1,e4.2,e5.1,e5.2,decide_eq_true e6,n8_0]<;>(repeat' apply A7)<;>first|rfl|exact⟨_,rfl⟩|exact⟨_,_,rfl⟩|simp [AV,AB]
    ·unfold DC at hX8;dsimp only at hX8 h
     obtain rfl:=hX8
     obtain rfl:=Option.some.inj h
     simp (maxDischargeDepth:=9) only [↓AQ,AR,Au,↓reduceIte,bo,bp,br,bt,bw,bx,bO,b0,b3,b4,b5,b6,b7,b8,b9,ca,cb,e1.1,e1.2,e2.1,e2.2,decide_eq_true e3,e4.1,e4.2,e5.1,e5.2,decide_eq_true e6]<;>(repeat' apply A7)<;>first|rfl|exact⟨_,rfl⟩|exact⟨_,_,rfl⟩|simp [AV,AB]
  ·rw [if_neg e6]at h
   obtain rfl:=Option.some.inj h
   simp (maxDischargeDepth:=9) only [↓AQ,AR,Au,↓reduceIte,bo,bp,br,bt,bw,bx,bO,b0,b3,b4,b5,b6,b7,b8,b9,ca,cb,e1.1,e1.2,e2.1,e2.2,decide_eq_true e3,e4.1,e4.2,e5.1,e5.2,e6]<;>(repeat' apply A7)<;>first|rfl|exact⟨_,rfl⟩|exact⟨_,_,rfl⟩|simp [AV,AB]
 ·rw [if_neg e3]at h
  obtain rfl:=Option.some.inj h
  simp (maxDischargeDepth:=9) only [↓AQ,AR,Au,↓reduceIte,bo,bp,br,bt,bw,bx,bO,b0,b3,b4,b5,b6,b7,b8,b9,ca,cb,e1.1,e1.2,e2.1,e2.2,e3]<;>(repeat' apply A7)<;>first|rfl|exact⟨_,rfl⟩|exact⟨_,_,rfl⟩|simp [AV,AB]
def Ck(Af:BN)(BD:AX)(AY:AX)(class_:AX)(Ev:Int)(O0:Int):Option ((Int)⊕(Unit⊕Unit)):= if O0<(((class_.take Ev.toNat).drop 0).length:Int)then ck (0≤Ev∧Ev.toNat<class_.length)<| ck (0≤O0∧O0.toNat<class_.length)<| if(class_.getD Ev.toNat bl)=(class_.getD O0.toNat bl)then (Jb Af BD AY class_ Ev O0).bind fun jQ=> if jQ=true then some (cf (ce.wrap (O0+1))) else some (cc (cf ())) else some (cf (ce.wrap (O0+1))) else some (cc (cc ()))
def FK(Af:BN)(BD:AX)(AY:AX)(class_:AX)(Ev:Int)(v:Int):Option (Unit⊕Unit):=Jf (fun v=>Ck Af BD AY class_ Ev v) v
def Cm(Af:BN)(BD:AX)(AY:AX)(class_:AX)(Ev:Int):Option ((Int)⊕(Unit⊕Unit)):=
 if Ev<(class_.length:Int)then
  ck (0≤Ev∧Ev.toNat<class_.length)<|
  if(class_.getD Ev.toNat bl)<0 then
   some (cc (cf ()))
  else
   ck (0≤Ev)<|
   ck (Ev.toNat≤class_.length)<|
   (FK Af BD AY class_ Ev 0).bind fun Ap=>
   match Ap with
   | .inl q1000_=>
    some (cc (cf ()))
   | .inr q1000_=>
    some (cf (ce.wrap (Ev+1)))
 else
  some (cc (cc ()))
def FM(Af:BN)(BD:AX)(AY:AX)(class_:AX)(v:Int):Option (Unit⊕Unit):=Jf (fun v=>Cm Af BD AY class_ v) v
def FZ(Af:BN)(BD:AX)(AY:AX)(class_:AX):Option (Bool):=
 if(class_.length:Int)=(Af.length:Int)then
  (FM Af BD AY class_ 0).bind fun GY=>
  match GY with
  | .inl q1001_=>
   some false
  | .inr q1001_=>
   some true
 else
  some false
abbrev LA:List Nat:=[30,31,32,33,34,35,36,37,38,39,40,41,42,43,44,45,46]
def R7:SC:= .seq (.ops [oB 28 .lss 3 (tK 27) (tK 26) 3 0]) (.seq (.cond (tK 28) .skip (.exit 2)) (.seq (.block 3 (.seq (.ops [oM 29 27 3,oA 6 29 3]) (.seq (.draws [(⟨[30,1,1],LA,[30]⟩,oM 30 1 26),(⟨[31,5,5],LA,[31]⟩,oM 31 5 3),(⟨[32,30,31,1,5],LA,[32]⟩,oI 32 26 30 31),(⟨[33,32,1],LA,[33]⟩,oL 33 3 32 3),(⟨[34,1,1],LA,[34]⟩,oM 34 1 26),(⟨[35,6,6],LA,[35]⟩,oM 35 6 3),(⟨[36,34,35,1,6],LA,[36]⟩,oI 36 26 34 35),(⟨[37,36,1],LA,[37]⟩,oL 37 3 36 3),(⟨[38,33,37,1,1],LA,[38]⟩,oB 38 .eql 3 (tK 33) (tK 37) 3 4),(⟨[39,38,38],LA,[39]⟩,oM 39 38 4),(⟨[40,2,2,39],LA,[40]⟩,⟨(some 40),(.load 47 (tK 2)),47,(some (some 39,true))⟩),(⟨[41,1,1,39],LA,[41]⟩,⟨(some 41),(.move (tK 1)),26,(some (some 39,true))⟩),(⟨[42,5,5,39],LA,[42]⟩,⟨(some 42),(.move (tK 5)),3,(some (some 39,true))⟩),(⟨[43,6,6,39],LA,[43]⟩,⟨(some 43),(.move (tK 6)),3,(some (some 39,true))⟩),(⟨[44,40,41,42,43,2,1,5,6,39],LA,[44]⟩,⟨(some 44),(.call ⟨(.value (.func 162)), #[(tK 40),(tK 41),(tK 42),(tK 43)], #[47,26,3,3]⟩),4,(some (some 39,true))⟩),(⟨[45,44,44,39],LA,[45]⟩,⟨(some 45),(.unOp .not 4 (tK 44)),4,(some (some 39,true))⟩),(⟨[46,39,45,38,45],LA,[46]⟩,oX 46 (.pick (tK 39) (tK 45) MI) 4)]) (.cond (tK 46) (.seq (.ops [oX 4 BU 4])
 .ret) .skip)))) (.ops [oB 47 .add 3 (tK 27) (iK 1) 3 3,oM 27 47 3])))
def Yi:SC:= .loop R7
def R8:SC:= .seq (.ops [oB 16 .lss 3 (tK 15) (tK 14) 3 0]) (.seq (.cond (tK 16) .skip (.exit 0)) (.seq (.block 1 (.seq (.ops [oM 17 15 3,oA 5 17 3]) (.seq (.seq (.ops [oM 18 1 26,oM 19 5 3,oI 20 26 18 19,oL 21 3 20 3,oB 22 .lss 3 (tK 21) (iK 0) 3 4]) (.cond (tK 22) (.seq (.ops [oX 4 BU 4]) .ret) .skip)) (.seq (.ops [oM 23 1 26,oM 24 5 3,oX 25 (.slice 26 (tK 23) none (some (tK 24)) none) 26,oN 26 25 26,oX 27 (.move (iK 0)) 3]) (.block 2 Yi))))) (.ops [oB 48 .add 3 (tK 15) (iK 1) 3 3,oM 15 48 3])))
def Yj:SC:= .loop R8
def wz:SC:= .seq (.ops [oX 2 (.box 47 (tK 0)) 0,oX 4 BU 4]) (.seq (.seq (.ops [oM 7 1 26,oN 8 7 26,oF 9 47 2 0,oL 10 45 9 45,oN 11 10 45,oB 12 .neq 3 (tK 8) (tK 11) 3 4]) (.cond (tK 12) (.seq (.ops [oX 4 BU 4]) .ret) .skip)) (.seq (.seq (.ops [oM 13 1 26,oN 14 13 26,oX 15 (.move (iK 0)) 3]) (.block 0 Yj)) (.seq (.ops [oX 4 (.assign Dz) 4]) .ret)))
theorem jR:Try.f132.body.map (Bw lends)=some wz:=by kernel_rfl
theorem A4P:CV Try.f132 2=true:=by kernel_rfl
theorem A9H{a l:List D}{r:D×List D}(h:Cb Y.env wz (GX Ad l.length [cg 4] r) (entry a l))(ha:a.length=2):Y.call 132 a l=some r:=
 Ag (Y:=Y) rfl Try.func132 (ha▸A4P) jR h
def Bi(Af:BN)(BD:AX)(AY:AX)(class_:AX)(Ev:Int)(O0:Int)(s:St):Prop:=s.v 1=bm 3 (AV (bk .i64) class_)∧s.v 2=D.box [bm 123 (AV (fun x=>bm 125 (BG .i64 .i64 x)) Af),bm 3 (AV (bk .i64) BD),bm 3 (AV (bk .i64) AY)]∧s.v 5=bk .i64 Ev∧s.v 14=bk .i64 (class_.length:Int)∧s.v 15=bk .i64 Ev∧s.v 26=bk .i64 (((class_.take Ev.toNat).drop 0).length:Int)∧s.v 27=bk .i64 O0
def Bj(Af:BN)(BD:AX)(AY:AX)(class_:AX)(Ev:Int)(r:Unit⊕Unit)(ex:Ex)(s:St):Prop:=match r with
 | .inl q=>ex= .ret∧s.v 4=cd false
 | .inr q=>ex= .exit 2∧s.v 1=bm 3 (AV (bk .i64) class_)∧s.v 2=D.box [bm 123 (AV (fun x=>bm 125 (BG .i64 .i64 x)) Af),bm 3 (AV (bk .i64) BD),bm 3 (AV (bk .i64) AY)]∧s.v 14=bk .i64 (class_.length:Int)∧s.v 15=bk .i64 Ev
theorem LB(Af:BN)(BD:AX)(AY:AX)(class_:AX)(Ev:Int){v:Int}{s:St}{r:Unit⊕Unit}(h:FK Af BD AY class_ Ev v=some r)(hM:Bi Af BD AY class_ Ev v s):Cb Y.env Yi (Bj Af BD AY class_ Ev r) s:=by
 unfold FK at h;refine DK (c:=R7) (fun v=>Ck Af BD AY class_ Ev v) (fun v s=>Bi Af BD AY class_ Ev v s) (Bj Af BD AY class_ Ev) ?_ h hM;clear h hM s v r;intro O0 s o hM h;unfold Ck at h;unfold Bi at hM;obtain⟨m0,m1,m2,m3,m4,m5,m6⟩:=hM;unfold R7;by_cases e7:O0<(((class_.take Ev.toNat).drop 0).length:Int)
 ·rw [if_pos e7]at h;obtain⟨e8,h⟩:=Cq h;obtain⟨e9,h⟩:=Cq h;by_cases e10:(class_.getD Ev.toNat bl)=(class_.getD O0.toNat bl)
  ·rw [if_pos e10]at h;obtain⟨jQ,hl11,h⟩:=BS h;try dsimp only at h
   have c11:=R6 Af BD AY class_ Ev O0 hl11;by_cases e12:jQ=true
   ·rw [if_pos e12]at h
    obtain rfl:=Option.some.inj h
    simp (maxDischargeDepth:=9) only [↓AQ,AR,Au,↓reduceIte,bo,bp,br,bt,bw,bx,bO,b0,b3,b4,b5,b6,b7,b8,b9,ca,cb,m0,m1,m2,m3,m4,m5,m6,e7,e8.1,e8.2,e9.1,e9.2,decide_eq_true e10,c11,e12,Bi,Bj,EA,EB,EC]<;>(repeat' apply A7)<;>first|rfl|exact⟨_,rfl⟩|exact⟨_,_,rfl⟩|simp [AV,AB]
   ·rw [if_neg e12]at h;have e12f:jQ=false:=Gw.mpr e12
    obtain rfl:=Option.some.inj h
    simp (maxDischargeDepth:=9) only [↓AQ,AR,Au,↓reduceIte,bo,bp,br,bt,bw,bx,bO,b0,b3,b4,b5,b6,b7,b8,b9,ca,cb,m0,m1,m2,m3,m4,m5,m6,e7,e8.1,e8.2,e9.1,e9.2,decide_eq_true e10,c11,e12f,Bi,Bj,EA,EB,EC]<;>(repeat' apply A7)<;>first|rfl|exact⟨_,rfl⟩|exact⟨_,_,rfl⟩|simp [AV,AB]
  ·rw [if_neg e10]at h
   obtain rfl:=Option.some.inj h
   simp (maxDischargeDepth:=9) only [↓AQ,AR,Au,↓reduceIte,bo,bp,br,bt,bw,bx,bO,b0,b3,b4,b5,b6,b7,b8,b9,ca,cb,m0,m1,m2,m3,m4,m5,m6,e7,e8.1,e8.2,e9.1,e9.2,e10,Bi,Bj,EA,EB,EC]<;>(repeat' apply A7)<;>first|rfl|exact⟨_,rfl⟩|exact⟨_,_,rfl⟩|simp [AV,AB]
 ·rw [if_neg e7]at h
  obtain rfl:=Option.some.inj h
  simp (maxDischargeDepth:=9) only [↓AQ,AR,Au,↓reduceIte,bo,bp,br,bt,bw,bx,bO,b0,b3,b4,b5,b6,b7,b8,b9,ca,cb,m0,m1,m2,m3,m4,m5,m6,e7,Bi,Bj,EA,EB,EC]<;>(repeat' apply A7)<;>first|rfl|exact⟨_,rfl⟩|exact⟨_,_,rfl⟩|simp [AV,AB]
def Bl(Af:BN)(BD:AX)(AY:AX)(class_:AX)(Ev:Int)(s:St):Prop:=s.v 1=bm 3 (AV (bk .i64) class_)∧s.v 2=D.box [bm 123 (AV (fun x=>bm 125 (BG .i64 .i64 x)) Af),bm 3 (AV (bk .i64) BD),bm 3 (AV (bk .i64) AY)]∧s.v 14=bk .i64 (class_.length:Int)∧s.v 15=bk .i64 Ev
def Bn(Af:BN)(BD:AX)(AY:AX)(class_:AX)(r:Unit⊕Unit)(ex:Ex)(s:St):Prop:=match r with
 | .inl q=>ex= .ret∧s.v 4=cd false
 | .inr q=>ex= .exit 0
theorem LC(Af:BN)(BD:AX)(AY:AX)(class_:AX){v:Int}{s:St}{r:Unit⊕Unit}(h:FM Af BD AY class_ v=some r)(hM:Bl Af BD AY class_ v s):Cb Y.env Yj (Bn Af BD AY class_ r) s:=by
 unfold FM at h;refine DK (c:=R8) (fun v=>Cm Af BD AY class_ v) (fun v s=>Bl Af BD AY class_ v s) (Bn Af BD AY class_) ?_ h hM;clear h hM s v r;intro Ev s o hM h;unfold Cm at h;unfold Bl at hM;obtain⟨m0,m1,m2,m3⟩:=hM;unfold R8;by_cases e2:Ev<(class_.length:Int)
 ·rw [if_pos e2]at h;obtain⟨e3,h⟩:=Cq h;by_cases e4:(class_.getD Ev.toNat bl)<0
  ·rw [if_pos e4]at h
   obtain rfl:=Option.some.inj h
   simp (maxDischargeDepth:=9) only [↓AQ,AR,Au,↓reduceIte,bo,bp,br,bt,bw,bx,bO,b0,b3,b4,b5,b6,b7,b8,b9,ca,cb,m0,m1,m2,m3,e2,e3.1,e3.2,e4,Bl,Bn,EA,EB,EC]<;>(repeat' apply A7)<;>first|rfl|exact⟨_,rfl⟩|exact⟨_,_,rfl⟩|simp [AV,AB]
  ·rw [if_neg e4]at h;obtain⟨e5,h⟩:=Cq h;obtain⟨e6,h⟩:=Cq h;obtain⟨Ap,hl8,h⟩:=BS h;try dsimp only at h
   simp (maxDischargeDepth:=9) only [↓AQ,AR,Au,↓reduceIte,bo,bp,br,bt,bw,bx,bO,b0,b3,b4,b5,b6,b7,b8,b9,ca,cb,m0,m1,m2,m3,e2,e3.1,e3.2,e4,e5,e6];refine CQ (LB Af BD AY class_ Ev hl8 ?_) ?_
   ·simp (maxDischargeDepth:=9) only [↓AQ,AR,Au,↓reduceIte,bo,bp,br,bt,bw,bx,bO,b0,b3,b4,b5,b6,b7,b8,b9,ca,cb,m0,m1,m2,m3,e2,e3.1,e3.2,e4,e5,e6,Bi]<;>(repeat' apply A7)<;>first|rfl|exact⟨_,rfl⟩|exact⟨_,_,rfl⟩|simp [AV,AB]
   ·intro ex8 s8 hX8;rcases Ap with q1000_|q1000_
    ·unfold Bj at hX8;dsimp only at hX8 h;obtain⟨rfl,n8_0⟩:=hX8
     obtain rfl:=Option.some.inj h
     simp (maxDischargeDepth:=9) only [↓AQ,AR,Au,↓reduceIte,bo,bp,br,bt,bw,bx,bO,b0,b3,b4,b5,b6,b7,b8,b9,ca,cb,e2,e3.1,e3.2,e4,e5,e6,n8_0,Bl,Bn,EA,EB,EC]<;>(repeat' apply A7)<;>first|rfl|exact⟨_,rfl⟩|exact⟨_,_,rfl⟩|simp [AV,AB]
    ·unfold Bj at hX8;dsimp only at hX8 h;obtain⟨rfl,n8_0,n8_1,n8_2,n8_3⟩:=hX8
     obtain rfl:=Option.some.inj h
     simp (maxDischargeDepth:=9) only [↓AQ,AR,Au,↓reduceIte,bo,bp,br,bt,bw,bx,bO,b0,b3,b4,b5,b6,b7,b8,b9,ca,cb,e2,e3.1,e3.2,e4,e5,e6,n8_0,n8_1,n8_2,n8_3,Bl,Bn,EA,EB,EC]<;>(repeat' apply A7)<;>first|rfl|exact⟨_,rfl⟩|exact⟨_,_,rfl⟩|simp [AV,AB]
 ·rw [if_neg e2]at h
  obtain rfl:=Option.some.inj h
  simp (maxDischargeDepth:=9) only [↓AQ,AR,Au,↓reduceIte,bo,bp,br,bt,bw,bx,bO,b0,b3,b4,b5,b6,b7,b8,b9,ca,cb,m0,m1,m2,m3,e2,Bl,Bn,EA,EB,EC]<;>(repeat' apply A7)<;>first|rfl|exact⟨_,rfl⟩|exact⟨_,_,rfl⟩|simp [AV,AB]
theorem Lf(Af:BN)(BD:AX)(AY:AX)(class_:AX){r:Bool}(h:FZ Af BD AY class_=some r):Y.call 132 [cj [bm 123 (AV (fun x=>bm 125 (BG .i64 .i64 x)) Af),bm 3 (AV (bk .i64) BD),bm 3 (AV (bk .i64) AY)],bm 3 (AV (bk .i64) class_)] []=some (cd r,[]):=by
 refine A9H ?_ rfl;unfold wz;unfold FZ at h;by_cases e1:(class_.length:Int)=(Af.length:Int)
 ·rw [if_pos e1]at h;obtain⟨GY,hl3,h⟩:=BS h;try dsimp only at h
  simp (maxDischargeDepth:=9) only [↓AQ,AR,Au,↓reduceIte,bo,bp,br,bt,bw,bx,bO,b0,b3,b4,b5,b6,b7,b8,b9,ca,cb,decide_eq_true e1];refine CQ (LC Af BD AY class_ hl3 ?_) ?_
  ·simp (maxDischargeDepth:=9) only [↓AQ,AR,Au,↓reduceIte,bo,bp,br,bt,bw,bx,bO,b0,b3,b4,b5,b6,b7,b8,b9,ca,cb,decide_eq_true e1,Bl]<;>(repeat' apply A7)<;>first|rfl|exact⟨_,rfl⟩|exact⟨_,_,rfl⟩|simp [AV,AB]
  ·intro ex3 s3 hX3;rcases GY with q1001_|q1001_
   ·unfold Bn at hX3;dsimp only at hX3 h;obtain⟨rfl,n3_0⟩:=hX3
    obtain rfl:=Option.some.inj h
    simp (maxDischargeDepth:=9) only [↓AQ,AR,Au,↓reduceIte,bo,bp,br,bt,bw,bx,bO,b0,b3,b4,b5,b6,b7,b8,b9,ca,cb,decide_eq_true e1,n3_0]<;>(repeat' apply A7)<;>first|rfl|exact⟨_,rfl⟩|exact⟨_,_,rfl⟩|simp [AV,AB]
   ·unfold Bn at hX3;dsimp only at hX3 h
    obtain rfl:=hX3
    obtain rfl:=Option.some.inj h
    simp (maxDischargeDepth:=9) only [↓AQ,AR,Au,↓reduceIte,bo,bp,br,bt,bw,bx,bO,b0,b3,b4,b5,b6,b7,b8,b9,ca,cb,decide_eq_true e1]<;>(repeat' apply A7)<;>first|rfl|exact⟨_,rfl⟩|exact⟨_,_,rfl⟩|simp [AV,AB]
 ·rw [if_neg e1]at h
  obtain rfl:=Option.some.inj h
  simp (maxDischargeDepth:=9) only [↓AQ,AR,Au,↓reduceIte,bo,bp,br,bt,bw,bx,bO,b0,b3,b4,b5,b6,b7,b8,b9,ca,cb,e1]<;>(repeat' apply A7)<;>first|rfl|exact⟨_,rfl⟩|exact⟨_,_,rfl⟩|simp [AV,AB]
def FC(Af:BN)(v_:Int)(out:AX)(Uc:Int):Option ((AX×Int)⊕(AX)):= if Uc<((Af.getD v_.toNat bl).length:Int)then ck (0≤Uc∧Uc.toNat<(Af.getD v_.toNat bl).length)<| ck (out.length+1<1099511627776)<| some (cf ((out++[(BJ (Af.getD v_.toNat bl) Uc.toNat)]),ce.wrap (Uc+1))) else some (cc out)
def JB(Af:BN)(v_:Int)(v:AX×Int):Option (AX):=Jf (fun v=>FC Af v_ v.1 v.2) v
def LD(Af:BN)(BD:AX)(AY:AX)(v_:Int):Option (AX):= ck (0≤v_∧v_.toNat<Af.length)<| (JB Af v_ ([],0)).bind fun Ap=> some Ap
def R9:SC:= .seq (.ops [oB 15 .lss 3 (tK 14) (tK 13) 3 0]) (.seq (.cond (tK 15) .skip (.exit 0)) (.seq (.block 1 (.seq (.ops [oI 16 123 12 14,oL 17 125 16 125,oX 7 (.alloc 125) 0,oS 125 7 17]) (.ops [oM 18 5 26,oF 19 125 7 0,oL 20 3 19 3,oX 21 (.buildSlice 26 1 #[(0,(tK 20))]) 26,oX 22 (.call ⟨(.builtin .append), #[(tK 18),(tK 21)], #[26,26]⟩) 26,oA 5 22 26]))) (.ops [oB 23 .add 3 (tK 14) (iK 1) 3 3,oM 14 23 3])))
def Yk:SC:= .loop R9
def x8:SC:= .seq (.ops [oX 2 (.box 47 (tK 0)) 0,oX 4 eQ 26]) (.seq (.ops [oX 5 eQ 26]) (.seq (.seq (.ops [oF 8 47 2 0,oL 9 45 8 45,oM 10 1 3,oI 11 45 9 10,oL 12 123 11 123,oN 13 12 123,oX 14 (.move (iK 0)) 3]) (.block 0 Yk)) (.seq (.ops [oM 24 5 26,oA 4 24 26]) .ret)))
theorem jS:Try.f129.body.map (Bw lends)=some x8:=by kernel_rfl
theorem A4Q:CV Try.f129 2=true:=by kernel_rfl
theorem A9I{a l:List D}{r:D×List D}(h:Cb Y.env x8 (GX Ad l.length [cg 4] r) (entry a l))(ha:a.length=2):Y.call 129 a l=some r:=
 Ag (Y:=Y) rfl Try.func129 (ha▸A4Q) jS h
def FD(Af:BN)(v_:Int)(out:AX)(Uc:Int)(s:St):Prop:=s.v 5=D.own 3 (AV (bk .i64) out)∧s.v 12=bm 125 (BG .i64 .i64 (Af.getD v_.toNat bl))∧s.v 13=bk .i64 ((Af.getD v_.toNat bl).length:Int)∧s.v 14=bk .i64 Uc
def GL(Af:BN)(v_:Int)(r:AX)(ex:Ex)(s:St):Prop:=ex= .exit 0∧s.v 5=D.own 3 (AV (bk .i64) r)
theorem RA(Af:BN)(v_:Int){v:AX×Int}{s:St}{r:AX}(h:JB Af v_ v=some r)(hM:FD Af v_ v.1 v.2 s):Cb Y.env Yk (GL Af v_ r) s:=by
 unfold JB at h;refine DK (c:=R9) (fun v=>FC Af v_ v.1 v.2) (fun v s=>FD Af v_ v.1 v.2 s) (GL Af v_) ?_ h hM;clear h hM s v r;intro v s o hM h;obtain⟨out,Uc⟩:=v;dsimp only at h hM;unfold FC at h;unfold FD at hM;obtain⟨m0,m1,m2,m3⟩:=hM;unfold R9;by_cases e2:Uc<((Af.getD v_.toNat bl).length:Int)
 ·rw [if_pos e2]at h;obtain⟨e3,h⟩:=Cq h;obtain⟨e4,h⟩:=Cq h
  obtain rfl:=Option.some.inj h
  simp (maxDischargeDepth:=9) only [↓AQ,AR,Au,↓reduceIte,bo,bp,br,bt,bw,bx,bO,b0,b3,b4,b5,b6,b7,b8,b9,ca,cb,m0,m1,m2,m3,e2,e3.1,e3.2,e4,FD,GL,EA,EB,EC]<;>(repeat' apply A7)<;>first|rfl|exact⟨_,rfl⟩|exact⟨_,_,rfl⟩|simp [AV,AB]
 ·rw [if_neg e2]at h
  obtain rfl:=Option.some.inj h
  simp (maxDischargeDepth:=9) only [↓AQ,AR,Au,↓reduceIte,bo,bp,br,bt,bw,bx,bO,b0,b3,b4,b5,b6,b7,b8,b9,ca,cb,m0,m1,m2,m3,e2,FD,GL,EA,EB,EC]<;>(repeat' apply A7)<;>first|rfl|exact⟨_,rfl⟩|exact⟨_,_,rfl⟩|simp [AV,AB]
theorem SH(Af:BN)(BD:AX)(AY:AX)(v_:Int){r:AX}(h:LD Af BD AY v_=some r):Y.call 129 [cj [bm 123 (AV (fun x=>bm 125 (BG .i64 .i64 x)) Af),bm 3 (AV (bk .i64) BD),bm 3 (AV (bk .i64) AY)],bk .i64 v_] []=some (D.own 3 (AV (bk .i64) r),[]):=by
 refine A9I ?_ rfl;unfold x8;unfold LD at h;obtain⟨e1,h⟩:=Cq h;obtain⟨Ap,hl3,h⟩:=BS h;try dsimp only at h
 simp (maxDischargeDepth:=9) only [↓AQ,AR,Au,↓reduceIte,bo,bp,br,bt,bw,bx,bO,b0,b3,b4,b5,b6,b7,b8,b9,ca,cb,e1.1,e1.2];refine CQ (RA Af v_ hl3 ?_) ?_
 ·simp (maxDischargeDepth:=9) only [↓AQ,AR,Au,↓reduceIte,bo,bp,br,bt,bw,bx,bO,b0,b3,b4,b5,b6,b7,b8,b9,ca,cb,e1.1,e1.2,FD]<;>(repeat' apply A7)<;>first|rfl|exact⟨_,rfl⟩|exact⟨_,_,rfl⟩|simp [AV,AB]
 ·intro ex3 s3 hX3;unfold GL at hX3;obtain⟨rfl,n3_0⟩:=hX3
  obtain rfl:=Option.some.inj h
  simp (maxDischargeDepth:=9) only [↓AQ,AR,Au,↓reduceIte,bo,bp,br,bt,bw,bx,bO,b0,b3,b4,b5,b6,b7,b8,b9,ca,cb,e1.1,e1.2,n3_0]<;>(repeat' apply A7)<;>first|rfl|exact⟨_,rfl⟩|exact⟨_,_,rfl⟩|simp [AV,AB]
def NN(task:Int):Option (Bool):= some (Eo task (1:Int) (3:Int))
def k68:SC:= .seq (.ops [oX 2 BU 4]) (.seq (.ops [oM 3 0 3,oC 4 97 [(tK 3),(iK 1),(iK 3)] [3,3,3] 4,oA 2 4 4]) .ret)
theorem x9:Try.f68.body.map (Bw lends)=some k68:=by kernel_rfl
theorem A9K:CV Try.f68 1=true:=by kernel_rfl
theorem c68{a l:List D}{r:D×List D}(h:Cb Y.env k68 (GX Ad l.length [cg 2] r) (entry a l))(ha:a.length=1):Y.call 68 a l=some r:=
 Ag (Y:=Y) rfl Try.func68 (ha▸A9K) x9 h
theorem SI(task:Int){r:Bool}(h:NN task=some r):Y.call 68 [bk .i64 task] []=some (cd r,[]):=by
 refine c68 ?_ rfl;unfold k68;unfold NN at h;have c1:=Ga task (1:Int) (3:Int)
 obtain rfl:=Option.some.inj h
 simp (maxDischargeDepth:=9) only [↓AQ,AR,Au,↓reduceIte,bo,bp,br,bt,bw,bx,bO,b0,b3,b4,b5,b6,b7,b8,b9,ca,cb,c1]<;>(repeat' apply A7)<;>first|rfl|exact⟨_,rfl⟩|exact⟨_,_,rfl⟩|simp [AV,AB]
def AU(s_:Cz)(f:Int→Int→Option Bool)(Gf:Int):Option ((Int)⊕(Int⊕Unit)):= if Gf<(s_.length:Int)then ck (0≤Gf∧Gf.toNat<s_.length)<| (f (BJ s_ Gf.toNat) (Bo s_ Gf.toNat)).bind fun ND=> if ND=true then some (cc (cf Gf)) else some (cf (ce.wrap (Gf+1))) else some (cc (cc ()))
def AZ(s_:Cz)(f:Int→Int→Option Bool)(v:Int):Option (Int⊕Unit):=Jf (fun v=>AU s_ f v) v
def Ai(s_:Cz)(f:Int→Int→Option Bool):Option (Int):=
 (AZ s_ f 0).bind fun Ap=>
 match Ap with
 | .inl q1000_=>
  some q1000_
 | .inr q1000_=>
  some (-1)
def RB:SC:= .seq (.ops [oB 9 .lss 3 (tK 8) (tK 7) 3 0]) (.seq (.cond (tK 9) .skip (.exit 0)) (.seq (.block 1 (.seq (.ops [oM 10 8 3,oA 5 10 3]) (.seq (.ops [oM 11 1 167,oM 12 0 123,oM 13 5 3,oI 14 123 12 13,oL 15 125 14 125,oX 16 (.call ⟨(.value (tK 11)), #[(tK 15)], #[125]⟩) 4]) (.cond (tK 16) (.seq (.ops [oM 17 5 3,oA 4 17 3]) .ret) .skip)))) (.ops [oB 18 .add 3 (tK 8) (iK 1) 3 3,oM 8 18 3])))
def Yl:SC:= .loop RB
def xA:SC:= .seq (.ops [oX 4 (.assign (iK 0)) 3]) (.seq (.seq (.ops [oM 6 0 123,oN 7 6 123,oX 8 (.move (iK 0)) 3]) (.block 0 Yl)) (.seq (.ops [oX 4 N7 3]) .ret))
theorem jT:Try.f177.body.map (Bw lends)=some xA:=by kernel_rfl
theorem A4R:CV Try.f177 2=true:=by kernel_rfl
theorem A9L{a l:List D}{r:D×List D}(h:Cb Y.env xA (GX Ad l.length [cg 4] r) (entry a l))(ha:a.length=2):Y.call 177 a l=some r:=
 Ag (Y:=Y) rfl Try.func177 (ha▸A4R) jT h
def AO(s_:Cz)(f:Int→Int→Option Bool)(f_f:FuncId)(f_c:List D)(Gf:Int)(s:St):Prop:=s.v 0=bm 125 (BG .i64 .i64 s_)∧s.v 1=D.clo f_f f_c∧s.v 7=bk .i64 (s_.length:Int)∧s.v 8=bk .i64 Gf
def AP(s_:Cz)(f:Int→Int→Option Bool)(f_f:FuncId)(f_c:List D)(r:Int⊕Unit)(ex:Ex)(s:St):Prop:=match r with
 | .inl q=>ex= .ret∧s.v 4=bk .i64 q
 | .inr q=>ex= .exit 0
theorem Bc(s_:Cz)(f:Int→Int→Option Bool)(f_f:FuncId)(f_c:List D)(f_h: ∀(a0_0:Int) (a0_1:Int) (r:Bool),f a0_0 a0_1=some r→Y.call f_f (cj [bk .i64 a0_0,bk .i64 a0_1]::f_c) []=some (cd r,[]))(f_l:lends f_f=false){v:Int}{s:St}{r:Int⊕Unit}(h:AZ s_ f v=some r)(hM:AO s_ f f_f f_c v s):Cb Y.env Yl (AP s_ f f_f f_c r) s:=by
 unfold AZ at h;refine DK (c:=RB) (fun v=>AU s_ f v) (fun v s=>AO s_ f f_f f_c v s) (AP s_ f f_f f_c) ?_ h hM;clear h hM s v r;intro Gf s o hM h;unfold AU at h;unfold AO at hM;obtain⟨m0,m1,m2,m3⟩:=hM;unfold RB;by_cases e1:Gf<(s_.length:Int)
 ·rw [if_pos e1]at h;obtain⟨e2,h⟩:=Cq h;obtain⟨ND,hl3,h⟩:=BS h;try dsimp only at h
  have c3:=f_h _ _ _ hl3;by_cases e4:ND=true
  ·rw [if_pos e4]at h
   obtain rfl:=Option.some.inj h
   simp (maxDischargeDepth:=9) only [↓AQ,AR,Au,↓reduceIte,bo,bp,br,bt,bw,bx,bO,b0,b3,b4,b5,b6,b7,b8,b9,ca,cb,m0,m1,m2,m3,f_l,e1,e2.1,e2.2,c3,e4,AO,AP,EA,EB,EC]<;>(repeat' apply A7)<;>first|rfl|exact⟨_,rfl⟩|exact⟨_,_,rfl⟩|simp [AV,AB]
  ·rw [if_neg e4]at h;have e4f:ND=false:=Gw.mpr e4
   obtain rfl:=Option.some.inj h
   simp (maxDischargeDepth:=9) only [↓AQ,AR,Au,↓reduceIte,bo,bp,br,bt,bw,bx,bO,b0,b3,b4,b5,b6,b7,b8,b9,ca,cb,m0,m1,m2,m3,f_l,e1,e2.1,e2.2,c3,e4f,AO,AP,EA,EB,EC]<;>(repeat' apply A7)<;>first|rfl|exact⟨_,rfl⟩|exact⟨_,_,rfl⟩|simp [AV,AB]
 ·rw [if_neg e1]at h
  obtain rfl:=Option.some.inj h
  simp (maxDischargeDepth:=9) only [↓AQ,AR,Au,↓reduceIte,bo,bp,br,bt,bw,bx,bO,b0,b3,b4,b5,b6,b7,b8,b9,ca,cb,m0,m1,m2,m3,f_l,e1,AO,AP,EA,EB,EC]<;>(repeat' apply A7)<;>first|rfl|exact⟨_,rfl⟩|exact⟨_,_,rfl⟩|simp [AV,AB]
theorem Bf(s_:Cz)(f:Int→Int→Option Bool)(f_f:FuncId)(f_c:List D)(f_h: ∀(a0_0:Int) (a0_1:Int) (r:Bool),f a0_0 a0_1=some r→Y.call f_f (cj [bk .i64 a0_0,bk .i64 a0_1]::f_c) []=some (cd r,[]))(f_l:lends f_f=false){r:Int}(h:Ai s_ f=some r):Y.call 177 [bm 125 (BG .i64 .i64 s_),D.clo f_f f_c] []=some (bk .i64 r,[]):=by
 refine A9L ?_ rfl;unfold xA;unfold Ai at h;obtain⟨Ap,hl2,h⟩:=BS h;try dsimp only at h
 simp (maxDischargeDepth:=9) only [↓AQ,AR,Au,↓reduceIte,bo,bp,br,bt,bw,bx,bO,b0,b3,b4,b5,b6,b7,b8,b9,ca,cb,f_l];refine CQ (Bc s_ f f_f f_c f_h f_l hl2 ?_) ?_
 ·simp (maxDischargeDepth:=9) only [↓AQ,AR,Au,↓reduceIte,bo,bp,br,bt,bw,bx,bO,b0,b3,b4,b5,b6,b7,b8,b9,ca,cb,f_l,AO]<;>(repeat' apply A7)<;>first|rfl|exact⟨_,rfl⟩|exact⟨_,_,rfl⟩|simp [AV,AB]
 ·intro ex2 s2 hX2;rcases Ap with q1000_|q1000_
  ·unfold AP at hX2;dsimp only at hX2 h;obtain⟨rfl,n2_0⟩:=hX2
   obtain rfl:=Option.some.inj h
   simp (maxDischargeDepth:=9) only [↓AQ,AR,Au,↓reduceIte,bo,bp,br,bt,bw,bx,bO,b0,b3,b4,b5,b6,b7,b8,b9,ca,cb,f_l,n2_0]<;>(repeat' apply A7)<;>first|rfl|exact⟨_,rfl⟩|exact⟨_,_,rfl⟩|simp [AV,AB]
  ·unfold AP at hX2;dsimp only at hX2 h
   obtain rfl:=hX2
   obtain rfl:=Option.some.inj h
   simp (maxDischargeDepth:=9) only [↓AQ,AR,Au,↓reduceIte,bo,bp,br,bt,bw,bx,bO,b0,b3,b4,b5,b6,b7,b8,b9,ca,cb,f_l]<;>(repeat' apply A7)<;>first|rfl|exact⟨_,rfl⟩|exact⟨_,_,rfl⟩|simp [AV,AB]
def Ah(s_:Cz)(f:Int→Int→Option Bool):Option (Bool):= (Ai s_ f).bind fun r7_=> some (decide (0≤r7_))
def xB:SC:= .seq (.ops [oX 4 BU 4]) (.seq (.ops [oM 5 0 123,oM 6 1 167,oC 7 177 [(tK 5),(tK 6)] [123,167] 3,oB 8 .geq 3 (tK 7) (iK 0) 3 4,oA 4 8 4]) .ret)
theorem jU:Try.f160.body.map (Bw lends)=some xB:=by kernel_rfl
theorem A4S:CV Try.f160 2=true:=by kernel_rfl
theorem A9M{a l:List D}{r:D×List D}(h:Cb Y.env xB (GX Ad l.length [cg 4] r) (entry a l))(ha:a.length=2):Y.call 160 a l=some r:=
 Ag (Y:=Y) rfl Try.func160 (ha▸A4S) jU h
theorem BV(s_:Cz)(f:Int→Int→Option Bool)(f_f:FuncId)(f_c:List D)(f_h: ∀(a0_0:Int) (a0_1:Int) (r:Bool),f a0_0 a0_1=some r→Y.call f_f (cj [bk .i64 a0_0,bk .i64 a0_1]::f_c) []=some (cd r,[]))(f_l:lends f_f=false){r:Bool}(h:Ah s_ f=some r):Y.call 160 [bm 125 (BG .i64 .i64 s_),D.clo f_f f_c] []=some (cd r,[]):=by
 refine A9M ?_ rfl;unfold xB;unfold Ah at h;obtain⟨r7_,hl1,h⟩:=BS h;try dsimp only at h
 have c1:=Bf s_ f f_f f_c f_h f_l hl1
 obtain rfl:=Option.some.inj h
 simp (maxDischargeDepth:=9) only [↓AQ,AR,Au,↓reduceIte,bo,bp,br,bt,bw,bx,bO,b0,b3,b4,b5,b6,b7,b8,b9,ca,cb,f_l,c1]<;>(repeat' apply A7)<;>first|rfl|exact⟨_,rfl⟩|exact⟨_,_,rfl⟩|simp [AV,AB]
def EK(e_Node:Int)(e_Port:Int)(c0_:Int):Option (Bool):= some (decide (e_Node=c0_))
def xC:SC:= .seq (.ops [oX 2 (.box 125 (tK 0)) 0,oX 3 BU 4]) (.seq (.ops [oF 4 125 2 0,oL 5 3 4 3,oL 6 3 1 3,oB 7 .eql 3 (tK 5) (tK 6) 3 4,oA 3 7 4]) .ret)
theorem jV:Try.f161.body.map (Bw lends)=some xC:=by kernel_rfl
theorem A4T:CV Try.f161 2=true:=by kernel_rfl
theorem A9N{a l:List D}{r:D×List D}(h:Cb Y.env xC (GX Ad l.length [cg 3] r) (entry a l))(ha:a.length=2):Y.call 161 a l=some r:=
 Ag (Y:=Y) rfl Try.func161 (ha▸A4T) jV h
theorem MN(e_Node:Int)(e_Port:Int)(c0_:Int){r:Bool}(h:EK e_Node e_Port c0_=some r):Y.call 161 [cj [bk .i64 e_Node,bk .i64 e_Port],D.cptr [bk .i64 c0_]] []=some (cd r,[]):=by
 refine A9N ?_ rfl;unfold xC;unfold EK at h
 obtain rfl:=Option.some.inj h
 simp (maxDischargeDepth:=9) only [↓AQ,AR,Au,↓reduceIte,bo,bp,br,bt,bw,bx,bO,b0,b3,b4,b5,b6,b7,b8,b9,ca,cb]<;>(repeat' apply A7)<;>first|rfl|exact⟨_,rfl⟩|exact⟨_,_,rfl⟩|simp [AV,AB]
def Ht(Af:BN)(BD:AX)(AY:AX)(u:Int)(v_:Int):Option (Bool):= ck (0≤u∧u.toNat<Af.length)<| (Ah (Af.getD u.toNat bl) (fun a0_0 a0_1=>EK a0_0 a0_1 v_)).bind fun A4U=> some A4U
def xD:SC:= .seq (.ops [oX 3 (.box 47 (tK 0)) 0,oX 5 (.box 3 (tK 2)) 0,oX 6 BU 4]) (.seq (.ops [oF 7 47 3 0,oL 8 45 7 45,oM 9 1 3,oI 10 45 8 9,oL 11 123 10 123,oX 12 (.makeFunc (Fn.func 161) #[] #[(tK 5)]) 167,oC 13 160 [(tK 11),(tK 12)] [123,167] 4,oA 6 13 4]) .ret)
theorem jW:Try.f131.body.map (Bw lends)=some xD:=by kernel_rfl
theorem A4V:CV Try.f131 3=true:=by kernel_rfl
theorem A9O{a l:List D}{r:D×List D}(h:Cb Y.env xD (GX Ad l.length [cg 6] r) (entry a l))(ha:a.length=3):Y.call 131 a l=some r:=
 Ag (Y:=Y) rfl Try.func131 (ha▸A4V) jW h
theorem O1(Af:BN)(BD:AX)(AY:AX)(u:Int)(v_:Int){r:Bool}(h:Ht Af BD AY u v_=some r):Y.call 131 [cj [bm 123 (AV (fun x=>bm 125 (BG .i64 .i64 x)) Af),bm 3 (AV (bk .i64) BD),bm 3 (AV (bk .i64) AY)],bk .i64 u,bk .i64 v_] []=some (cd r,[]):=by
 refine A9O ?_ rfl;unfold xD;unfold Ht at h;obtain⟨e1,h⟩:=Cq h;obtain⟨A4U,hl2,h⟩:=BS h;try dsimp only at h
 have c2:=BV (Af.getD u.toNat bl) (fun a0_0 a0_1=>EK a0_0 a0_1 v_) 161 [D.cptr [bk .i64 v_]] (fun a0_0 a0_1 _ hh=>MN a0_0 a0_1 v_ hh) eB hl2
 obtain rfl:=Option.some.inj h
 simp (maxDischargeDepth:=9) only [↓AQ,AR,Au,↓reduceIte,bo,bp,br,bt,bw,bx,bO,b0,b3,b4,b5,b6,b7,b8,b9,ca,cb,e1.1,e1.2,c2]<;>(repeat' apply A7)<;>first|rfl|exact⟨_,rfl⟩|exact⟨_,_,rfl⟩|simp [AV,AB]
def EZ(t1_Task:Int)(t1_Class:AX)(t1_U:Int)(t1_V:Int)(IE:Cz)(SK:Int):Option ((Cz×Int)⊕(Cz)):= if SK<(t1_Class.length:Int)then ck (0≤SK∧SK.toNat<t1_Class.length)<| some (cf ((Kn IE (t1_Class.getD SK.toNat bl) (ce.wrap (((CP IE (t1_Class.getD SK.toNat bl)).1)+1))),ce.wrap (SK+1))) else some (cc IE)
def Gv(t1_Task:Int)(t1_Class:AX)(t1_U:Int)(t1_V:Int)(v:Cz×Int):Option (Cz):=Jf (fun v=>EZ t1_Task t1_Class t1_U t1_V v.1 v.2) v
def Jc(AA:BN)(AL:AX)(AC:AX)(t1_Task:Int)(t1_Class:AX)(t1_U:Int)(t1_V:Int):Option (Bool):= if t1_Task=1 then (Gv t1_Task t1_Class t1_U t1_V (([]:Cz),0)).bind fun Ap=> if(Ap.any fun p=>p.2==1)=true then some false else if t1_U=0 then some (decide (t1_V=0)) else some false else (CL AA AL AC t1_U).bind fun jX=> if jX=true then (CL AA AL AC t1_V).bind fun jY=> if jY=true then ck (0≤t1_U∧t1_U.toNat<t1_Class.length)<| ck (0≤t1_V∧t1_V.toNat<t1_Class.length)<| if(t1_Class.getD t1_U.toNat bl)=(t1_Class.getD t1_V.toNat bl)then if t1_Task=2 then if t1_U≤t1_V then (Ht AA AL AC t1_U t1_V).bind fun A4W=> some A4W else some false else some (decide (t1_U<t1_V)) else some false else some false else some false
def Ud:SC:= .seq (.ops [oB 18 .lss 3 (tK 17) (tK 16) 3 0]) (.seq (.cond (tK 18) .skip (.exit 0)) (.seq (.block 1 (.seq (.ops [oI 19 26 15 17,oL 20 3 19 3,oA 7 20 3]) (.ops [oM 21 5 144,oM 22 7 3,oX 23 (.lookup 144 (tK 21) (tK 22) false) 3,oB 24 .add 3 (tK 23) (iK 1) 3 3,⟨none,(.mapUpdate 144 (tK 21) (tK 22) (tK 24)),0,none⟩]))) (.ops [oB 25 .add 3 (tK 17) (iK 1) 3 3,oM 17 25 3])))
def fO:SC:= .loop Ud
abbrev Ha:List Nat:=[42,43,44,45,46,47,48,49,50,51,52,53,54,55,56,57,58,59,60,61,62,63,64,65,66,67,68]
def k82:SC:= .seq (.ops [oX 2 (.box 47 (tK 0)) 0,oX 3 (.box 57 (tK 1)) 0,oX 4 BU 4]) (.seq (.seq (.ops [oF 10 57 3 0,oL 11 3 10 3,oB 12 .eql 3 (tK 11) (iK 1) 3 4]) (.cond (tK 12) (.seq (.ops [oX 13 (.makeMap 144 none) 144,oA 5 13 144]) (.seq (.seq (.ops [oF 14 57 3 1,oL 15 26 14 26,oN 16 15 26,oX 17 (.move (iK 0)) 3]) (.block 0 fO)) (.seq (.any ⟨5,26,27,28,29,30,31,9,32,33,4,144,3,1,false⟩) (.seq (.ops [oF 34 57 3 2,oL 35 3 34 3,oB 36 .eql 3 (tK 35) (iK 0) 3 4,oM 37 36 4,⟨(some 38),WC,0,(some (some 37,true))⟩,⟨(some 39),(.load 3 (tK 38)),3,(some (some 37,true))⟩,⟨(some 40),(.binOp .eql 3 (tK 39) (iK 0) 3),4,(some (some 37,true))⟩,oX 41 (.pick (tK 37) (tK 40) MI) 4,oA 4 41 4]) .ret)))) .skip)) (.seq (.seq (.draws [(⟨[42,2,2],Ha,[42]⟩,oL 42 47 2 47),(⟨[43,3,3],Ha,[43]⟩,oF 43 57 3 2),(⟨[44,43,3],Ha,[44]⟩,oL 44 3 43 3),(⟨[45,42,44,2,3],Ha,[45]⟩,oC 45 130 [(tK 42),(tK 44)] [47,3] 4),(⟨[46,45,45],Ha,[46]⟩,oX 46 (.unOp .not 4 (tK 45)) 4),(⟨[47,46,46],Ha,[47]⟩,oM 47 46 4),(⟨[48,2,2,47],Ha,[48]⟩,⟨(some 48),(.load 47 (tK 2)),47,(some (some 47,false))⟩),(⟨[49,3,3,47],Ha,[49]⟩,⟨(some 49),WC,0,(some (some 47,false))⟩),(⟨[50,49,3,47],Ha,[50]⟩,⟨(some 50),(.load 3 (tK 49)),3,(some (some 47,false))⟩),
 (⟨[51,48,50,2,3,47],Ha,[51]⟩,⟨(some 51),(.call ⟨(.value (.func 130)), #[(tK 48),(tK 50)], #[47,3]⟩),4,(some (some 47,false))⟩),(⟨[52,51,51,47],Ha,[52]⟩,⟨(some 52),(.unOp .not 4 (tK 51)),4,(some (some 47,false))⟩),(⟨[53,47,52,46,52],Ha,[53]⟩,oX 53 (.pick (tK 47) Dz (tK 52)) 4),(⟨[54,53,53],Ha,[54]⟩,oM 54 53 4),(⟨[55,3,3,54],Ha,[55]⟩,⟨(some 55),(.fieldAddr 57 (tK 3) 1),0,(some (some 54,false))⟩),(⟨[56,55,3,54],Ha,[56]⟩,⟨(some 56),(.load 26 (tK 55)),26,(some (some 54,false))⟩),(⟨[57,3,3,54],Ha,[57]⟩,⟨(some 57),(.fieldAddr 57 (tK 3) 2),0,(some (some 54,false))⟩),(⟨[58,57,3,54],Ha,[58]⟩,⟨(some 58),(.load 3 (tK 57)),3,(some (some 54,false))⟩),(⟨[59,56,58,3,3,54],Ha,[59]⟩,⟨(some 59),(.indexAddr 26 (tK 56) (tK 58)),0,(some (some 54,false))⟩),(⟨[60,59,3,54],Ha,[60]⟩,⟨(some 60),(.load 3 (tK 59)),3,(some (some 54,false))⟩),(⟨[61,3,3,54],Ha,[61]⟩,⟨(some 61),(.fieldAddr 57 (tK 3) 1),0,(some (some 54,false))⟩),(⟨[62,61,3,54],Ha,[62]⟩,⟨(some 62),(.load 26 (tK 61)),26,(some (some 54,false))⟩),(⟨[63,3,3,54],Ha,[63]⟩,⟨(some 63),WC,0,(some (some 54,false))⟩),(⟨[64,63,3,54],Ha,[64]⟩,⟨(some 64),(.load 3 (tK 63)),3,(some (some 54,false))⟩),(⟨[65,62,64,3,3,54],Ha,[65]⟩,⟨(some 65),(.indexAddr 26 (tK 62) (tK 64)),0,(some (some 54,false))⟩),
 (⟨[66,65,3,54],Ha,[66]⟩,⟨(some 66),(.load 3 (tK 65)),3,(some (some 54,false))⟩),(⟨[67,60,66,3,3,54],Ha,[67]⟩,⟨(some 67),(.binOp .neq 3 (tK 60) (tK 66) 3),4,(some (some 54,false))⟩),(⟨[68,54,67,53,67],Ha,[68]⟩,oX 68 (.pick (tK 54) Dz (tK 67)) 4)]) (.cond (tK 68) (.seq (.ops [oX 4 BU 4]) .ret) .skip)) (.seq (.seq (.ops [oF 69 57 3 0,oL 70 3 69 3,oB 71 .eql 3 (tK 70) (iK 2) 3 4]) (.cond (tK 71) (.seq (.ops [oF 72 57 3 2,oL 73 3 72 3,oF 74 57 3 3,oL 75 3 74 3,oB 76 .leq 3 (tK 73) (tK 75) 3 4,oM 77 76 4,⟨(some 78),(.load 47 (tK 2)),47,(some (some 77,true))⟩,⟨(some 79),(.fieldAddr 57 (tK 3) 2),0,(some (some 77,true))⟩,⟨(some 80),(.load 3 (tK 79)),3,(some (some 77,true))⟩,⟨(some 81),WC,0,(some (some 77,true))⟩,⟨(some 82),(.load 3 (tK 81)),3,(some (some 77,true))⟩,⟨(some 83),(.call ⟨(.value (.func 131)), #[(tK 78),(tK 80),(tK 82)], #[47,3,3]⟩),4,(some (some 77,true))⟩,oX 84 (.pick (tK 77) (tK 83) MI) 4,oA 4 84 4]) .ret) .skip)) (.seq (.ops [oF 85 57 3 2,oL 86 3 85 3,oF 87 57 3 3,oL 88 3 87 3,oB 89 .lss 3 (tK 86) (tK 88) 3 4,oA 4 89 4]) .ret))))
theorem xE:Try.f82.body.map (Bw lends)=some k82:=by kernel_rfl
theorem A9Q:CV Try.f82 2=true:=by kernel_rfl
theorem c82{a l:List D}{r:D×List D}(h:Cb Y.env k82 (GX Ad l.length [cg 4] r) (entry a l))(ha:a.length=2):Y.call 82 a l=some r:=
 Ag (Y:=Y) rfl Try.func82 (ha▸A9Q) xE h
def Ea(t1_Task:Int)(t1_Class:AX)(t1_U:Int)(t1_V:Int)(IE:Cz)(SK:Int)(s:St):Prop:=s.v 3=D.box [bk .i64 t1_Task,bm 3 (AV (bk .i64) t1_Class),bk .i64 t1_U,bk .i64 t1_V]∧s.v 5=D.mp 3 3 (Nn IE)∧s.v 15=bm 3 (AV (bk .i64) t1_Class)∧s.v 16=bk .i64 (t1_Class.length:Int)∧s.v 17=bk .i64 SK
def Fa(t1_Task:Int)(t1_Class:AX)(t1_U:Int)(t1_V:Int)(r:Cz)(ex:Ex)(s:St):Prop:=ex= .exit 0∧s.v 3=D.box [bk .i64 t1_Task,bm 3 (AV (bk .i64) t1_Class),bk .i64 t1_U,bk .i64 t1_V]∧s.v 5=D.mp 3 3 (Nn r)
theorem Oz(t1_Task:Int)(t1_Class:AX)(t1_U:Int)(t1_V:Int){v:Cz×Int}{s:St}{r:Cz}(h:Gv t1_Task t1_Class t1_U t1_V v=some r)(hM:Ea t1_Task t1_Class t1_U t1_V v.1 v.2 s):Cb Y.env fO (Fa t1_Task t1_Class t1_U t1_V r) s:=by
 unfold Gv at h;refine DK (c:=Ud) (fun v=>EZ t1_Task t1_Class t1_U t1_V v.1 v.2) (fun v s=>Ea t1_Task t1_Class t1_U t1_V v.1 v.2 s) (Fa t1_Task t1_Class t1_U t1_V) ?_ h hM;clear h hM s v r;intro v s o hM h;obtain⟨IE,SK⟩:=v;dsimp only at h hM;unfold EZ at h;unfold Ea at hM;obtain⟨m0,m1,m2,m3,m4⟩:=hM;unfold Ud;by_cases e2:SK<(t1_Class.length:Int)
 ·rw [if_pos e2]at h;obtain⟨e3,h⟩:=Cq h
  obtain rfl:=Option.some.inj h
  simp (maxDischargeDepth:=9) only [↓AQ,AR,Au,↓reduceIte,bo,bp,br,bt,bw,bx,bO,b0,b3,b4,b5,b6,b7,b8,b9,ca,cb,m0,m1,m2,m3,m4,e2,e3.1,e3.2,Ea,Fa,EA,EB,EC]<;>(repeat' apply A7)<;>first|rfl|exact⟨_,rfl⟩|exact⟨_,_,rfl⟩|simp [AV,AB]
 ·rw [if_neg e2]at h
  obtain rfl:=Option.some.inj h
  simp (maxDischargeDepth:=9) only [↓AQ,AR,Au,↓reduceIte,bo,bp,br,bt,bw,bx,bO,b0,b3,b4,b5,b6,b7,b8,b9,ca,cb,m0,m1,m2,m3,m4,e2,Ea,Fa,EA,EB,EC]<;>(repeat' apply A7)<;>first|rfl|exact⟨_,rfl⟩|exact⟨_,_,rfl⟩|simp [AV,AB]
theorem RD(AA:BN)(AL:AX)(AC:AX)(t1_Task:Int)(t1_Class:AX)(t1_U:Int)(t1_V:Int){r:Bool}(h:Jc AA AL AC t1_Task t1_Class t1_U t1_V=some r):Y.call 82 [cj [bm 123 (AV (fun x=>bm 125 (BG .i64 .i64 x)) AA),bm 3 (AV (bk .i64) AL),bm 3 (AV (bk .i64) AC)],cj [bk .i64 t1_Task,bm 3 (AV (bk .i64) t1_Class),bk .i64 t1_U,bk .i64 t1_V]] []=some (cd r,[]):=by
 refine c82 ?_ rfl;unfold k82;unfold Jc at h;by_cases e1:t1_Task=1
 ·rw [if_pos e1]at h;obtain⟨Ap,hl3,h⟩:=BS h;try dsimp only at h
  simp (maxDischargeDepth:=9) only [↓AQ,AR,Au,↓reduceIte,bo,bp,br,bt,bw,bx,bO,b0,b3,b4,b5,b6,b7,b8,b9,ca,cb,decide_eq_true e1];refine CQ (Oz t1_Task t1_Class t1_U t1_V hl3 ?_) ?_
  ·simp (maxDischargeDepth:=9) only [↓AQ,AR,Au,↓reduceIte,bo,bp,br,bt,bw,bx,bO,b0,b3,b4,b5,b6,b7,b8,b9,ca,cb,decide_eq_true e1,Ea]<;>(repeat' apply A7)<;>first|rfl|exact⟨_,rfl⟩|exact⟨_,_,rfl⟩|simp [AV,AB]
  ·intro ex3 s3 hX3;unfold Fa at hX3;obtain⟨rfl,n3_0,n3_1⟩:=hX3;by_cases e4:(Ap.any fun p=>p.2==1)=true
   ·rw [if_pos e4]at h
    obtain rfl:=Option.some.inj h
    simp (maxDischargeDepth:=9) only [↓AQ,AR,Au,↓reduceIte,bo,bp,br,bt,bw,bx,bO,b0,b3,b4,b5,b6,b7,b8,b9,ca,cb,decide_eq_true e1,n3_0,n3_1,e4]<;>(repeat' apply A7)<;>first|rfl|exact⟨_,rfl⟩|exact⟨_,_,rfl⟩|simp [AV,AB]
   ·rw [if_neg e4]at h;have e4f:(Ap.any fun p=>p.2==1)=false:=Gw.mpr e4;by_cases e5:t1_U=0
    ·rw [if_pos e5]at h
     obtain rfl:=Option.some.inj h
     simp (maxDischargeDepth:=9) only [↓AQ,AR,Au,↓reduceIte,bo,bp,br,bt,bw,bx,bO,b0,b3,b4,b5,b6,b7,b8,b9,ca,cb,decide_eq_true e1,n3_0,n3_1,e4f,decide_eq_true e5]<;>(repeat' apply A7)<;>first|rfl|exact⟨_,rfl⟩|exact⟨_,_,rfl⟩|simp [AV,AB]
    ·rw [if_neg e5]at h
     obtain rfl:=Option.some.inj h
     simp (maxDischargeDepth:=9) only [↓AQ,AR,Au,↓reduceIte,bo,bp,br,bt,bw,bx,bO,b0,b3,b4,b5,b6,b7,b8,b9,ca,cb,decide_eq_true e1,n3_0,n3_1,e4f,e5]<;>(repeat' apply A7)<;>first|rfl|exact⟨_,rfl⟩|exact⟨_,_,rfl⟩|simp [AV,AB]
 ·rw [if_neg e1]at h;obtain⟨jX,hl2,h⟩:=BS h;try dsimp only at h
  have c2:=En AA AL AC t1_U hl2;by_cases e3:jX=true
  ·rw [if_pos e3]at h;obtain⟨jY,hl4,h⟩:=BS h;try dsimp only at h
   have c4:=En AA AL AC t1_V hl4;by_cases e5:jY=true
   ·rw [if_pos e5]at h;obtain⟨e6,h⟩:=Cq h;obtain⟨e7,h⟩:=Cq h;by_cases e8:(t1_Class.getD t1_U.toNat bl)=(t1_Class.getD t1_V.toNat bl)
    ·rw [if_pos e8]at h;by_cases e9:t1_Task=2
     ·rw [if_pos e9]at h;by_cases e10:t1_U≤t1_V
      ·rw [if_pos e10]at h;obtain⟨A4W,hl11,h⟩:=BS h;try dsimp only at h
       have c11:=O1 AA AL AC t1_U t1_V hl11
       obtain rfl:=Option.some.inj h
       simp (maxDischargeDepth:=9) only [↓AQ,AR,Au,↓reduceIte,bo,bp,br,bt,bw,bx,bO,b0,b3,b4,b5,b6,b7,b8,b9,ca,cb,e1,c2,e3,c4,e5,e6.1,e6.2,e7.1,e7.2,decide_eq_true e8,decide_eq_true e9,e10,c11]<;>(repeat' apply A7)<;>first|rfl|exact⟨_,rfl⟩|exact⟨_,_,rfl⟩|simp [AV,AB]
      ·rw [if_neg e10]at h
       obtain rfl:=Option.some.inj h
       simp (maxDischargeDepth:=9) only [↓AQ,AR,Au,↓reduceIte,bo,bp,br,bt,bw,bx,bO,b0,b3,b4,b5,b6,b7,b8,b9,ca,cb,e1,c2,e3,c4,e5,e6.1,e6.2,e7.1,e7.2,decide_eq_true e8,decide_eq_true e9,e10]<;>(repeat' apply A7)<;>first|rfl|exact⟨_,rfl⟩|exact⟨_,_,rfl⟩|simp [AV,AB]
     ·rw [if_neg e9]at h
      obtain rfl:=Option.some.inj h
      simp (maxDischargeDepth:=9) only [↓AQ,AR,Au,↓reduceIte,bo,bp,br,bt,bw,bx,bO,b0,b3,b4,b5,b6,b7,b8,b9,ca,cb,e1,c2,e3,c4,e5,e6.1,e6.2,e7.1,e7.2,decide_eq_true e8,e9]<;>(repeat' apply A7)<;>first|rfl|exact⟨_,rfl⟩|exact⟨_,_,rfl⟩|simp [AV,AB]
    ·rw [if_neg e8]at h
     obtain rfl:=Option.some.inj h
     simp (maxDischargeDepth:=9) only [↓AQ,AR,Au,↓reduceIte,bo,bp,br,bt,bw,bx,bO,b0,b3,b4,b5,b6,b7,b8,b9,ca,cb,e1,c2,e3,c4,e5,e6.1,e6.2,e7.1,e7.2,e8]<;>(repeat' apply A7)<;>first|rfl|exact⟨_,rfl⟩|exact⟨_,_,rfl⟩|simp [AV,AB]
   ·rw [if_neg e5]at h;have e5f:jY=false:=Gw.mpr e5
    obtain rfl:=Option.some.inj h
    simp (maxDischargeDepth:=9) only [↓AQ,AR,Au,↓reduceIte,bo,bp,br,bt,bw,bx,bO,b0,b3,b4,b5,b6,b7,b8,b9,ca,cb,e1,c2,e3,c4,e5f]<;>(repeat' apply A7)<;>first|rfl|exact⟨_,rfl⟩|exact⟨_,_,rfl⟩|simp [AV,AB]
  ·rw [if_neg e3]at h;have e3f:jX=false:=Gw.mpr e3
   obtain rfl:=Option.some.inj h
   simp (maxDischargeDepth:=9) only [↓AQ,AR,Au,↓reduceIte,bo,bp,br,bt,bw,bx,bO,b0,b3,b4,b5,b6,b7,b8,b9,ca,cb,e1,c2,e3f]<;>(repeat' apply A7)<;>first|rfl|exact⟨_,rfl⟩|exact⟨_,_,rfl⟩|simp [AV,AB]
def Fb(Af:BN)(BD:AX)(AY:AX)(r_Task:Int)(r_Class:AX)(r_U:Int)(r_V:Int):Option (Bool×Bool):= ck (Cg Af)<| ck (BD.length<1099511627776)<| ck (AY.length<1099511627776)<| if(Ee Af BD AY)=true then (NN r_Task).bind fun Y7=> if Y7=true then (FY Af BD AY r_Class).bind fun ND=> if ND=true then (Jc Af BD AY r_Task r_Class r_U r_V).bind fun Y6=> some (Y6,true) else some (false,true) else some (false,true) else some (false,false)
def k39:SC:= .seq (.ops [oX 2 (.box 47 (tK 0)) 0,oX 3 (.box 57 (tK 1)) 0,oX 4 BU 4,oX 5 BU 4]) (.seq (.seq (.ops [oL 6 47 2 47,oC 7 67 [(tK 6)] [47] 4,oX 8 (.unOp .not 4 (tK 7)) 4]) (.cond (tK 8) (.seq (.ops [oX 4 BU 4,oX 5 BU 4]) .ret) .skip)) (.seq (.ops [oF 9 57 3 0,oL 10 3 9 3,oC 11 68 [(tK 10)] [3] 4,oM 12 11 4,⟨(some 13),(.load 47 (tK 2)),47,(some (some 12,true))⟩,⟨(some 14),(.fieldAddr 57 (tK 3) 1),0,(some (some 12,true))⟩,⟨(some 15),(.load 26 (tK 14)),26,(some (some 12,true))⟩,⟨(some 16),(.call ⟨(.value (.func 84)), #[(tK 13),(tK 15)], #[47,26]⟩),4,(some (some 12,true))⟩,oX 17 (.pick (tK 12) (tK 16) MI) 4,oM 18 17 4,⟨(some 19),(.load 47 (tK 2)),47,(some (some 18,true))⟩,⟨(some 20),(.load 57 (tK 3)),57,(some (some 18,true))⟩,⟨(some 21),(.call ⟨(.value (.func 82)), #[(tK 19),(tK 20)], #[47,57]⟩),4,(some (some 18,true))⟩,oX 22 (.pick (tK 18) (tK 21) MI) 4,oA 4 22 4,oX 5 (.assign Dz) 4]) .ret))
theorem xF:Try.f39.body.map (Bw lends)=some k39:=by kernel_rfl
theorem A9S:CV Try.f39 2=true:=by kernel_rfl
theorem c39{a l:List D}{r:D×List D}(h:Cb Y.env k39 (GX Ad l.length [cg 4,cg 5] r) (entry a l))(ha:a.length=2):Y.call 39 a l=some r:=
 Ag (Y:=Y) rfl Try.func39 (ha▸A9S) xF h
theorem Lg(Af:BN)(BD:AX)(AY:AX)(r_Task:Int)(r_Class:AX)(r_U:Int)(r_V:Int){r:Bool×Bool}(h:Fb Af BD AY r_Task r_Class r_U r_V=some r):Y.call 39 [cj [bm 123 (AV (fun x=>bm 125 (BG .i64 .i64 x)) Af),bm 3 (AV (bk .i64) BD),bm 3 (AV (bk .i64) AY)],cj [bk .i64 r_Task,bm 3 (AV (bk .i64) r_Class),bk .i64 r_U,bk .i64 r_V]] []=some (D.tup [cd r.1,cd r.2],[]):=by
 refine c39 ?_ rfl;unfold k39;unfold Fb at h;obtain⟨e1,h⟩:=Cq h;obtain⟨e2,h⟩:=Cq h;obtain⟨e3,h⟩:=Cq h;have c4:=R4 Af BD AY e1 e2 e3;by_cases e5:(Ee Af BD AY)=true
 ·rw [if_pos e5]at h;obtain⟨Y7,hl6,h⟩:=BS h;try dsimp only at h
  have c6:=SI r_Task hl6;by_cases e7:Y7=true
  ·rw [if_pos e7]at h;obtain⟨ND,hl8,h⟩:=BS h;try dsimp only at h
   have c8:=Le Af BD AY r_Class hl8;by_cases e9:ND=true
   ·rw [if_pos e9]at h;obtain⟨Y6,hl10,h⟩:=BS h;try dsimp only at h
    have c10:=RD Af BD AY r_Task r_Class r_U r_V hl10
    obtain rfl:=Option.some.inj h
    simp (maxDischargeDepth:=9) only [↓AQ,AR,Au,↓reduceIte,bo,bp,br,bt,bw,bx,bO,b0,b3,b4,b5,b6,b7,b8,b9,ca,cb,e1,e2,e3,c4,e5,c6,e7,c8,e9,c10]<;>(repeat' apply A7)<;>first|rfl|exact⟨_,rfl⟩|exact⟨_,_,rfl⟩|simp [AV,AB]
   ·rw [if_neg e9]at h;have e9f:ND=false:=Gw.mpr e9
    obtain rfl:=Option.some.inj h
    simp (maxDischargeDepth:=9) only [↓AQ,AR,Au,↓reduceIte,bo,bp,br,bt,bw,bx,bO,b0,b3,b4,b5,b6,b7,b8,b9,ca,cb,e1,e2,e3,c4,e5,c6,e7,c8,e9f]<;>(repeat' apply A7)<;>first|rfl|exact⟨_,rfl⟩|exact⟨_,_,rfl⟩|simp [AV,AB]
  ·rw [if_neg e7]at h;have e7f:Y7=false:=Gw.mpr e7
   obtain rfl:=Option.some.inj h
   simp (maxDischargeDepth:=9) only [↓AQ,AR,Au,↓reduceIte,bo,bp,br,bt,bw,bx,bO,b0,b3,b4,b5,b6,b7,b8,b9,ca,cb,e1,e2,e3,c4,e5,c6,e7f]<;>(repeat' apply A7)<;>first|rfl|exact⟨_,rfl⟩|exact⟨_,_,rfl⟩|simp [AV,AB]
 ·rw [if_neg e5]at h;have e5f:(Ee Af BD AY)=false:=Gw.mpr e5
  obtain rfl:=Option.some.inj h
  simp (maxDischargeDepth:=9) only [↓AQ,AR,Au,↓reduceIte,bo,bp,br,bt,bw,bx,bO,b0,b3,b4,b5,b6,b7,b8,b9,ca,cb,e1,e2,e3,c4,e5f]<;>(repeat' apply A7)<;>first|rfl|exact⟨_,rfl⟩|exact⟨_,_,rfl⟩|simp [AV,AB]
def FE(l:AX)(out:Int)(Gf:Int):Option ((Int×Int)⊕(Int)):= if Gf<(l.length:Int)then ck (0≤Gf∧Gf.toNat<l.length)<| ck (0≤Gf)<| ck (Gf.toNat≤l.length)<| ck (((l.take Gf.toNat).drop 0).length<1099511627776)<| if(((l.take Gf.toNat).drop 0).contains (l.getD Gf.toNat bl))=true then some (cf (out,ce.wrap (Gf+1))) else ck (0≤ce.wrap (Gf+1))<| ck ((ce.wrap (Gf+1)).toNat≤l.length)<| ck (((l.take l.length).drop ((ce.wrap (Gf+1)).toNat)).length<1099511627776)<| if(((l.take l.length).drop ((ce.wrap (Gf+1)).toNat)).contains (l.getD Gf.toNat bl))=true then some (cf (out,ce.wrap (Gf+1))) else if out<0 then some (cf ((l.getD Gf.toNat bl),ce.wrap (Gf+1))) else if(l.getD Gf.toNat bl)<out then some (cf ((l.getD Gf.toNat bl),ce.wrap (Gf+1))) else some (cf (out,ce.wrap (Gf+1))) else some (cc out)
def Hu(l:AX)(v:Int×Int):Option (Int):=Jf (fun v=>FE l v.1 v.2) v
def LF(l:AX):Option (Int):= (Hu l ((-1),0)).bind fun Ap=> some Ap
def RF:SC:= .seq (.ops [oB 9 .lss 3 (tK 8) (tK 7) 3 0]) (.seq (.cond (tK 9) .skip (.exit 0)) (.seq (.block 1 (.seq (.ops [oM 10 8 3,oI 11 26 6 8,oL 12 3 11 3,oA 4 10 3,oA 5 12 3]) (.seq (.ops [oM 13 0 26,oM 14 4 3,oX 15 (.slice 26 (tK 13) none (some (tK 14)) none) 900001,oM 16 5 3,oC 17 89 [(tK 15),(tK 16)] [26,3] 4,oX 18 (.unOp .not 4 (tK 17)) 4,oM 19 18 4,⟨(some 20),(.move (tK 0)),26,(some (some 19,true))⟩,⟨(some 21),(.move (tK 4)),3,(some (some 19,true))⟩,⟨(some 22),(.binOp .add 3 (tK 21) (iK 1) 3),3,(some (some 19,true))⟩,⟨(some 23),(.slice 26 (tK 20) (some (tK 22)) none none),900001,(some (some 19,true))⟩,⟨(some 24),(.move (tK 5)),3,(some (some 19,true))⟩,⟨(some 25),(.call ⟨(.value (.func 89)), #[(tK 23),(tK 24)], #[26,3]⟩),4,(some (some 19,true))⟩,⟨(some 26),(.unOp .not 4 (tK 25)),4,(some (some 19,true))⟩,oX 27 (.pick (tK 19) (tK 26) MI) 4,oM 28 27 4,⟨(some 29),(.move (tK 3)),3,(some (some 28,true))⟩,⟨(some 30),(.binOp .lss 3 (tK 29) (iK 0) 3),4,(some (some 28,true))⟩,⟨(some 31),(.move (tK 30)),4,(some (some 28,true))⟩,⟨(some 32),(.move (tK 5)),3,(some (some 31,false))⟩,⟨(some 33),(.move (tK 3)),3,(some (some 31,false))⟩,⟨(some 34),(.binOp .lss 3 (tK 32) (tK 33) 3),4,(some (some 31,false))⟩,
 ⟨(some 35),(.pick (tK 31) Dz (tK 34)),4,(some (some 28,true))⟩,oX 36 (.pick (tK 28) (tK 35) MI) 4]) (.cond (tK 36) (.ops [oM 37 5 3,oA 3 37 3]) .skip)))) (.ops [oB 38 .add 3 (tK 8) (iK 1) 3 3,oM 8 38 3])))
def Ym:SC:= .loop RF
def xG:SC:= .seq (.ops [oX 2 (.assign (iK 0)) 3]) (.seq (.ops [oX 3 N7 3]) (.seq (.seq (.ops [oM 6 0 26,oN 7 6 26,oX 8 (.move (iK 0)) 3]) (.block 0 Ym)) (.seq (.ops [oM 39 3 3,oA 2 39 3]) .ret)))
theorem jZ:Try.f108.body.map (Bw lends)=some xG:=by kernel_rfl
theorem A4X:CV Try.f108 1=true:=by kernel_rfl
theorem A9T{a l:List D}{r:D×List D}(h:Cb Y.env xG (GX Ad l.length [cg 2] r) (entry a l))(ha:a.length=1):Y.call 108 a l=some r:=
 Ag (Y:=Y) rfl Try.func108 (ha▸A4X) jZ h
def Cc(l:AX)(out:Int)(Gf:Int)(s:St):Prop:=s.v 0=bm 3 (AV (bk .i64) l)∧s.v 3=bk .i64 out∧s.v 6=bm 3 (AV (bk .i64) l)∧s.v 7=bk .i64 (l.length:Int)∧s.v 8=bk .i64 Gf
def Cy(l:AX)(r:Int)(ex:Ex)(s:St):Prop:=ex= .exit 0∧s.v 3=bk .i64 r
theorem RG(l:AX){v:Int×Int}{s:St}{r:Int}(h:Hu l v=some r)(hM:Cc l v.1 v.2 s):Cb Y.env Ym (Cy l r) s:=by
 unfold Hu at h;refine DK (c:=RF) (fun v=>FE l v.1 v.2) (fun v s=>Cc l v.1 v.2 s) (Cy l) ?_ h hM;clear h hM s v r;intro v s o hM h;obtain⟨out,Gf⟩:=v;dsimp only at h hM;unfold FE at h;unfold Cc at hM;obtain⟨m0,m1,m2,m3,m4⟩:=hM;unfold RF;by_cases e1:Gf<(l.length:Int)
 ·rw [if_pos e1]at h;obtain⟨e2,h⟩:=Cq h;obtain⟨e3,h⟩:=Cq h;obtain⟨e4,h⟩:=Cq h;obtain⟨e5,h⟩:=Cq h;have c6:=Jy ((l.take Gf.toNat).drop 0) (l.getD Gf.toNat bl) e5;by_cases e7:(((l.take Gf.toNat).drop 0).contains (l.getD Gf.toNat bl))=true
  ·rw [if_pos e7]at h
   obtain rfl:=Option.some.inj h
   simp (maxDischargeDepth:=9) only [↓AQ,AR,Au,↓reduceIte,bo,bp,br,bt,bw,bx,bO,b0,b3,b4,b5,b6,b7,b8,b9,ca,cb,m0,m1,m2,m3,m4,e1,e2.1,e2.2,e3,e4,e5,c6,e7,Cc,Cy,EA,EB,EC]<;>(repeat' apply A7)<;>first|rfl|exact⟨_,rfl⟩|exact⟨_,_,rfl⟩|simp [AV,AB]
  ·rw [if_neg e7]at h;have e7f:(((l.take Gf.toNat).drop 0).contains (l.getD Gf.toNat bl))=false:=Gw.mpr e7;obtain⟨e8,h⟩:=Cq h;obtain⟨e9,h⟩:=Cq h;obtain⟨e10,h⟩:=Cq h;have c11:=Jy ((l.take l.length).drop ((ce.wrap (Gf+1)).toNat)) (l.getD Gf.toNat bl) e10;by_cases e12:(((l.take l.length).drop ((ce.wrap (Gf+1)).toNat)).contains (l.getD Gf.toNat bl))=true
   ·rw [if_pos e12]at h
    obtain rfl:=Option.some.inj h
    simp (maxDischargeDepth:=9) only [↓AQ,AR,Au,↓reduceIte,bo,bp,br,bt,bw,bx,bO,b0,b3,b4,b5,b6,b7,b8,b9,ca,cb,m0,m1,m2,m3,m4,e1,e2.1,e2.2,e3,e4,e5,c6,e7f,e8,e9,e10,c11,e12,Cc,Cy,EA,EB,EC]<;>(repeat' apply A7)<;>first|rfl|exact⟨_,rfl⟩|exact⟨_,_,rfl⟩|simp [AV,AB]
   ·rw [if_neg e12]at h;have e12f:(((l.take l.length).drop ((ce.wrap (Gf+1)).toNat)).contains (l.getD Gf.toNat bl))=false:=Gw.mpr e12;by_cases e13:out<0
    ·rw [if_pos e13]at h
     obtain rfl:=Option.some.inj h
     simp (maxDischargeDepth:=9) only [↓AQ,AR,Au,↓reduceIte,bo,bp,br,bt,bw,bx,bO,b0,b3,b4,b5,b6,b7,b8,b9,ca,cb,m0,m1,m2,m3,m4,e1,e2.1,e2.2,e3,e4,e5,c6,e7f,e8,e9,e10,c11,e12f,e13,Cc,Cy,EA,EB,EC]<;>(repeat' apply A7)<;>first|rfl|exact⟨_,rfl⟩|exact⟨_,_,rfl⟩|simp [AV,AB]
    ·rw [if_neg e13]at h;by_cases e14:(l.getD Gf.toNat bl)<out
     ·rw [if_pos e14]at h
      obtain rfl:=Option.some.inj h
      simp (maxDischargeDepth:=9) only [↓AQ,AR,Au,↓reduceIte,bo,bp,br,bt,bw,bx,bO,b0,b3,b4,b5,b6,b7,b8,b9,ca,cb,m0,m1,m2,m3,m4,e1,e2.1,e2.2,e3,e4,e5,c6,e7f,e8,e9,e10,c11,e12f,e13,e14,Cc,Cy,EA,EB,EC]<;>(repeat' apply A7)<;>first|rfl|exact⟨_,rfl⟩|exact⟨_,_,rfl⟩|simp [AV,AB]
     ·rw [if_neg e14]at h
      obtain rfl:=Option.some.inj h
      simp (maxDischargeDepth:=9) only [↓AQ,AR,Au,↓reduceIte,bo,bp,br,bt,bw,bx,bO,b0,b3,b4,b5,b6,b7,b8,b9,ca,cb,m0,m1,m2,m3,m4,e1,e2.1,e2.2,e3,e4,e5,c6,e7f,e8,e9,e10,c11,e12f,e13,e14,Cc,Cy,EA,EB,EC]<;>(repeat' apply A7)<;>first|rfl|exact⟨_,rfl⟩|exact⟨_,_,rfl⟩|simp [AV,AB]
 ·rw [if_neg e1]at h
  obtain rfl:=Option.some.inj h
  simp (maxDischargeDepth:=9) only [↓AQ,AR,Au,↓reduceIte,bo,bp,br,bt,bw,bx,bO,b0,b3,b4,b5,b6,b7,b8,b9,ca,cb,m0,m1,m2,m3,m4,e1,Cc,Cy,EA,EB,EC]<;>(repeat' apply A7)<;>first|rfl|exact⟨_,rfl⟩|exact⟨_,_,rfl⟩|simp [AV,AB]
theorem SL(l:AX){r:Int}(h:LF l=some r):Y.call 108 [bm 3 (AV (bk .i64) l)] []=some (bk .i64 r,[]):=by
 refine A9T ?_ rfl;unfold xG;unfold LF at h;obtain⟨Ap,hl2,h⟩:=BS h;try dsimp only at h
 simp (maxDischargeDepth:=9) only [↓AQ,AR,Au,↓reduceIte,bo,bp,br,bt,bw,bx,bO,b0,b3,b4,b5,b6,b7,b8,b9,ca,cb];refine CQ (RG l hl2 ?_) ?_
 ·simp (maxDischargeDepth:=9) only [↓AQ,AR,Au,↓reduceIte,bo,bp,br,bt,bw,bx,bO,b0,b3,b4,b5,b6,b7,b8,b9,ca,cb,Cc]<;>(repeat' apply A7)<;>first|rfl|exact⟨_,rfl⟩|exact⟨_,_,rfl⟩|simp [AV,AB]
 ·intro ex2 s2 hX2;unfold Cy at hX2;obtain⟨rfl,n2_0⟩:=hX2
  obtain rfl:=Option.some.inj h
  simp (maxDischargeDepth:=9) only [↓AQ,AR,Au,↓reduceIte,bo,bp,br,bt,bw,bx,bO,b0,b3,b4,b5,b6,b7,b8,b9,ca,cb,n2_0]<;>(repeat' apply A7)<;>first|rfl|exact⟨_,rfl⟩|exact⟨_,_,rfl⟩|simp [AV,AB]
def NP(task:Int):Option (Bool):= some (Eo task (1:Int) (3:Int))
def k61:SC:= .seq (.ops [oX 2 BU 4]) (.seq (.ops [oM 3 0 3,oC 4 92 [(tK 3),(iK 1),(iK 3)] [3,3,3] 4,oA 2 4 4]) .ret)
theorem xH:Try.f61.body.map (Bw lends)=some k61:=by kernel_rfl
theorem A9V:CV Try.f61 1=true:=by kernel_rfl
theorem c61{a l:List D}{r:D×List D}(h:Cb Y.env k61 (GX Ad l.length [cg 2] r) (entry a l))(ha:a.length=1):Y.call 61 a l=some r:=
 Ag (Y:=Y) rfl Try.func61 (ha▸A9V) xH h
theorem SN(task:Int){r:Bool}(h:NP task=some r):Y.call 61 [bk .i64 task] []=some (cd r,[]):=by
 refine c61 ?_ rfl;unfold k61;unfold NP at h;have c1:=Gb task (1:Int) (3:Int)
 obtain rfl:=Option.some.inj h
 simp (maxDischargeDepth:=9) only [↓AQ,AR,Au,↓reduceIte,bo,bp,br,bt,bw,bx,bO,b0,b3,b4,b5,b6,b7,b8,b9,ca,cb,c1]<;>(repeat' apply A7)<;>first|rfl|exact⟨_,rfl⟩|exact⟨_,_,rfl⟩|simp [AV,AB]
def Jd(AA:BN)(AL:AX)(AC:AX)(t1_Task:Int)(t1_Class:AX)(t1_U:Int)(t1_V:Int):Option (Bool):= (FZ AA AL AC t1_Class).bind fun r8_=> if r8_=true then if t1_Task=1 then (LF t1_Class).bind fun xI=> if xI<0 then if t1_U=0 then some (decide (t1_V=0)) else some false else some false else (NP t1_Task).bind fun ja=> if ja=true then if(Eo t1_V (0:Int) (ce.wrap ((AA.length:Int)-1)))=true then if(Eo t1_U (0:Int) t1_V)=true then ck (0≤t1_U∧t1_U.toNat<t1_Class.length)<| ck (0≤t1_V∧t1_V.toNat<t1_Class.length)<| if(t1_Class.getD t1_U.toNat bl)=(t1_Class.getD t1_V.toNat bl)then if t1_Task=3 then some (decide (t1_U<t1_V)) else (LD AA AL AC t1_U).bind fun jb=> ck (jb.length<1099511627776)<| some (jb.contains t1_V) else some false else some false else some false else some false else some false
abbrev FI:List Nat:=[27,28,29,30,31,32,33,34,35,36,37,38,39,40,41,42,43,44,45,46,47,48,49,50,51,52,53,54,55,56,57,58,59,60,61,62,63]
abbrev WT:List Nat:=[72,73,74,75,76,77,78,4,78,78]
def k83:SC:= .seq (.ops [oX 2 (.box 47 (tK 0)) 0,oX 3 (.box 57 (tK 1)) 0,oX 4 BU 4]) (.seq (.seq (.ops [oL 5 47 2 47,oF 6 57 3 1,oL 7 26 6 26,oC 8 132 [(tK 5),(tK 7)] [47,26] 4,oX 9 (.unOp .not 4 (tK 8)) 4]) (.cond (tK 9) (.seq (.ops [oX 4 BU 4]) .ret) .skip)) (.seq (.seq (.ops [oF 10 57 3 0,oL 11 3 10 3,oB 12 .eql 3 (tK 11) (iK 1) 3 4]) (.cond (tK 12) (.seq (.ops [oF 13 57 3 1,oL 14 26 13 26,oC 15 108 [(tK 14)] [26] 3,oB 16 .lss 3 (tK 15) (iK 0) 3 4,oM 17 16 4,⟨(some 18),(.fieldAddr 57 (tK 3) 2),0,(some (some 17,true))⟩,⟨(some 19),(.load 3 (tK 18)),3,(some (some 17,true))⟩,⟨(some 20),(.binOp .eql 3 (tK 19) (iK 0) 3),4,(some (some 17,true))⟩,oX 21 (.pick (tK 17) (tK 20) MI) 4,oM 22 21 4,⟨(some 23),WC,0,(some (some 22,true))⟩,⟨(some 24),(.load 3 (tK 23)),3,(some (some 22,true))⟩,⟨(some 25),(.binOp .eql 3 (tK 24) (iK 0) 3),4,(some (some 22,true))⟩,oX 26 (.pick (tK 22) (tK 25) MI) 4,oA 4 26 4]) .ret) .skip)) (.seq (.seq (.draws [(⟨[27,3,3],FI,[27]⟩,oF 27 57 3 0),(⟨[28,27,3],FI,[28]⟩,oL 28 3 27 3),(⟨[29,28,3],FI,[29]⟩,oC 29 61 [(tK 28)] [3] 4),(⟨[30,29,29],FI,[30]⟩,oX 30 (.unOp .not 4 (tK 29)) 4),(⟨[31,30,30],FI,[31]⟩,oM 31 30 4),(⟨[32,3,3,31],FI,[32]⟩,⟨(some 32),WC,0,(some (some 31,false))⟩),
 (⟨[33,32,3,31],FI,[33]⟩,⟨(some 33),(.load 3 (tK 32)),3,(some (some 31,false))⟩),(⟨[34,2,2,31],FI,[34]⟩,⟨(some 34),(.fieldAddr 47 (tK 2) 0),0,(some (some 31,false))⟩),(⟨[35,34,2,31],FI,[35]⟩,⟨(some 35),(.load 45 (tK 34)),45,(some (some 31,false))⟩),(⟨[36,35,2,31],FI,[36]⟩,⟨(some 36),(.call ⟨(.builtin .len), #[(tK 35)], #[45]⟩),3,(some (some 31,false))⟩),(⟨[37,36,36,31],FI,[37]⟩,⟨(some 37),(.binOp .sub 3 (tK 36) (iK 1) 3),3,(some (some 31,false))⟩),(⟨[38,33,37,3,37,31],FI,[38]⟩,⟨(some 38),(.call ⟨(.value (.func 92)), #[(tK 33),(iK 0),(tK 37)], #[3,3,3]⟩),4,(some (some 31,false))⟩),(⟨[39,38,38,31],FI,[39]⟩,⟨(some 39),(.unOp .not 4 (tK 38)),4,(some (some 31,false))⟩),(⟨[40,31,39,30,39],FI,[40]⟩,oX 40 (.pick (tK 31) Dz (tK 39)) 4),(⟨[41,40,40],FI,[41]⟩,oM 41 40 4),(⟨[42,3,3,41],FI,[42]⟩,⟨(some 42),(.fieldAddr 57 (tK 3) 2),0,(some (some 41,false))⟩),(⟨[43,42,3,41],FI,[43]⟩,⟨(some 43),(.load 3 (tK 42)),3,(some (some 41,false))⟩),(⟨[44,3,3,41],FI,[44]⟩,⟨(some 44),WC,0,(some (some 41,false))⟩),(⟨[45,44,3,41],FI,[45]⟩,⟨(some 45),(.load 3 (tK 44)),3,(some (some 41,false))⟩),(⟨[46,43,45,3,3,41],FI,[46]⟩,⟨(some 46),(.call ⟨(.value (.func 92)), #[(tK 43),(iK 0),(tK 45)], #[3,3,3]⟩),4,(some (some 41,false))⟩),
 (⟨[47,46,46,41],FI,[47]⟩,⟨(some 47),(.unOp .not 4 (tK 46)),4,(some (some 41,false))⟩),(⟨[48,41,47,40,47],FI,[48]⟩,oX 48 (.pick (tK 41) Dz (tK 47)) 4),(⟨[49,48,48],FI,[49]⟩,oM 49 48 4),(⟨[50,3,3,49],FI,[50]⟩,⟨(some 50),(.fieldAddr 57 (tK 3) 1),0,(some (some 49,false))⟩),(⟨[51,50,3,49],FI,[51]⟩,⟨(some 51),(.load 26 (tK 50)),26,(some (some 49,false))⟩),(⟨[52,3,3,49],FI,[52]⟩,⟨(some 52),(.fieldAddr 57 (tK 3) 2),0,(some (some 49,false))⟩),(⟨[53,52,3,49],FI,[53]⟩,⟨(some 53),(.load 3 (tK 52)),3,(some (some 49,false))⟩),(⟨[54,51,53,3,3,49],FI,[54]⟩,⟨(some 54),(.indexAddr 26 (tK 51) (tK 53)),0,(some (some 49,false))⟩),(⟨[55,54,3,49],FI,[55]⟩,⟨(some 55),(.load 3 (tK 54)),3,(some (some 49,false))⟩),(⟨[56,3,3,49],FI,[56]⟩,⟨(some 56),(.fieldAddr 57 (tK 3) 1),0,(some (some 49,false))⟩),(⟨[57,56,3,49],FI,[57]⟩,⟨(some 57),(.load 26 (tK 56)),26,(some (some 49,false))⟩),(⟨[58,3,3,49],FI,[58]⟩,⟨(some 58),WC,0,(some (some 49,false))⟩),(⟨[59,58,3,49],FI,[59]⟩,⟨(some 59),(.load 3 (tK 58)),3,(some (some 49,false))⟩),(⟨[60,57,59,3,3,49],FI,[60]⟩,⟨(some 60),(.indexAddr 26 (tK 57) (tK 59)),0,(some (some 49,false))⟩),(⟨[61,60,3,49],FI,[61]⟩,⟨(some 61),(.load 3 (tK 60)),3,(some (some 49,false))⟩),
 (⟨[62,55,61,3,3,49],FI,[62]⟩,⟨(some 62),(.binOp .neq 3 (tK 55) (tK 61) 3),4,(some (some 49,false))⟩),(⟨[63,49,62,48,62],FI,[63]⟩,oX 63 (.pick (tK 49) Dz (tK 62)) 4)]) (.cond (tK 63) (.seq (.ops [oX 4 BU 4]) .ret) .skip)) (.seq (.seq (.ops [oF 64 57 3 0,oL 65 3 64 3,oB 66 .eql 3 (tK 65) (iK 3) 3 4]) (.cond (tK 66) (.seq (.ops [oF 67 57 3 2,oL 68 3 67 3,oF 69 57 3 3,oL 70 3 69 3,oB 71 .lss 3 (tK 68) (tK 70) 3 4,oA 4 71 4]) .ret) .skip)) (.seq (.draws [(⟨[72,2,2],WT,[72]⟩,oL 72 47 2 47),(⟨[73,3,3],WT,[73]⟩,oF 73 57 3 2),(⟨[74,73,3],WT,[74]⟩,oL 74 3 73 3),(⟨[75,72,74,2,3],WT,[75]⟩,oC 75 129 [(tK 72),(tK 74)] [47,3] 26),(⟨[76,3,3],WT,[76]⟩,oF 76 57 3 3),(⟨[77,76,3],WT,[77]⟩,oL 77 3 76 3),(⟨[78,75,77,75,3],WT,[78]⟩,oC 78 89 [(tK 75),(tK 77)] [26,3] 4),(⟨[4,78,78],WT,[4,78,78]⟩,oA 4 78 4)]) .ret)))))
theorem xJ:Try.f83.body.map (Bw lends)=some k83:=by kernel_rfl
theorem A9X:CV Try.f83 2=true:=by kernel_rfl
theorem c83{a l:List D}{r:D×List D}(h:Cb Y.env k83 (GX Ad l.length [cg 4] r) (entry a l))(ha:a.length=2):Y.call 83 a l=some r:=
 Ag (Y:=Y) rfl Try.func83 (ha▸A9X) xJ h
theorem RH(AA:BN)(AL:AX)(AC:AX)(t1_Task:Int)(t1_Class:AX)(t1_U:Int)(t1_V:Int){r:Bool}(h:Jd AA AL AC t1_Task t1_Class t1_U t1_V=some r):Y.call 83 [cj [bm 123 (AV (fun x=>bm 125 (BG .i64 .i64 x)) AA),bm 3 (AV (bk .i64) AL),bm 3 (AV (bk .i64) AC)],cj [bk .i64 t1_Task,bm 3 (AV (bk .i64) t1_Class),bk .i64 t1_U,bk .i64 t1_V]] []=some (cd r,[]):=by
 refine c83 ?_ rfl;unfold k83;unfold Jd at h;obtain⟨r8_,hl1,h⟩:=BS h;try dsimp only at h
 have c1:=Lf AA AL AC t1_Class hl1;by_cases e2:r8_=true
 ·rw [if_pos e2]at h;by_cases e3:t1_Task=1
  ·rw [if_pos e3]at h;obtain⟨xI,hl4,h⟩:=BS h;try dsimp only at h
   have c4:=SL t1_Class hl4;by_cases e5:xI<0
   ·rw [if_pos e5]at h;by_cases e6:t1_U=0
    ·rw [if_pos e6]at h
     obtain rfl:=Option.some.inj h
     simp (maxDischargeDepth:=9) only [↓AQ,AR,Au,↓reduceIte,bo,bp,br,bt,bw,bx,bO,b0,b3,b4,b5,b6,b7,b8,b9,ca,cb,c1,e2,decide_eq_true e3,c4,e5,decide_eq_true e6]<;>(repeat' apply A7)<;>first|rfl|exact⟨_,rfl⟩|exact⟨_,_,rfl⟩|simp [AV,AB]
    ·rw [if_neg e6]at h
     obtain rfl:=Option.some.inj h
     simp (maxDischargeDepth:=9) only [↓AQ,AR,Au,↓reduceIte,bo,bp,br,bt,bw,bx,bO,b0,b3,b4,b5,b6,b7,b8,b9,ca,cb,c1,e2,decide_eq_true e3,c4,e5,e6]<;>(repeat' apply A7)<;>first|rfl|exact⟨_,rfl⟩|exact⟨_,_,rfl⟩|simp [AV,AB]
   ·rw [if_neg e5]at h
    obtain rfl:=Option.some.inj h
    simp (maxDischargeDepth:=9) only [↓AQ,AR,Au,↓reduceIte,bo,bp,br,bt,bw,bx,bO,b0,b3,b4,b5,b6,b7,b8,b9,ca,cb,c1,e2,decide_eq_true e3,c4,e5]<;>(repeat' apply A7)<;>first|rfl|exact⟨_,rfl⟩|exact⟨_,_,rfl⟩|simp [AV,AB]
  ·rw [if_neg e3]at h;obtain⟨ja,hl4,h⟩:=BS h;try dsimp only at h
   have c4:=SN t1_Task hl4;by_cases e5:ja=true
   ·rw [if_pos e5]at h;have c6:=Gb t1_V (0:Int) (ce.wrap ((AA.length:Int)-1));by_cases e7:(Eo t1_V (0:Int) (ce.wrap ((AA.length:Int)-1)))=true
    ·rw [if_pos e7]at h;have c8:=Gb t1_U (0:Int) t1_V;by_cases e9:(Eo t1_U (0:Int) t1_V)=true
     ·rw [if_pos e9]at h;obtain⟨e10,h⟩:=Cq h;obtain⟨e11,h⟩:=Cq h;by_cases e12:(t1_Class.getD t1_U.toNat bl)=(t1_Class.getD t1_V.toNat bl)
      ·rw [if_pos e12]at h;by_cases e13:t1_Task=3
       ·rw [if_pos e13]at h
        obtain rfl:=Option.some.inj h
        simp (maxDischargeDepth:=9) only [↓AQ,AR,Au,↓reduceIte,bo,bp,br,bt,bw,bx,bO,b0,b3,b4,b5,b6,b7,b8,b9,ca,cb,c1,e2,e3,c4,e5,c6,e7,c8,e9,e10.1,e10.2,e11.1,e11.2,decide_eq_true e12,decide_eq_true e13]<;>(repeat' apply A7)<;>first|rfl|exact⟨_,rfl⟩|exact⟨_,_,rfl⟩|simp [AV,AB]
       ·rw [if_neg e13]at h;obtain⟨jb,hl14,h⟩:=BS h;try dsimp only at h
        have RO:=SH AA AL AC t1_U hl14;obtain⟨e15,h⟩:=Cq h;have Rx:=Jy jb t1_V e15
        obtain rfl:=Option.some.inj h
        simp (maxDischargeDepth:=9) only [↓AQ,AR,Au,↓reduceIte,bo,bp,br,bt,bw,bx,bO,b0,b3,b4,b5,b6,b7,b8,b9,ca,cb,c1,e2,e3,c4,e5,c6,e7,c8,e9,e10.1,e10.2,e11.1,e11.2,decide_eq_true e12,e13,RO,e15,Rx]<;>(repeat' apply A7)<;>first|rfl|exact⟨_,rfl⟩|exact⟨_,_,rfl⟩|simp [AV,AB]
      ·rw [if_neg e12]at h
       obtain rfl:=Option.some.inj h
       simp (maxDischargeDepth:=9) only [↓AQ,AR,Au,↓reduceIte,bo,bp,br,bt,bw,bx,bO,b0,b3,b4,b5,b6,b7,b8,b9,ca,cb,c1,e2,e3,c4,e5,c6,e7,c8,e9,e10.1,e10.2,e11.1,e11.2,e12]<;>(repeat' apply A7)<;>first|rfl|exact⟨_,rfl⟩|exact⟨_,_,rfl⟩|simp [AV,AB]
     ·rw [if_neg e9]at h;have e9f:(Eo t1_U (0:Int) t1_V)=false:=Gw.mpr e9
      obtain rfl:=Option.some.inj h
      simp (maxDischargeDepth:=9) only [↓AQ,AR,Au,↓reduceIte,bo,bp,br,bt,bw,bx,bO,b0,b3,b4,b5,b6,b7,b8,b9,ca,cb,c1,e2,e3,c4,e5,c6,e7,c8,e9f]<;>(repeat' apply A7)<;>first|rfl|exact⟨_,rfl⟩|exact⟨_,_,rfl⟩|simp [AV,AB]
    ·rw [if_neg e7]at h;have e7f:(Eo t1_V (0:Int) (ce.wrap ((AA.length:Int)-1)))=false:=Gw.mpr e7
     obtain rfl:=Option.some.inj h
     simp (maxDischargeDepth:=9) only [↓AQ,AR,Au,↓reduceIte,bo,bp,br,bt,bw,bx,bO,b0,b3,b4,b5,b6,b7,b8,b9,ca,cb,c1,e2,e3,c4,e5,c6,e7f]<;>(repeat' apply A7)<;>first|rfl|exact⟨_,rfl⟩|exact⟨_,_,rfl⟩|simp [AV,AB]
   ·rw [if_neg e5]at h;have e5f:ja=false:=Gw.mpr e5
    obtain rfl:=Option.some.inj h
    simp (maxDischargeDepth:=9) only [↓AQ,AR,Au,↓reduceIte,bo,bp,br,bt,bw,bx,bO,b0,b3,b4,b5,b6,b7,b8,b9,ca,cb,c1,e2,e3,c4,e5f]<;>(repeat' apply A7)<;>first|rfl|exact⟨_,rfl⟩|exact⟨_,_,rfl⟩|simp [AV,AB]
 ·rw [if_neg e2]at h;have e2f:r8_=false:=Gw.mpr e2
  obtain rfl:=Option.some.inj h
  simp (maxDischargeDepth:=9) only [↓AQ,AR,Au,↓reduceIte,bo,bp,br,bt,bw,bx,bO,b0,b3,b4,b5,b6,b7,b8,b9,ca,cb,c1,e2f]<;>(repeat' apply A7)<;>first|rfl|exact⟨_,rfl⟩|exact⟨_,_,rfl⟩|simp [AV,AB]
def Fe(Af:BN)(BD:AX)(AY:AX)(r_Task:Int)(r_Class:AX)(r_U:Int)(r_V:Int):Option (Bool×Bool):= ck (Cg Af)<| ck (BD.length<1099511627776)<| ck (AY.length<1099511627776)<| if(Ee Af BD AY)=true then (Jd Af BD AY r_Task r_Class r_U r_V).bind fun Y7=> some (Y7,true) else some (false,false)
def k37:SC:= .seq (.ops [oX 2 (.box 47 (tK 0)) 0,oX 3 (.box 57 (tK 1)) 0,oX 4 BU 4,oX 5 BU 4]) (.seq (.seq (.ops [oL 6 47 2 47,oC 7 60 [(tK 6)] [47] 4,oX 8 (.unOp .not 4 (tK 7)) 4]) (.cond (tK 8) (.seq (.ops [oX 4 BU 4,oX 5 BU 4]) .ret) .skip)) (.seq (.ops [oL 9 47 2 47,oL 10 57 3 57,oC 11 83 [(tK 9),(tK 10)] [47,57] 4,oA 4 11 4,oX 5 (.assign Dz) 4]) .ret))
theorem xK:Try.f37.body.map (Bw lends)=some k37:=by kernel_rfl
theorem A9Z:CV Try.f37 2=true:=by kernel_rfl
theorem c37{a l:List D}{r:D×List D}(h:Cb Y.env k37 (GX Ad l.length [cg 4,cg 5] r) (entry a l))(ha:a.length=2):Y.call 37 a l=some r:=
 Ag (Y:=Y) rfl Try.func37 (ha▸A9Z) xK h
theorem Lh(Af:BN)(BD:AX)(AY:AX)(r_Task:Int)(r_Class:AX)(r_U:Int)(r_V:Int){r:Bool×Bool}(h:Fe Af BD AY r_Task r_Class r_U r_V=some r):Y.call 37 [cj [bm 123 (AV (fun x=>bm 125 (BG .i64 .i64 x)) Af),bm 3 (AV (bk .i64) BD),bm 3 (AV (bk .i64) AY)],cj [bk .i64 r_Task,bm 3 (AV (bk .i64) r_Class),bk .i64 r_U,bk .i64 r_V]] []=some (D.tup [cd r.1,cd r.2],[]):=by
 refine c37 ?_ rfl;unfold k37;unfold Fe at h;obtain⟨e1,h⟩:=Cq h;obtain⟨e2,h⟩:=Cq h;obtain⟨e3,h⟩:=Cq h;have c4:=WS Af BD AY e1 e2 e3;by_cases e5:(Ee Af BD AY)=true
 ·rw [if_pos e5]at h;obtain⟨Y7,hl6,h⟩:=BS h;try dsimp only at h
  have c6:=RH Af BD AY r_Task r_Class r_U r_V hl6
  obtain rfl:=Option.some.inj h
  simp (maxDischargeDepth:=9) only [↓AQ,AR,Au,↓reduceIte,bo,bp,br,bt,bw,bx,bO,b0,b3,b4,b5,b6,b7,b8,b9,ca,cb,e1,e2,e3,c4,e5,c6]<;>(repeat' apply A7)<;>first|rfl|exact⟨_,rfl⟩|exact⟨_,_,rfl⟩|simp [AV,AB]
 ·rw [if_neg e5]at h;have e5f:(Ee Af BD AY)=false:=Gw.mpr e5
  obtain rfl:=Option.some.inj h
  simp (maxDischargeDepth:=9) only [↓AQ,AR,Au,↓reduceIte,bo,bp,br,bt,bw,bx,bO,b0,b3,b4,b5,b6,b7,b8,b9,ca,cb,e1,e2,e3,c4,e5f]<;>(repeat' apply A7)<;>first|rfl|exact⟨_,rfl⟩|exact⟨_,_,rfl⟩|simp [AV,AB]

def JC(a_Task:Int)(a_Class:AX)(a_U:Int)(a_V:Int)(left:Int):Option (Int):= ck (a_Class.length<9223372036854775808)<| ck (0≤left∧left≤1048576)<| if(Et left a_Class.length)<0 then some (-1) else some (Et left a_Class.length)
def k36:SC:= .seq (.ops [oX 2 (.box 62 (tK 0)) 0,oX 4 (.assign (iK 0)) 3]) (.seq (.ops [oF 5 62 2 1,oL 6 26 5 26,oM 7 1 3,oC 8 59 [(tK 6),(tK 7)] [26,3] 3,oA 1 8 3]) (.seq (.seq (.ops [oM 9 1 3,oB 10 .lss 3 (tK 9) (iK 0) 3 4]) (.cond (tK 10) (.seq (.ops [oX 4 N7 3]) .ret) .skip)) (.seq (.ops [oM 11 1 3,oA 4 11 3]) .ret)))
theorem xL:Try.f36.body.map (Bw lends)=some k36:=by kernel_rfl
theorem A9b:CV Try.f36 2=true:=by kernel_rfl
theorem c36{a l:List D}{r:D×List D}(h:Cb Y.env k36 (GX Ad l.length [cg 4] r) (entry a l))(ha:a.length=2):Y.call 36 a l=some r:=
 Ag (Y:=Y) rfl Try.func36 (ha▸A9b) xL h
theorem O3(a_Task:Int)(a_Class:AX)(a_U:Int)(a_V:Int)(left:Int){r:Int}(h:JC a_Task a_Class a_U a_V left=some r):Y.call 36 [cj [bk .i64 a_Task,bm 3 (AV (bk .i64) a_Class),bk .i64 a_U,bk .i64 a_V],bk .i64 left] []=some (bk .i64 r,[]):=by
 refine c36 ?_ rfl;unfold k36;unfold JC at h;obtain⟨e1,h⟩:=Cq h;obtain⟨e2,h⟩:=Cq h;have c3:=Kz a_Class left e1 e2;by_cases e4:(Et left a_Class.length)<0
 ·rw [if_pos e4]at h
  obtain rfl:=Option.some.inj h
  simp (maxDischargeDepth:=9) only [↓AQ,AR,Au,↓reduceIte,bo,bp,br,bt,bw,bx,bO,b0,b3,b4,b5,b6,b7,b8,b9,ca,cb,e1,e2.1,e2.2,c3,e4]<;>(repeat' apply A7)<;>first|rfl|exact⟨_,rfl⟩|exact⟨_,_,rfl⟩|simp [AV,AB]
 ·rw [if_neg e4]at h
  obtain rfl:=Option.some.inj h
  simp (maxDischargeDepth:=9) only [↓AQ,AR,Au,↓reduceIte,bo,bp,br,bt,bw,bx,bO,b0,b3,b4,b5,b6,b7,b8,b9,ca,cb,e1,e2.1,e2.2,c3,e4]<;>(repeat' apply A7)<;>first|rfl|exact⟨_,rfl⟩|exact⟨_,_,rfl⟩|simp [AV,AB]
def JD(a_Task:Int)(a_Class:AX)(a_U:Int)(a_V:Int):Option (Int×AX×Int×Int):= ck (a_Class.length<1099511627776)<| some (a_Task,a_Class,a_U,a_V)
def k38:SC:= .seq (.ops [oX 1 (.box 62 (tK 0)) 0,oX 2 (.alloc 57) 0]) (.seq (.ops [oX 3 (.alloc 57) 0]) (.seq (.ops [oF 4 62 1 0,oL 5 3 4 3,oF 6 57 3 0,oS 3 6 5]) (.seq (.ops [oF 7 62 1 1,oL 8 26 7 26,oC 9 66 [(tK 8)] [26] 26,oF 10 57 3 1,oS 26 10 9]) (.seq (.ops [oF 11 62 1 2,oL 12 3 11 3,oF 13 57 3 2,oS 3 13 12]) (.seq (.ops [oF 14 62 1 3,oL 15 3 14 3,oF 16 57 3 3,oS 3 16 15]) (.seq (.ops [oL 17 57 3 57,oS 57 2 17]) .ret))))))
theorem xM:Try.f38.body.map (Bw lends)=some k38:=by kernel_rfl
theorem A9d:CV Try.f38 1=true:=by kernel_rfl
theorem c38{a l:List D}{r:D×List D}(h:Cb Y.env k38 (GX Ad l.length [ResultVar.cell 2 57] r) (entry a l))(ha:a.length=1):Y.call 38 a l=some r:=
 Ag (Y:=Y) rfl Try.func38 (ha▸A9d) xM h
theorem O4(a_Task:Int)(a_Class:AX)(a_U:Int)(a_V:Int){r:Int×AX×Int×Int}(h:JD a_Task a_Class a_U a_V=some r):Y.call 38 [cj [bk .i64 a_Task,bm 3 (AV (bk .i64) a_Class),bk .i64 a_U,bk .i64 a_V]] []=some (cj [bk .i64 r.1,D.own 3 (AV (bk .i64) r.2.1),bk .i64 r.2.2.1,bk .i64 r.2.2.2],[]):=by
 refine c38 ?_ rfl;unfold k38;unfold JD at h;obtain⟨e1,h⟩:=Cq h;have c2:=Kw a_Class e1
 obtain rfl:=Option.some.inj h
 simp (maxDischargeDepth:=9) only [↓AQ,AR,Au,↓reduceIte,bo,bp,br,bt,bw,bx,bO,b0,b3,b4,b5,b6,b7,b8,b9,ca,cb,e1,c2]<;>(repeat' apply A7)<;>first|rfl|exact⟨_,rfl⟩|exact⟨_,_,rfl⟩|simp [AV,AB]
def Ff(a_Task:Int)(a_Class:AX)(a_U:Int)(a_V:Int)(b_Task:Int)(b_Class:AX)(b_U:Int)(b_V:Int):Option (Bool):= if a_Task=b_Task then ck (a_Class.length<1099511627776)<| if(decide (a_Class=b_Class))=true then if a_U=b_U then if a_V=b_V then some true else some false else some false else some false else some false
def k33:SC:= .seq (.ops [oX 2 (.box 57 (tK 0)) 0,oX 3 (.box 57 (tK 1)) 0,oX 4 BU 4]) (.seq (.seq (.ops [oF 5 57 2 0,oL 6 3 5 3,oF 7 57 3 0,oL 8 3 7 3,oB 9 .neq 3 (tK 6) (tK 8) 3 4]) (.cond (tK 9) (.seq (.ops [oX 4 BU 4]) .ret) .skip)) (.seq (.seq (.ops [oF 10 57 2 1,oL 11 26 10 26,oF 12 57 3 1,oL 13 26 12 26,oC 14 14 [(tK 11),(tK 13)] [26,26] 4,oX 15 (.unOp .not 4 (tK 14)) 4]) (.cond (tK 15) (.seq (.ops [oX 4 BU 4]) .ret) .skip)) (.seq (.seq (.ops [oF 16 57 2 2,oL 17 3 16 3,oF 18 57 3 2,oL 19 3 18 3,oB 20 .neq 3 (tK 17) (tK 19) 3 4]) (.cond (tK 20) (.seq (.ops [oX 4 BU 4]) .ret) .skip)) (.seq (.seq (.ops [oF 21 57 2 3,oL 22 3 21 3,oF 23 57 3 3,oL 24 3 23 3,oB 25 .neq 3 (tK 22) (tK 24) 3 4]) (.cond (tK 25) (.seq (.ops [oX 4 BU 4]) .ret) .skip)) (.seq (.ops [oX 4 (.assign Dz) 4]) .ret)))))
theorem xN:Try.f33.body.map (Bw lends)=some k33:=by kernel_rfl
theorem A9f:CV Try.f33 2=true:=by kernel_rfl
theorem c33{a l:List D}{r:D×List D}(h:Cb Y.env k33 (GX Ad l.length [cg 4] r) (entry a l))(ha:a.length=2):Y.call 33 a l=some r:=
 Ag (Y:=Y) rfl Try.func33 (ha▸A9f) xN h
theorem G9(a_Task:Int)(a_Class:AX)(a_U:Int)(a_V:Int)(b_Task:Int)(b_Class:AX)(b_U:Int)(b_V:Int){r:Bool}(h:Ff a_Task a_Class a_U a_V b_Task b_Class b_U b_V=some r):Y.call 33 [cj [bk .i64 a_Task,bm 3 (AV (bk .i64) a_Class),bk .i64 a_U,bk .i64 a_V],cj [bk .i64 b_Task,bm 3 (AV (bk .i64) b_Class),bk .i64 b_U,bk .i64 b_V]] []=some (cd r,[]):=by
 refine c33 ?_ rfl;unfold k33;unfold Ff at h;by_cases e1:a_Task=b_Task
 ·rw [if_pos e1]at h;obtain⟨e2,h⟩:=Cq h;have c3:=Ky a_Class b_Class e2;by_cases e4:(decide (a_Class=b_Class))=true
  ·rw [if_pos e4]at h;by_cases e5:a_U=b_U
   ·rw [if_pos e5]at h;by_cases e6:a_V=b_V
    ·rw [if_pos e6]at h
     obtain rfl:=Option.some.inj h
     simp (maxDischargeDepth:=9) only [↓AQ,AR,Au,↓reduceIte,bo,bp,br,bt,bw,bx,bO,b0,b3,b4,b5,b6,b7,b8,b9,ca,cb,decide_eq_true e1,e2,c3,e4,decide_eq_true e5,decide_eq_true e6]<;>(repeat' apply A7)<;>first|rfl|exact⟨_,rfl⟩|exact⟨_,_,rfl⟩|simp [AV,AB]
    ·rw [if_neg e6]at h
     obtain rfl:=Option.some.inj h
     simp (maxDischargeDepth:=9) only [↓AQ,AR,Au,↓reduceIte,bo,bp,br,bt,bw,bx,bO,b0,b3,b4,b5,b6,b7,b8,b9,ca,cb,decide_eq_true e1,e2,c3,e4,decide_eq_true e5,e6]<;>(repeat' apply A7)<;>first|rfl|exact⟨_,rfl⟩|exact⟨_,_,rfl⟩|simp [AV,AB]
   ·rw [if_neg e5]at h
    obtain rfl:=Option.some.inj h
    simp (maxDischargeDepth:=9) only [↓AQ,AR,Au,↓reduceIte,bo,bp,br,bt,bw,bx,bO,b0,b3,b4,b5,b6,b7,b8,b9,ca,cb,decide_eq_true e1,e2,c3,e4,e5]<;>(repeat' apply A7)<;>first|rfl|exact⟨_,rfl⟩|exact⟨_,_,rfl⟩|simp [AV,AB]
  ·rw [if_neg e4]at h;have e4f:(decide (a_Class=b_Class))=false:=Gw.mpr e4
   obtain rfl:=Option.some.inj h
   simp (maxDischargeDepth:=9) only [↓AQ,AR,Au,↓reduceIte,bo,bp,br,bt,bw,bx,bO,b0,b3,b4,b5,b6,b7,b8,b9,ca,cb,decide_eq_true e1,e2,c3,e4f]<;>(repeat' apply A7)<;>first|rfl|exact⟨_,rfl⟩|exact⟨_,_,rfl⟩|simp [AV,AB]
 ·rw [if_neg e1]at h
  obtain rfl:=Option.some.inj h
  simp (maxDischargeDepth:=9) only [↓AQ,AR,Au,↓reduceIte,bo,bp,br,bt,bw,bx,bO,b0,b3,b4,b5,b6,b7,b8,b9,ca,cb,e1]<;>(repeat' apply A7)<;>first|rfl|exact⟨_,rfl⟩|exact⟨_,_,rfl⟩|simp [AV,AB]
def Dr(Aw:BN)(BH:AX)(Aj:AX)(aR_Task:Int)(aR_Class:AX)(aR_U:Int)(aR_V:Int):Option (Bool):= ck (Lu Aw)<| ck (BH.length<9223372036854775808)<| ck (Aj.length<9223372036854775808)<| ck (0≤(1048576:Int)∧(1048576:Int)≤1048576)<| if(Ye (1048576:Int) Aw BH Aj)<0 then some true else (JC aR_Task aR_Class aR_U aR_V (Ye (1048576:Int) Aw BH Aj)).bind fun xO=> if xO<0 then some true else ck (Cg Aw)<| ck (BH.length<1099511627776)<| ck (Aj.length<1099511627776)<| (JD aR_Task aR_Class aR_U aR_V).bind fun BZ=> (Fe Aw BH Aj BZ.1 BZ.2.1 BZ.2.2.1 BZ.2.2.2).bind fun IC=> (Fb Aw BH Aj BZ.1 BZ.2.1 BZ.2.2.1 BZ.2.2.2).bind fun SQ=> if SQ.1=true then if IC.1=true then if SQ.2=true then if IC.2=true then if(Hm Aw BH Aj Aw BH Aj)=true then (Ff BZ.1 BZ.2.1 BZ.2.2.1 BZ.2.2.2 BZ.1 BZ.2.1 BZ.2.2.1 BZ.2.2.2).bind fun K5=> if K5=true then some true else some false else some false else some false else if IC.2=true then some false else if(Hm Aw BH Aj Aw BH Aj)=true then (Ff BZ.1 BZ.2.1 BZ.2.2.1 BZ.2.2.2 BZ.1 BZ.2.1 BZ.2.2.1 BZ.2.2.2).bind fun K5=> if K5=true then some true else some false else some false else some false else if IC.1=true then some false else if SQ.2=true then if IC.2=true then if(Hm Aw BH Aj Aw BH Aj)=true then
 (Ff BZ.1 BZ.2.1 BZ.2.2.1 BZ.2.2.2 BZ.1 BZ.2.1 BZ.2.2.1 BZ.2.2.2).bind fun K5=> if K5=true then some true else some false else some false else some false else if IC.2=true then some false else if(Hm Aw BH Aj Aw BH Aj)=true then (Ff BZ.1 BZ.2.1 BZ.2.2.1 BZ.2.2.2 BZ.1 BZ.2.1 BZ.2.2.1 BZ.2.2.2).bind fun K5=> if K5=true then some true else some false else some false
abbrev SS:List Nat:=[23,24,25,26,27,22,27,28,29,6,28,27,7,29]
def k9:SC:= .seq (.ops [oX 2 (.box 41 (tK 0)) 0,oX 3 (.box 62 (tK 1)) 0,oX 4 BU 4]) (.seq (.ops [oX 5 (.assign (iK 1048576)) 3]) (.seq (.ops [oL 12 41 2 41,oM 13 5 3,oC 14 21 [(tK 12),(tK 13)] [41,3] 3,oA 5 14 3]) (.seq (.seq (.ops [oM 15 5 3,oB 16 .lss 3 (tK 15) (iK 0) 3 4]) (.cond (tK 16) (.seq (.ops [oX 4 (.assign Dz) 4]) .ret) .skip)) (.seq (.ops [oL 17 62 3 62,oM 18 5 3,oC 19 36 [(tK 17),(tK 18)] [62,3] 3,oA 5 19 3]) (.seq (.seq (.ops [oM 20 5 3,oB 21 .lss 3 (tK 20) (iK 0) 3 4]) (.cond (tK 21) (.seq (.ops [oX 4 (.assign Dz) 4]) .ret) .skip)) (.seq (.draws [(⟨[23,2,2],SS,[23]⟩,oL 23 41 2 41),(⟨[24,23,2],SS,[24]⟩,oC 24 23 [(tK 23)] [41] 47),(⟨[25,3,3],SS,[25]⟩,oL 25 62 3 62),(⟨[26,25,3],SS,[26]⟩,oC 26 38 [(tK 25)] [62] 57),(⟨[27,24,26,24,26],SS,[27]⟩,oC 27 37 [(tK 24),(tK 26)] [47,57] 43),(⟨[22,27,27],SS,[22,27]⟩,oM 22 27 43),(⟨[28,22],SS,[28]⟩,oE 28 22 0 4),(⟨[29,22],SS,[29]⟩,oE 29 22 1 4),(⟨[6,28,27],SS,[6,28,27]⟩,oA 6 28 4),(⟨[7,29],SS,[7,29]⟩,oA 7 29 4)]) (.seq (.ops [oL 30 41 2 41,oC 31 23 [(tK 30)] [41] 47,oX 8 (.alloc 47) 0,oS 47 8 31]) (.seq (.ops [oL 32 62 3 62,oC 33 38 [(tK 32)] [62] 57,oX 9 (.alloc 57) 0,oS 57 9 33]) (.seq (.ops [oL 35 47 8 47,
 oL 36 57 9 57,oC 37 39 [(tK 35),(tK 36)] [47,57] 43,oM 34 37 43,oE 38 34 0 4,oE 39 34 1 4,oA 10 38 4,oA 11 39 4]) (.seq (.seq (.ops [oM 40 10 4,oM 41 6 4,oB 42 .neq 4 (tK 40) (tK 41) 4 4,oM 43 42 4,⟨(some 44),(.move (tK 11)),4,(some (some 43,false))⟩,⟨(some 45),(.move (tK 7)),4,(some (some 43,false))⟩,⟨(some 46),(.binOp .neq 4 (tK 44) (tK 45) 4),4,(some (some 43,false))⟩,oX 47 (.pick (tK 43) Dz (tK 46)) 4]) (.cond (tK 47) (.seq (.ops [oX 4 BU 4]) .ret) .skip)) (.seq (.seq (.draws [(⟨[48,8,8],[48,49,50,51,52],[48]⟩,oL 48 47 8 47),(⟨[49,2,2],[48,49,50,51,52],[49]⟩,oL 49 41 2 41),(⟨[50,49,2],[48,49,50,51,52],[50]⟩,oC 50 23 [(tK 49)] [41] 47),(⟨[51,48,50,8,50],[48,49,50,51,52],[51]⟩,oC 51 25 [(tK 48),(tK 50)] [47,47] 4),(⟨[52,51,51],[48,49,50,51,52],[52]⟩,oX 52 (.unOp .not 4 (tK 51)) 4)]) (.cond (tK 52) (.seq (.ops [oX 4 BU 4]) .ret) .skip)) (.seq (.seq (.draws [(⟨[53,9,9],[53,54,55,56,57],[53]⟩,oL 53 57 9 57),(⟨[54,3,3],[53,54,55,56,57],[54]⟩,oL 54 62 3 62),(⟨[55,54,3],[53,54,55,56,57],[55]⟩,oC 55 38 [(tK 54)] [62] 57),(⟨[56,53,55,9,55],[53,54,55,56,57],[56]⟩,oC 56 33 [(tK 53),(tK 55)] [57,57] 4),(⟨[57,56,56],[53,54,55,56,57],[57]⟩,oX 57 (.unOp .not 4 (tK 56)) 4)])
 (.cond (tK 57) (.seq (.ops [oX 4 BU 4]) .ret) .skip)) (.seq (.ops [oX 4 (.assign Dz) 4]) .ret)))))))))))))
theorem A4Y:Try.f9.body.map (Bw lends)=some k9:=by kernel_rfl
theorem ok9:CV Try.f9 2=true:=by kernel_rfl
theorem c9{a l:List D}{r:D×List D}(h:Cb Y.env k9 (GX Ad l.length [cg 4] r) (entry a l))(ha:a.length=2):Y.call 9 a l=some r:=
 Ag (Y:=Y) rfl Try.func9 (ha▸ok9) A4Y h
theorem Ii(Aw:BN)(BH:AX)(Aj:AX)(aR_Task:Int)(aR_Class:AX)(aR_U:Int)(aR_V:Int){r:Bool}(h:Dr Aw BH Aj aR_Task aR_Class aR_U aR_V=some r):Y.call 9 [cj [bm 121 (AV (fun x=>bm 159 (BG .i64 .i64 x)) Aw),bm 3 (AV (bk .i64) BH),bm 3 (AV (bk .i64) Aj)],cj [bk .i64 aR_Task,bm 3 (AV (bk .i64) aR_Class),bk .i64 aR_U,bk .i64 aR_V]] []=some (cd r,[]):=by
 refine c9 ?_ rfl;unfold k9;unfold Dr at h;obtain⟨e1,h⟩:=Cq h;obtain⟨e2,h⟩:=Cq h;obtain⟨e3,h⟩:=Cq h;obtain⟨e4,h⟩:=Cq h;have c5:=Qt Aw BH Aj (1048576:Int) e1 e2 e3 e4;by_cases e6:(Ye (1048576:Int) Aw BH Aj)<0
 ·rw [if_pos e6]at h
  obtain rfl:=Option.some.inj h
  simp (maxDischargeDepth:=9) only [↓AQ,AR,Au,↓reduceIte,bo,bp,br,bt,bw,bx,bO,b0,b3,b4,b5,b6,b7,b8,b9,ca,cb,e1,e2,e3,e4.1,e4.2,c5,e6]<;>(repeat' apply A7)<;>first|rfl|exact⟨_,rfl⟩|exact⟨_,_,rfl⟩|simp [AV,AB]
 ·rw [if_neg e6]at h;obtain⟨xO,hl7,h⟩:=BS h;try dsimp only at h
  have c7:=O3 aR_Task aR_Class aR_U aR_V (Ye (1048576:Int) Aw BH Aj) hl7;by_cases e8:xO<0
  ·rw [if_pos e8]at h
   obtain rfl:=Option.some.inj h
   simp (maxDischargeDepth:=9) only [↓AQ,AR,Au,↓reduceIte,bo,bp,br,bt,bw,bx,bO,b0,b3,b4,b5,b6,b7,b8,b9,ca,cb,e1,e2,e3,e4.1,e4.2,c5,e6,c7,e8]<;>(repeat' apply A7)<;>first|rfl|exact⟨_,rfl⟩|exact⟨_,_,rfl⟩|simp [AV,AB]
  ·rw [if_neg e8]at h;obtain⟨e9,h⟩:=Cq h;obtain⟨e10,h⟩:=Cq h;obtain⟨e11,h⟩:=Cq h;have UA:=ET Aw BH Aj e9 e10 e11;obtain⟨BZ,hl13,h⟩:=BS h;try dsimp only at h
   have c13:=O4 aR_Task aR_Class aR_U aR_V hl13;obtain⟨IC,hl14,h⟩:=BS h;try dsimp only at h
   have RO:=Lh Aw BH Aj BZ.1 BZ.2.1 BZ.2.2.1 BZ.2.2.2 hl14;have PH:=ET Aw BH Aj e9 e10 e11;obtain⟨SQ,hl16,h⟩:=BS h;try dsimp only at h
   have Rx:=Lg Aw BH Aj BZ.1 BZ.2.1 BZ.2.2.1 BZ.2.2.2 hl16;by_cases e17:SQ.1=true
   ·rw [if_pos e17]at h;by_cases e18:IC.1=true
    ·rw [if_pos e18]at h;by_cases e19:SQ.2=true
     ·rw [if_pos e19]at h;by_cases e20:IC.2=true
      ·rw [if_pos e20]at h;have WP:=ET Aw BH Aj e9 e10 e11;have c22:=Gu Aw BH Aj Aw BH Aj e9 e10 e11;by_cases e23:(Hm Aw BH Aj Aw BH Aj)=true
       ·rw [if_pos e23]at h;obtain⟨K5,hl24,h⟩:=BS h;try dsimp only at h
        have c24:=G9 BZ.1 BZ.2.1 BZ.2.2.1 BZ.2.2.2 BZ.1 BZ.2.1 BZ.2.2.1 BZ.2.2.2 hl24;by_cases e25:K5=true
        ·rw [if_pos e25]at h
         obtain rfl:=Option.some.inj h
         simp (maxDischargeDepth:=9) only [↓AQ,AR,Au,↓reduceIte,bo,bp,br,bt,bw,bx,bO,b0,b3,b4,b5,b6,b7,b8,b9,ca,cb,e1,e2,e3,e4.1,e4.2,c5,e6,c7,e8,e9,e10,e11,UA,c13,RO,PH,Rx,e17,e18,e19,e20,WP,c22,e23,c24,e25]<;>(repeat' apply A7)<;>first|rfl|exact⟨_,rfl⟩|exact⟨_,_,rfl⟩|simp [AV,AB]
        ·rw [if_neg e25]at h;have e25f:K5=false:=Gw.mpr e25
         obtain rfl:=Option.some.inj h
         simp (maxDischargeDepth:=9) only [↓AQ,AR,Au,↓reduceIte,bo,bp,br,bt,bw,bx,bO,b0,b3,b4,b5,b6,b7,b8,b9,ca,cb,e1,e2,e3,e4.1,e4.2,c5,e6,c7,e8,e9,e10,e11,UA,c13,RO,PH,Rx,e17,e18,e19,e20,WP,c22,e23,c24,e25f]<;>(repeat' apply A7)<;>first|rfl|exact⟨_,rfl⟩|exact⟨_,_,rfl⟩|simp [AV,AB]
       ·rw [if_neg e23]at h;have e23f:(Hm Aw BH Aj Aw BH Aj)=false:=Gw.mpr e23
        obtain rfl:=Option.some.inj h
        simp (maxDischargeDepth:=9) only [↓AQ,AR,Au,↓reduceIte,bo,bp,br,bt,bw,bx,bO,b0,b3,b4,b5,b6,b7,b8,b9,ca,cb,e1,e2,e3,e4.1,e4.2,c5,e6,c7,e8,e9,e10,e11,UA,c13,RO,PH,Rx,e17,e18,e19,e20,WP,c22,e23f]<;>(repeat' apply A7)<;>first|rfl|exact⟨_,rfl⟩|exact⟨_,_,rfl⟩|simp [AV,AB]
      ·rw [if_neg e20]at h;have e20f:IC.2=false:=Gw.mpr e20
       obtain rfl:=Option.some.inj h
       simp (maxDischargeDepth:=9) only [↓AQ,AR,Au,↓reduceIte,bo,bp,br,bt,bw,bx,bO,b0,b3,b4,b5,b6,b7,b8,b9,ca,cb,e1,e2,e3,e4.1,e4.2,c5,e6,c7,e8,e9,e10,e11,UA,c13,RO,PH,Rx,e17,e18,e19,e20f]<;>(repeat' apply A7)<;>first|rfl|exact⟨_,rfl⟩|exact⟨_,_,rfl⟩|simp [AV,AB]
     ·rw [if_neg e19]at h;have e19f:SQ.2=false:=Gw.mpr e19;by_cases e20:IC.2=true
      ·rw [if_pos e20]at h
       obtain rfl:=Option.some.inj h
       simp (maxDischargeDepth:=9) only [↓AQ,AR,Au,↓reduceIte,bo,bp,br,bt,bw,bx,bO,b0,b3,b4,b5,b6,b7,b8,b9,ca,cb,e1,e2,e3,e4.1,e4.2,c5,e6,c7,e8,e9,e10,e11,UA,c13,RO,PH,Rx,e17,e18,e19f,e20]<;>(repeat' apply A7)<;>first|rfl|exact⟨_,rfl⟩|exact⟨_,_,rfl⟩|simp [AV,AB]
      ·rw [if_neg e20]at h;have e20f:IC.2=false:=Gw.mpr e20;have WP:=ET Aw BH Aj e9 e10 e11;have c22:=Gu Aw BH Aj Aw BH Aj e9 e10 e11;by_cases e23:(Hm Aw BH Aj Aw BH Aj)=true
       ·rw [if_pos e23]at h;obtain⟨K5,hl24,h⟩:=BS h;try dsimp only at h
        have c24:=G9 BZ.1 BZ.2.1 BZ.2.2.1 BZ.2.2.2 BZ.1 BZ.2.1 BZ.2.2.1 BZ.2.2.2 hl24;by_cases e25:K5=true
        ·rw [if_pos e25]at h
         obtain rfl:=Option.some.inj h
         simp (maxDischargeDepth:=9) only [↓AQ,AR,Au,↓reduceIte,bo,bp,br,bt,bw,bx,bO,b0,b3,b4,b5,b6,b7,b8,b9,ca,cb,e1,e2,e3,e4.1,e4.2,c5,e6,c7,e8,e9,e10,e11,UA,c13,RO,PH,Rx,e17,e18,e19f,e20f,WP,c22,e23,c24,e25]<;>(repeat' apply A7)<;>first|rfl|exact⟨_,rfl⟩|exact⟨_,_,rfl⟩|simp [AV,AB]
        ·rw [if_neg e25]at h;have e25f:K5=false:=Gw.mpr e25
         obtain rfl:=Option.some.inj h
         simp (maxDischargeDepth:=9) only [↓AQ,AR,Au,↓reduceIte,bo,bp,br,bt,bw,bx,bO,b0,b3,b4,b5,b6,b7,b8,b9,ca,cb,e1,e2,e3,e4.1,e4.2,c5,e6,c7,e8,e9,e10,e11,UA,c13,RO,PH,Rx,e17,e18,e19f,e20f,WP,c22,e23,c24,e25f]<;>(repeat' apply A7)<;>first|rfl|exact⟨_,rfl⟩|exact⟨_,_,rfl⟩|simp [AV,AB]
       ·rw [if_neg e23]at h;have e23f:(Hm Aw BH Aj Aw BH Aj)=false:=Gw.mpr e23
        obtain rfl:=Option.some.inj h
        simp (maxDischargeDepth:=9) only [↓AQ,AR,Au,↓reduceIte,bo,bp,br,bt,bw,bx,bO,b0,b3,b4,b5,b6,b7,b8,b9,ca,cb,e1,e2,e3,e4.1,e4.2,c5,e6,c7,e8,e9,e10,e11,UA,c13,RO,PH,Rx,e17,e18,e19f,e20f,WP,c22,e23f]<;>(repeat' apply A7)<;>first|rfl|exact⟨_,rfl⟩|exact⟨_,_,rfl⟩|simp [AV,AB]
    ·rw [if_neg e18]at h;have e18f:IC.1=false:=Gw.mpr e18
     obtain rfl:=Option.some.inj h
     simp (maxDischargeDepth:=9) only [↓AQ,AR,Au,↓reduceIte,bo,bp,br,bt,bw,bx,bO,b0,b3,b4,b5,b6,b7,b8,b9,ca,cb,e1,e2,e3,e4.1,e4.2,c5,e6,c7,e8,e9,e10,e11,UA,c13,RO,PH,Rx,e17,e18f]<;>(repeat' apply A7)<;>first|rfl|exact⟨_,rfl⟩|exact⟨_,_,rfl⟩|simp [AV,AB]
   ·rw [if_neg e17]at h;have e17f:SQ.1=false:=Gw.mpr e17;by_cases e18:IC.1=true
    ·rw [if_pos e18]at h
     obtain rfl:=Option.some.inj h
     simp (maxDischargeDepth:=9) only [↓AQ,AR,Au,↓reduceIte,bo,bp,br,bt,bw,bx,bO,b0,b3,b4,b5,b6,b7,b8,b9,ca,cb,e1,e2,e3,e4.1,e4.2,c5,e6,c7,e8,e9,e10,e11,UA,c13,RO,PH,Rx,e17f,e18]<;>(repeat' apply A7)<;>first|rfl|exact⟨_,rfl⟩|exact⟨_,_,rfl⟩|simp [AV,AB]
    ·rw [if_neg e18]at h;have e18f:IC.1=false:=Gw.mpr e18;by_cases e19:SQ.2=true
     ·rw [if_pos e19]at h;by_cases e20:IC.2=true
      ·rw [if_pos e20]at h;have WP:=ET Aw BH Aj e9 e10 e11;have c22:=Gu Aw BH Aj Aw BH Aj e9 e10 e11;by_cases e23:(Hm Aw BH Aj Aw BH Aj)=true
       ·rw [if_pos e23]at h;obtain⟨K5,hl24,h⟩:=BS h;try dsimp only at h
        have c24:=G9 BZ.1 BZ.2.1 BZ.2.2.1 BZ.2.2.2 BZ.1 BZ.2.1 BZ.2.2.1 BZ.2.2.2 hl24;by_cases e25:K5=true
        ·rw [if_pos e25]at h
         obtain rfl:=Option.some.inj h
         simp (maxDischargeDepth:=9) only [↓AQ,AR,Au,↓reduceIte,bo,bp,br,bt,bw,bx,bO,b0,b3,b4,b5,b6,b7,b8,b9,ca,cb,e1,e2,e3,e4.1,e4.2,c5,e6,c7,e8,e9,e10,e11,UA,c13,RO,PH,Rx,e17f,e18f,e19,e20,WP,c22,e23,c24,e25]<;>(repeat' apply A7)<;>first|rfl|exact⟨_,rfl⟩|exact⟨_,_,rfl⟩|simp [AV,AB]
        ·rw [if_neg e25]at h;have e25f:K5=false:=Gw.mpr e25
         obtain rfl:=Option.some.inj h
         simp (maxDischargeDepth:=9) only [↓AQ,AR,Au,↓reduceIte,bo,bp,br,bt,bw,bx,bO,b0,b3,b4,b5,b6,b7,b8,b9,ca,cb,e1,e2,e3,e4.1,e4.2,c5,e6,c7,e8,e9,e10,e11,UA,c13,RO,PH,Rx,e17f,e18f,e19,e20,WP,c22,e23,c24,e25f]<;>(repeat' apply A7)<;>first|rfl|exact⟨_,rfl⟩|exact⟨_,_,rfl⟩|simp [AV,AB]
       ·rw [if_neg e23]at h;have e23f:(Hm Aw BH Aj Aw BH Aj)=false:=Gw.mpr e23
        obtain rfl:=Option.some.inj h
        simp (maxDischargeDepth:=9) only [↓AQ,AR,Au,↓reduceIte,bo,bp,br,bt,bw,bx,bO,b0,b3,b4,b5,b6,b7,b8,b9,ca,cb,e1,e2,e3,e4.1,e4.2,c5,e6,c7,e8,e9,e10,e11,UA,c13,RO,PH,Rx,e17f,e18f,e19,e20,WP,c22,e23f]<;>(repeat' apply A7)<;>first|rfl|exact⟨_,rfl⟩|exact⟨_,_,rfl⟩|simp [AV,AB]
      ·rw [if_neg e20]at h;have e20f:IC.2=false:=Gw.mpr e20
       obtain rfl:=Option.some.inj h
       simp (maxDischargeDepth:=9) only [↓AQ,AR,Au,↓reduceIte,bo,bp,br,bt,bw,bx,bO,b0,b3,b4,b5,b6,b7,b8,b9,ca,cb,e1,e2,e3,e4.1,e4.2,c5,e6,c7,e8,e9,e10,e11,UA,c13,RO,PH,Rx,e17f,e18f,e19,e20f]<;>(repeat' apply A7)<;>first|rfl|exact⟨_,rfl⟩|exact⟨_,_,rfl⟩|simp [AV,AB]
     ·rw [if_neg e19]at h;have e19f:SQ.2=false:=Gw.mpr e19;by_cases e20:IC.2=true
      ·rw [if_pos e20]at h
       obtain rfl:=Option.some.inj h
       simp (maxDischargeDepth:=9) only [↓AQ,AR,Au,↓reduceIte,bo,bp,br,bt,bw,bx,bO,b0,b3,b4,b5,b6,b7,b8,b9,ca,cb,e1,e2,e3,e4.1,e4.2,c5,e6,c7,e8,e9,e10,e11,UA,c13,RO,PH,Rx,e17f,e18f,e19f,e20]<;>(repeat' apply A7)<;>first|rfl|exact⟨_,rfl⟩|exact⟨_,_,rfl⟩|simp [AV,AB]
      ·rw [if_neg e20]at h;have e20f:IC.2=false:=Gw.mpr e20;have WP:=ET Aw BH Aj e9 e10 e11;have c22:=Gu Aw BH Aj Aw BH Aj e9 e10 e11;by_cases e23:(Hm Aw BH Aj Aw BH Aj)=true
       ·rw [if_pos e23]at h;obtain⟨K5,hl24,h⟩:=BS h;try dsimp only at h
        have c24:=G9 BZ.1 BZ.2.1 BZ.2.2.1 BZ.2.2.2 BZ.1 BZ.2.1 BZ.2.2.1 BZ.2.2.2 hl24;by_cases e25:K5=true
        ·rw [if_pos e25]at h
         obtain rfl:=Option.some.inj h
         simp (maxDischargeDepth:=9) only [↓AQ,AR,Au,↓reduceIte,bo,bp,br,bt,bw,bx,bO,b0,b3,b4,b5,b6,b7,b8,b9,ca,cb,e1,e2,e3,e4.1,e4.2,c5,e6,c7,e8,e9,e10,e11,UA,c13,RO,PH,Rx,e17f,e18f,e19f,e20f,WP,c22,e23,c24,e25]<;>(repeat' apply A7)<;>first|rfl|exact⟨_,rfl⟩|exact⟨_,_,rfl⟩|simp [AV,AB]
        ·rw [if_neg e25]at h;have e25f:K5=false:=Gw.mpr e25
         obtain rfl:=Option.some.inj h
         simp (maxDischargeDepth:=9) only [↓AQ,AR,Au,↓reduceIte,bo,bp,br,bt,bw,bx,bO,b0,b3,b4,b5,b6,b7,b8,b9,ca,cb,e1,e2,e3,e4.1,e4.2,c5,e6,c7,e8,e9,e10,e11,UA,c13,RO,PH,Rx,e17f,e18f,e19f,e20f,WP,c22,e23,c24,e25f]<;>(repeat' apply A7)<;>first|rfl|exact⟨_,rfl⟩|exact⟨_,_,rfl⟩|simp [AV,AB]
       ·rw [if_neg e23]at h;have e23f:(Hm Aw BH Aj Aw BH Aj)=false:=Gw.mpr e23
        obtain rfl:=Option.some.inj h
        simp (maxDischargeDepth:=9) only [↓AQ,AR,Au,↓reduceIte,bo,bp,br,bt,bw,bx,bO,b0,b3,b4,b5,b6,b7,b8,b9,ca,cb,e1,e2,e3,e4.1,e4.2,c5,e6,c7,e8,e9,e10,e11,UA,c13,RO,PH,Rx,e17f,e18f,e19f,e20f,WP,c22,e23f]<;>(repeat' apply A7)<;>first|rfl|exact⟨_,rfl⟩|exact⟨_,_,rfl⟩|simp [AV,AB]
def Bu(n:Nat)(P:Nat→Bool):Option Nat:=(an n).find? P
theorem Ue{n:Nat}{P:Nat→Bool}(h: ∀i,i<n→P i=false):Bu n P=none:=by
 unfold Bu;rw [cr];intro i hi;rw [h i (MR.1 hi)];decide
theorem RI{n m:Nat}{P:Nat→Bool}(hm:m<n)(h:P m=true)(h0: ∀i,i<m→P i=false):Bu n P=some m:=by
 unfold Bu;rw [List.find?_range_eq_some]
 exact⟨h,MR.2 hm,fun j hj=>by rw [h0 j hj];rfl⟩
theorem Ij{n m:Nat}{P:Nat→Bool}(h:Bu n P=some m):m<n∧P m=true:=by
 unfold Bu at h
 exact⟨MR.1 (List.mem_of_find?_eq_some h),List.find?_some h⟩
theorem fP{σ ρ:Type}(f:σ→Option (σ⊕ρ))(st:Nat→σ)(n:Nat)(P:Nat→Bool)(hit:Nat→ρ)(miss:ρ)
  (h: ∀i,i<n→f (st i)=if P i=true then some (.inr (hit i))else some (.inl (st (i+1))))(e:f (st n)=some (.inr miss)):
  Jf f (st 0)=some (match Bu n P with|some i=>hit i|none=>miss):=by
 by_cases hp: ∀i,i<n→(!P i)=true
 ·have h0: ∀i,i<n→P i=false:=fun i hi=>by simpa using hp i hi
  rw [Ue h0];exact GN f st n miss (fun i hi=>by rw [h i hi,h0 i hi,if_neg (by decide)]) e
 ·obtain⟨m,hm,hpm,h0⟩:=MF hp;have hpm':P m=true:=by simpa using hpm
  have h0': ∀i,i<m→P i=false:=fun i hi=>by simpa using h0 i hi
  rw [RI hm hpm' h0'];exact GN f st m (hit m) (fun i hi=>by rw [h i (by omega),h0' i hi,if_neg (by decide)]) (by rw [h m hm,if_pos hpm'])
theorem RJ{n:Nat}{P:Nat→Bool}:(Bu n P).isSome=true↔ ∃i,i<n∧P i=true:=by
 constructor
 ·intro h
  cases hq:Bu n P with
  |none=>rw [hq]at h;cases h
  |some m=>exact⟨m,Ij hq⟩
 ·rintro⟨i,hi,hp⟩
  cases hq:Bu n P with
  |some m=>rfl
  |none=>
   unfold Bu at hq;rw [cr]at hq;exact absurd hp (hq i (MR.2 hi))
theorem LG{E:BN}{ids ins:AX}(h:Ee E ids ins=true):E.length≤40∧1≤E.length∧(∀v,v<E.length→(E.getD v bl).length≤6)∧
  ∀v i,v<E.length→i<(E.getD v bl).length→ ∃w p:Nat,BJ (E.getD v bl) i=(w:Int)∧Bo (E.getD v bl) i=(p:Int)∧w<E.length∧p<(E.getD w bl).length∧BJ (E.getD w bl) p=(v:Int)∧Bo (E.getD w bl) p=(i:Int):=by
 unfold Ee at h;simp only [ED]at h;obtain⟨h1,_,_,_,h5⟩:=h;have h1:=DW.1 h1;have hn: ∀v,v<E.length→Lv E v=true:=CB.1 h5
 refine⟨by omega,by omega,fun v hv=> ?_,fun v i hv hi=> ?_⟩
 ·have:=hn v hv
  rw [IP,ED,decide_eq_true_eq]at this;exact this.1
 ·have:=hn v hv
  rw [IP,ED]at this;have:=CB.1 this.2 i hi
  rw [La]at this;simp only [ED,beq_iff_eq]at this;obtain⟨k1,k2,k3,k4⟩:=this;have k1:=DW.1 k1;have k2:=DW.1 k2
  refine⟨(BJ (E.getD v bl) i).toNat,(Bo (E.getD v bl) i).toNat,by omega,by omega,by omega,by omega,k3,k4⟩
theorem TI(l:Cz)(k v k':Int):CP (Kn l k v) k'=if k'=k then(v,true)else CP l k':=by
 have key: ∀l:Cz,(match (match l.findIdx? (fun p:Int×Int=>p.1==k)with|some i=>l.set i (k,v)|none=>l++[(k,v)]).find? (fun p:Int×Int=>p.1==k')with|some p=>(p.2,true)|none=>((0:Int),false))=if k'=k then(v,true)else(match l.find? (fun p:Int×Int=>p.1==k')with|some p=>(p.2,true)|none=>((0:Int),false)):=by
  intro l
  induction l with
  |nil=>
   by_cases e:k'=k
   ·subst e;simp
   ·rw [if_neg e];have:(k==k')=false:=by simpa using fun c:k=k'=>e c.symm
    simp [this]
  |cons p l ih=>
   rw [List.findIdx?_cons];by_cases h1:p.1=k
   ·rw [if_pos (by simpa using h1)]
    simp only [List.set_cons_zero];by_cases e:k'=k
    ·subst e;simp
    ·rw [if_neg e];have h2:(k==k')=false:=by simpa using fun c:k=k'=>e c.symm
     have h3:(p.1==k')=false:=by rw [h1];exact h2
     rw [OZ,h2,OZ,h3]
   ·rw [if_neg (by simpa using h1)]
    cases hf:l.findIdx? (fun p:Int×Int=>p.1==k)with
    |none=>
     rw [hf]at ih;simp only [Option.map_none];rw [NT,OZ];by_cases e:p.1=k'
     ·have: ¬k'=k:=fun c=>h1 (e.trans c)
      rw [if_neg this,OZ];have h3:(p.1==k')=true:=by simpa using e
      rw [h3]
     ·have h3:(p.1==k')=false:=by simpa using e
      rw [h3];simp only [OZ,h3];exact ih
    |some i=>
     rw [hf]at ih;simp only [JK,TL];rw [OZ];by_cases e:p.1=k'
     ·have: ¬k'=k:=fun c=>h1 (e.trans c)
      rw [if_neg this,OZ];have h3:(p.1==k')=true:=by simpa using e
      rw [h3]
     ·have h3:(p.1==k')=false:=by simpa using e
      rw [h3];simp only [OZ,h3];exact ih
 exact key l
theorem Uf(n:Nat)(P:Nat→Bool):Bu (n+1) P=(match Bu n P with|some u=>some u|none=>if P n=true then some n else none):=by
 unfold Bu;rw [List.range_succ,List.find?_append]
 cases List.find? P (an n)with
 |some u=>rfl
 |none=>cases h:P n<;>simp [h]
structure EqvB(con:Nat→Nat→Bool)(n:Nat):Prop where
 rfl': ∀x,x<n→con x x=true
 sym: ∀x y,x<n→y<n→con x y=true→con y x=true
 trn: ∀x y z,x<n→y<n→z<n→con x y=true→con y z=true→con x z=true
theorem Yn{E:BN}{ids ins:AX}(h:Ee E ids ins=true):ins.length=E.length:=by
 unfold Ee at h;simp only [ED,decide_eq_true_eq]at h;omega
def K6(E:BN)(ins cls:AX)(v:Nat):Int×Cz:=(ins.getD v bl,(E.getD v bl).map fun e=>(e.2,cls.getD e.1.toNat bl))
def Lx(E:BN)(cls:AX)(u v i:Nat):Bool:=decide (Bo (E.getD u bl) i=Bo (E.getD v bl) i)&&decide (cls.getD (BJ (E.getD u bl) i).toNat bl=cls.getD (BJ (E.getD v bl) i).toNat bl)
theorem JE(E:BN)(ins cls:AX)(u v:Nat):K6 E ins cls u=K6 E ins cls v↔(E.getD u bl).length=(E.getD v bl).length∧ins.getD u bl=ins.getD v bl∧(an (E.getD u bl).length).all (Lx E cls u v)=true:=by
 unfold K6;rw [Prod.mk.injEq]
 constructor
 ·rintro⟨h1,h2⟩
  have hl:=congrArg List.length h2;rw [Oa,Oa]at hl
  refine⟨hl,h1,CB.2 fun i hi=> ?_⟩
  have:=congrArg (fun l=>l[i]?) h2
  simp only [Jh,Fg hi,Fg (hl▸hi),JK,Option.some.injEq,Prod.mk.injEq]at this;have hi':i<(E.getD v bl).length:=by omega
  have q1:=BL (E.getD u bl) i hi;have q2:=BL (E.getD v bl) i hi';have r1:Bo (E.getD u bl) i=Bo (E.getD v bl) i:=by unfold Bo;rw [q1,q2];exact this.1
  have r2:cls.getD (BJ (E.getD u bl) i).toNat bl=cls.getD (BJ (E.getD v bl) i).toNat bl:=by unfold BJ;rw [q1,q2];exact this.2
  unfold Lx;rw [decide_eq_true r1,decide_eq_true r2];rfl
 ·rintro⟨hl,h1,h2⟩
  refine⟨h1,List.ext_getElem (by rw [Oa,Oa];exact hl) fun i h3 h4=> ?_⟩
  rw [Oa]at h3 h4;have:=CB.1 h2 i h3
  unfold Lx at this;rw [ED,decide_eq_true_eq,decide_eq_true_eq]at this;have q1:=BL (E.getD u bl) i h3;have q2:=BL (E.getD v bl) i h4;have r1:(E.getD u bl)[i].2=(E.getD v bl)[i].2:=by have:=this.1;unfold Bo at this;rw [q1,q2]at this;exact this
  have r2:cls.getD (E.getD u bl)[i].1.toNat bl=cls.getD (E.getD v bl)[i].1.toNat bl:=by have:=this.2;unfold BJ at this;rw [q1,q2]at this;exact this
  rw [List.getElem_map,List.getElem_map,r1,r2]
def KG(E:BN)(ins cls:AX):Bool:=(an cls.length).all fun u=> !decide (cls.getD u bl<0)&&(an u).all fun v=> !decide (cls.getD u bl=cls.getD v bl)||decide (K6 E ins cls u=K6 E ins cls v)
theorem PO{E:BN}{ids ins:AX}(h:Ee E ids ins=true){v i:Nat}(hv:v<E.length)(hi:i<(E.getD v bl).length):0≤BJ (E.getD v bl) i∧(BJ (E.getD v bl) i).toNat<E.length:=by
 obtain⟨w,p,e1,_,hw,_⟩:=(LG h).2.2.2 v i hv hi;rw [e1];omega
theorem Y8{E:BN}{ids ins:AX}(cls:AX)(h:Ee E ids ins=true)(hc:cls.length=E.length)(u v:Nat)(hu:u<E.length)(hv:v<E.length):Jb E ids ins cls (u:Int) (v:Int)=some (decide (K6 E ins cls u=K6 E ins cls v)):=by
 have hi:=Yn h;obtain⟨hn,_,h6,_⟩:=LG h;unfold Jb;simp only [Fj];rw [Ch (by omega),Ch (by omega)]
 by_cases e1:((E.getD u bl).length:Int)=((E.getD v bl).length:Int)
 ·rw [if_pos e1,Ch (by omega),Ch (by omega)]
  by_cases e2:ins.getD u bl=ins.getD v bl
  ·rw [if_pos e2];unfold IG;have key:=EO (fun x=>EY E ids ins cls (u:Int) (v:Int) x) (fun i=>(i:Int)) (E.getD u bl).length (Lx E cls u v) (.inl ()) (.inr ()) ?_ ?_
   ·rw [Lc]at key;rw [key,EM];by_cases e3:(an (E.getD u bl).length).all (Lx E cls u v)=true
    ·rw [if_pos e3,decide_eq_true ((JE E ins cls u v).2 ⟨by omega,e2,e3⟩)]
    ·rw [if_neg e3,decide_eq_false (fun c=>e3 ((JE E ins cls u v).1 c).2.2)]
   ·intro i hi';have g1:=PO h hu hi';have g2:=PO h (i:=i) hv (by omega)
    have:=h6 u hu
    simp only [EY,Fj];rw [if_pos (D8 hi'),Ch (by omega),Ch (by omega),Ch (by omega)]
    unfold Lx;by_cases e3:Bo (E.getD u bl) i=Bo (E.getD v bl) i
    ·rw [if_pos e3,Ch (by omega),Ch (by omega),decide_eq_true e3]
     by_cases e4:cls.getD (BJ (E.getD u bl) i).toNat bl=cls.getD (BJ (E.getD v bl) i).toNat bl
     ·rw [if_pos e4,decide_eq_true e4,Nr i (by omega)];rfl
     ·rw [if_neg e4,decide_eq_false e4];rfl
    ·rw [if_neg e3,decide_eq_false e3];rfl
   ·simp only [EY,Fj];rw [if_neg (BK _)]
  ·rw [if_neg e2,decide_eq_false (fun c=>e2 ((JE E ins cls u v).1 c).2.1)]
 ·rw [if_neg e1,decide_eq_false (fun c=>e1 (by have:=((JE E ins cls u v).1 c).1;omega))]
theorem aF{E:BN}{ids ins:AX}(cls:AX)(h:Ee E ids ins=true):FZ E ids ins cls=some (decide (cls.length=E.length)&&KG E ins cls):=by
 obtain⟨hn,_,h6,_⟩:=LG h;unfold FZ;by_cases hc:cls.length=E.length
 ·rw [if_pos (by omega),decide_eq_true hc,Gd]
  unfold FM;have key:=EO (fun x=>Cm E ids ins cls x) (fun i=>(i:Int)) cls.length (fun u=> !decide (cls.getD u bl<0)&&(an u).all fun v=> !decide (cls.getD u bl=cls.getD v bl)||decide (K6 E ins cls u=K6 E ins cls v)) (.inl ()) (.inr ()) ?_ ?_
  ·rw [Lc]at key;rw [key,EM];unfold KG
   cases (an cls.length).all fun u=> !decide (cls.getD u bl<0)&&(an u).all fun v=> !decide (cls.getD u bl=cls.getD v bl)||decide (K6 E ins cls u=K6 E ins cls v)<;>rfl
  ·intro u hu;simp only [Cm,Fj];rw [if_pos (D8 hu),Ch (by omega)]
   by_cases e1:cls.getD u bl<0
   ·rw [if_pos e1,decide_eq_true e1];rfl
   ·rw [if_neg e1,decide_eq_false e1,Ch (by omega),Ch (by omega)]
    have inner:=EO (fun x=>Ck E ids ins cls (u:Int) x) (fun i=>(i:Int)) u (fun v=> !decide (cls.getD u bl=cls.getD v bl)||decide (K6 E ins cls u=K6 E ins cls v)) (.inl ()) (.inr ()) ?_ ?_
    ·rw [Lc]at inner;have e2:FK E ids ins cls (u:Int) 0=_:=inner;rw [e2,EM,Nr u (by omega)]
     simp only [Bool.not_false,Gd]
     cases (an u).all fun v=> !decide (cls.getD u bl=cls.getD v bl)||decide (K6 E ins cls u=K6 E ins cls v)<;>rfl
    ·intro v hv;simp only [Ck,Fj,List.drop_zero,KP];rw [if_pos (by omega),Ch (by omega),Ch (by omega)]
     by_cases e2:cls.getD u bl=cls.getD v bl
     ·rw [if_pos e2,Y8 cls h hc u v (by omega) (by omega),EM,decide_eq_true e2,Nr v (by omega)]
      by_cases e3:K6 E ins cls u=K6 E ins cls v
      ·rw [if_pos (decide_eq_true e3),decide_eq_true e3];rfl
      ·rw [if_neg (by simpa using e3),decide_eq_false e3];rfl
     ·rw [if_neg e2,decide_eq_false e2,Nr v (by omega)];rfl
    ·simp only [Ck,Fj,List.drop_zero,KP];rw [if_neg (by omega)]
  ·simp only [Cm];rw [if_neg (BK _)]
 ·rw [if_neg (by omega),decide_eq_false hc];rfl
def NQ(cls:AX):Nat→Cz
 |0=>[]
 |v+1=>if(CP (NQ cls v) (cls.getD v bl)).2=true then NQ cls v else Kn (NQ cls v) (cls.getD v bl) (v:Int)
theorem WU(cls:AX)(c:Int): ∀v,CP (NQ cls v) c=match Bu v (fun u=>decide (cls.getD u bl=c))with|some u=>((u:Int),true)|none=>(0,false)
 |0=>rfl
 |v+1=>by
  rw [Uf];have ih:=WU cls c v;show CP (if(CP (NQ cls v) (cls.getD v bl)).2=true then NQ cls v else Kn (NQ cls v) (cls.getD v bl) (v:Int)) c=_
  by_cases hk:(CP (NQ cls v) (cls.getD v bl)).2=true
  ·rw [if_pos hk,ih]
   cases hf:Bu v (fun u=>decide (cls.getD u bl=c))with
   |some u=>rfl
   |none=>
    have: ¬cls.getD v bl=c:=fun e=>by
     rw [e,ih,hf]at hk;simp at hk
    rw [decide_eq_false this];simp
  ·rw [if_neg hk,TI];by_cases e:c=cls.getD v bl
   ·rw [if_pos e]
    have hn:Bu v (fun u=>decide (cls.getD u bl=c))=none:=by
     cases hf:Bu v (fun u=>decide (cls.getD u bl=c))with
     |none=>rfl
     |some u=>rw [←e,ih,hf]at hk;simp at hk
    rw [hn,decide_eq_true e.symm];simp
   ·rw [if_neg e,ih,decide_eq_false (fun x=>e x.symm)]
    cases Bu v (fun u=>decide (cls.getD u bl=c))<;>simp
def RL(E:BN)(ins cls:AX)(v:Nat):Bool:=match Bu v (fun u=>decide (cls.getD u bl=cls.getD v bl))with|some u=>decide (K6 E ins cls v=K6 E ins cls u)|none=>true
theorem aG(E:BN)(ins cls:AX)(h0:cls.any (fun c=>decide (c<0))=false):(an cls.length).all (RL E ins cls)=KG E ins cls:=by
 have hneg: ∀u,u<cls.length→decide (cls.getD u bl<0)=false:=fun u hu=>by
  rw [List.any_eq_false]at h0;have:=h0 _ (KO hu)
  rw [BL _ _ hu];simpa using this
 rw [Bool.eq_iff_iff];unfold KG;rw [CB,CB]
 constructor
 ·intro h u hu;rw [hneg u hu,Bool.not_false,Gd,CB];intro v hv;by_cases e:cls.getD u bl=cls.getD v bl
  ·have hu':=h u hu;have hv':=h v (by omega)
   unfold RL at hu' hv'
   cases hf:Bu u (fun w=>decide (cls.getD w bl=cls.getD u bl))with
   |none=>
    unfold Bu at hf;rw [cr]at hf;exact absurd (decide_eq_true e.symm) (hf v (MR.2 hv))
   |some w=>
    rw [hf]at hu';have hu':=of_decide_eq_true hu';obtain⟨hw,hwe⟩:=Ij hf;have hwe:=of_decide_eq_true hwe
    have hmin: ∀i,i<w→decide (cls.getD i bl=cls.getD u bl)=false:=by
     intro i hi;unfold Bu at hf;rw [List.find?_range_eq_some]at hf;have:=hf.2.2 i hi
     simpa using this
    rw [decide_eq_true e,Bool.not_true,Bool.false_or,decide_eq_true_eq,hu'];by_cases ew:w=v
    ·rw [ew]
    ·have hwv:w<v:=by
      refine Nat.lt_of_le_of_ne (Nat.le_of_not_lt fun c=> ?_) ew;have:=hmin v c
      rw [e]at this;simp at this
     have:Bu v (fun x=>decide (cls.getD x bl=cls.getD v bl))=some w:=by
      refine RI hwv (decide_eq_true (hwe.trans e)) fun i hi=> ?_;rw [←e];exact hmin i hi
     rw [this]at hv'
     exact(of_decide_eq_true hv').symm
  ·rw [decide_eq_false e];rfl
 ·intro h u hu;have hu':=h u hu;rw [hneg u hu,Bool.not_false,Gd,CB]at hu';unfold RL
  cases hf:Bu u (fun w=>decide (cls.getD w bl=cls.getD u bl))with
  |none=>rfl
  |some w=>
   obtain⟨hw,hwe⟩:=Ij hf;have hwe:=of_decide_eq_true hwe;have:=hu' w hw
   rw [decide_eq_true hwe.symm,Bool.not_true,Bool.false_or]at this;exact this
theorem Ug{E:BN}{ids ins:AX}(cls:AX)(h:Ee E ids ins=true)(hc:cls.length=E.length)(m:Cz)(u v:Nat)(b:Bool)(hm:CP m (cls.getD v bl)=((u:Int),b))(hu:u<E.length)(hv:v<E.length)(hl:(E.getD u bl).length=(E.getD v bl).length):
  E9 E ids ins cls m (v:Int) 0=some (if(an (E.getD v bl).length).all (Lx E cls v u)=true then .inr ()else .inl ()):=by
 obtain⟨hn,_,h6,_⟩:=LG h;unfold E9;refine EO (fun x=>Ci E ids ins cls m (v:Int) x) (fun i=>(i:Int)) (E.getD v bl).length (Lx E cls v u) (.inl ()) (.inr ()) ?_ ?_
 ·intro i hi';have g1:=PO h hv hi';have g2:=PO h (i:=i) hu (by omega)
  have:=h6 v hv
  simp only [Ci,Fj,hm];rw [if_pos (D8 hi'),Ch (by omega),Ch (by omega),Ch (by omega)]
  unfold Lx;by_cases e3:Bo (E.getD v bl) i=Bo (E.getD u bl) i
  ·rw [if_pos e3,Ch (by omega),Ch (by omega),decide_eq_true e3]
   by_cases e4:cls.getD (BJ (E.getD v bl) i).toNat bl=cls.getD (BJ (E.getD u bl) i).toNat bl
   ·rw [if_pos e4,decide_eq_true e4,Nr i (by omega)];rfl
   ·rw [if_neg e4,decide_eq_false e4];rfl
  ·rw [if_neg e3,decide_eq_false e3];rfl
 ·simp only [Ci,Fj];rw [if_neg (BK _)]
theorem aH{E:BN}{ids ins:AX}(cls:AX)(h:Ee E ids ins=true)(hl:cls.length<1099511627776):FY E ids ins cls=some (decide (cls.length=E.length)&&KG E ins cls):=by
 obtain⟨hn,_,h6,_⟩:=LG h;have hins:=Yn h;unfold FY;by_cases hc:cls.length=E.length
 ·rw [if_pos (by omega),decide_eq_true hc,Gd,KD cls (fun a0=>EX a0) (fun c=>decide (c<0)) hl (fun x _=>rfl),EM]
  cases h0:cls.any (fun c=>decide (c<0))with
  |true=>
   rw [if_pos rfl]
   congr 1
   rw [List.any_eq_true]at h0;obtain⟨x,hx,hx0⟩:=h0;obtain⟨u,hu,rfl⟩:=Ul hx
   symm
   cases hb:KG E ins cls with
   |false=>rfl
   |true=>
    unfold KG at hb;have:=CB.1 hb u hu
    rw [BL _ _ hu,hx0]at this;simp at this
  |false=>
   rw [if_neg (by decide),←aG E ins cls h0]
   unfold DJ;have key:=EO (fun x=>Cj E ids ins cls x.1 x.2) (fun i=>(NQ cls i,(i:Int))) cls.length (RL E ins cls) (.inl ()) (.inr ()) ?_ ?_
   ·have e0:DJ E ids ins cls ([],0)=_:=key;unfold DJ at e0;rw [e0,EM]
    cases (an cls.length).all (RL E ins cls)<;>rfl
   ·intro v hv;have hg:=WU cls (cls.getD v bl) v;simp only [Cj,Fj];rw [if_pos (D8 hv),Ch (by omega),Nr v (by omega)]
    show _=if RL E ins cls v=true then(some (cf (if(CP (NQ cls v) (cls.getD v bl)).2=true then NQ cls v else Kn (NQ cls v) (cls.getD v bl) (v:Int),((v+1:Nat):Int))):Option ((Cz×Int)⊕(Unit⊕Unit)))else _
    unfold RL
    cases hf:Bu v (fun u=>decide (cls.getD u bl=cls.getD v bl))with
    |none=>
     rw [hf]at hg;have hg:CP (NQ cls v) (cls.getD v bl)=(0,false):=hg;rw [hg];rfl
    |some u=>
     rw [hf]at hg;have hg:CP (NQ cls v) (cls.getD v bl)=((u:Int),true):=hg;have hu:=(Ij hf).1;simp only [hg,if_true,Fj];rw [Ch (by omega),Ch (by omega)]
     by_cases e1:((E.getD u bl).length:Int)=((E.getD v bl).length:Int)
     ·rw [if_pos e1,Ch (by omega),Ch (by omega)]
      by_cases e2:ins.getD u bl=ins.getD v bl
      ·rw [if_pos e2,Ug cls h hc _ u v true hg (by omega) (by omega) (by omega),EM]
       by_cases e3:(an (E.getD v bl).length).all (Lx E cls v u)=true
       ·rw [if_pos e3,decide_eq_true ((JE E ins cls v u).2 ⟨by omega,e2.symm,e3⟩)];rfl
       ·rw [if_neg e3,decide_eq_false (fun c=>e3 ((JE E ins cls v u).1 c).2.2)];rfl
      ·rw [if_neg e2,decide_eq_false (fun c=>e2 ((JE E ins cls v u).1 c).2.1.symm)];rfl
     ·rw [if_neg e1,decide_eq_false (fun c=>e1 (by have:=((JE E ins cls v u).1 c).1;omega))];rfl
   ·simp only [Cj];rw [if_neg (BK _)]
 ·rw [if_neg (by omega),decide_eq_false hc];rfl
theorem jc(E:BN)(ids ins:AX)(v:Nat)(hv:v<E.length)(hd:(E.getD v bl).length≤6):LD E ids ins (v:Int)=some ((E.getD v bl).map (·.1)):=by
 unfold LD JB;rw [Ch (by omega)]
 have key:=GN (fun x=>FC E (v:Int) x.1 x.2) (fun i=>(((E.getD v bl).take i).map (·.1),(i:Int))) (E.getD v bl).length ((E.getD v bl).map (·.1)) ?_ ?_
 ·have e:((0:Nat):Int)=0:=rfl;simp only [e,List.take_zero,List.map_nil]at key;rw [key];rfl
 ·intro i hi;simp only [FC,Fj];rw [if_pos (D8 hi),Ch (by omega),Ch (by rw [Oa,KP];omega),Nr i (by omega),List.take_add_one,Fg hi,List.map_append]
  unfold BJ;rw [BL (E.getD v bl) _ hi];rfl
 ·simp only [FC,Fj];rw [if_neg (BK _),List.take_length]
theorem WV{E:BN}{ids ins:AX}(h:Ee E ids ins=true):E.length≤40∧1≤E.length∧(∀v,v<E.length→(E.getD v bl).length≤6)∧
  ∀v i,v<E.length→i<(E.getD v bl).length→ ∃w p:Nat,BJ (E.getD v bl) i=(w:Int)∧Bo (E.getD v bl) i=(p:Int)∧w<E.length∧p<(E.getD w bl).length∧BJ (E.getD w bl) p=(v:Int)∧Bo (E.getD w bl) p=(i:Int):=by
 unfold Ee at h;simp only [ED]at h;obtain⟨h1,_,_,_,h5⟩:=h;have h1:=DW.1 h1;have hn: ∀v,v<E.length→Lv E v=true:=CB.1 h5
 refine⟨by omega,by omega,fun v hv=> ?_,fun v i hv hi=> ?_⟩
 ·have:=hn v hv
  rw [IP,ED,decide_eq_true_eq]at this;exact this.1
 ·have:=hn v hv
  rw [IP,ED]at this;have:=CB.1 this.2 i hi
  rw [La]at this;simp only [ED,beq_iff_eq]at this;obtain⟨k1,k2,k3,k4⟩:=this;have k1:=DW.1 k1;have k2:=DW.1 k2
  refine⟨(BJ (E.getD v bl) i).toNat,(Bo (E.getD v bl) i).toNat,by omega,by omega,by omega,by omega,k3,k4⟩
def oT(l:AX):Nat→Int
 |0=> -1
 |i+1=>if l.count (l.getD i bl)=1 then(if oT l i<0 then l.getD i bl else if l.getD i bl<oT l i then l.getD i bl else oT l i)else oT l i
theorem fQ(l:AX)(h: ∀x∈l,0≤x): ∀i,i≤l.length→((oT l i<0↔ ∀j,j<i→l.count (l.getD j bl)≠1)∧ -1≤oT l i)
 |0,_=>⟨by simp [oT],by simp [oT]⟩
 |i+1,hi=>by
  obtain⟨ih,ih2⟩:=fQ l h i (by omega)
  have hx:=h _ (KO (show i<l.length by omega))
  have hg:l.getD i bl=l[i]:=BL l i (by omega)
  unfold oT;rw [hg];by_cases c:l.count l[i]=1
  ·rw [if_pos c];have hge:0≤(if oT l i<0 then l[i]else if l[i]<oT l i then l[i]else oT l i):=by split;exact hx;split<;>omega
   refine⟨⟨fun hn=>by omega,fun hall=> ?_⟩,by omega⟩
   exact absurd c (by have:=hall i (by omega);rwa [hg]at this)
  ·rw [if_neg c]
   refine⟨⟨fun hn j hj=> ?_,fun hall=>ih.2 fun j hj=>hall j (by omega)⟩,ih2⟩
   by_cases e:j=i
   ·subst e;rw [hg];exact c
   ·exact ih.1 hn j (by omega)
theorem Uh(l:AX)(i:Nat)(hi:i<l.length)(x:Int):l.count x=(l.take i).count x+((if l[i]=x then 1 else 0)+(l.drop (i+1)).count x):=by
 have e:l=l.take i++(l[i]::l.drop (i+1)):=by rw [List.getElem_cons_drop,List.take_append_drop]
 have e2:=congrArg (List.count x) e;rw [List.count_append,List.count_cons]at e2;rw [e2];have:(if(l[i]==x)=true then 1 else 0)=(if l[i]=x then 1 else 0):=by simp only [beq_iff_eq]
 omega
theorem fT(l:AX)(h2:l.length≤1000):LF l=some (oT l l.length):=by
 have key:=GN (fun w=>FE l w.1 w.2) (fun i=>(oT l i,(i:Int))) l.length (oT l l.length) (fun i hi=> ?_) ?_
 ·unfold LF;rw [show Hu l (-1,0)=_ from by unfold Hu;exact key,EM]
 ·have hg:l.getD i bl=l[i]:=BL l i hi;have hd:((l.take i).drop 0)=l.take i:=List.drop_zero;have htk:l.take l.length=l:=List.take_length;have ho:oT l (i+1)=if l.count l[i]=1 then(if oT l i<0 then l[i]else if l[i]<oT l i then l[i]else oT l i)else oT l i:=by rw [oT,hg]
  simp only [FE,Fj,hg];rw [if_pos (D8 hi),Ch ⟨by omega,hi⟩,Ch (by omega),Ch (by omega),Ch (by rw [hd,KP];omega),hd,Nr i (by omega)]
  have cs:=Uh l i hi l[i];rw [if_pos rfl]at cs;by_cases c1:(l.take i).contains l[i]=true
  ·have m1:0<(l.take i).count l[i]:=List.count_pos_iff.2 (by simpa using c1)
   rw [if_pos c1,ho,if_neg (by omega)]
  ·rw [if_neg c1];have m1:(l.take i).count l[i]=0:=ct.2 (by simpa using c1)
   simp only [Fj,htk];rw [Ch (by omega),Ch (by omega),Ch (by rw [List.length_drop];omega)]
   by_cases c2:(l.drop (i+1)).contains l[i]=true
   ·have m2:0<(l.drop (i+1)).count l[i]:=List.count_pos_iff.2 (by simpa using c2)
    rw [if_pos c2,ho,if_neg (by omega)]
   ·have m2:(l.drop (i+1)).count l[i]=0:=ct.2 (by simpa using c2)
    rw [if_neg c2,ho,if_pos (show l.count l[i]=1 by omega)]
    by_cases n1:oT l i<0
    ·rw [if_pos n1,if_pos n1]
    ·rw [if_neg n1,if_neg n1];by_cases n2:l[i]<oT l i
     ·rw [if_pos n2,if_pos n2]
     ·rw [if_neg n2,if_neg n2]
 ·simp only [FE];rw [if_neg (BK _)]
def mC(l:AX):Nat→Cz
 |0=>[]
 |i+1=>Kn (mC l i) (l.getD i bl) ((CP (mC l i) (l.getD i bl)).1+1)
theorem Y9(m:Cz)(k v:Int)(h:(m.map (·.1)).Nodup):((Kn m k v).map (·.1)).Nodup:=by
 unfold Kn
 cases hf:m.findIdx? (fun p=>p.1==k)with
 |some i=>
  simp only;have hlt:i<m.length:=(cw.1 hf).1;have hk:(m[i].1==k)=true:=(cw.1 hf).2.1
  have:(m.set i (k,v)).map (·.1)=m.map (·.1):=by
   rw [List.map_set];refine List.ext_getElem (by simp) (fun j h1 h2=> ?_)
   rw [List.getElem_set];split
   ·rename_i e;subst e;simp only [List.getElem_map];exact(by simpa using hk:m[i].1=k).symm
   ·rfl
  rw [this];exact h
 |none=>
  simp only;rw [List.map_append,List.nodup_append]
  refine⟨h,by simp,fun a ha b hb hab=> ?_⟩
  simp only [Ld,List.map_nil,List.mem_singleton]at hb;obtain⟨p,hp,rfl⟩:=Fp.1 ha;have:=List.findIdx?_eq_none_iff.1 hf p hp
  rw [hab,hb]at this;simp at this
theorem TJ(m:Cz)(h:(m.map (·.1)).Nodup)(k v:Int):(k,v)∈m↔CP m k=(v,true):=by
 unfold CP
 constructor
 ·intro hm
  have:m.find? (fun p=>p.1==k)=some (k,v):=by
   induction m with
   |nil=>cases hm
   |cons p m ih=>
    rw [Ld,List.nodup_cons]at h;rw [OZ];rcases M4.1 hm with e|hm
    ·subst e;simp
    ·have:(p.1==k)=false:=by
      cases hb:(p.1==k)with
      |false=>rfl
      |true=>exact absurd (Fp.2 ⟨(k,v),hm,(by simpa using hb:p.1=k).symm⟩) h.1
     rw [this];exact ih h.2 hm
  rw [this]
 ·intro hg
  cases hf:m.find? (fun p=>p.1==k)with
  |none=>rw [hf]at hg;cases hg
  |some p=>
   rw [hf]at hg;have h1:=List.mem_of_find?_eq_some hf;have h2:p.1=k:=by simpa using List.find?_some hf
   injection hg with h3
   obtain⟨a,b⟩:=p;simp only at h2 h3;subst h2 h3;exact h1
theorem Yo(l:AX): ∀i,((mC l i).map (·.1)).Nodup
 |0=>by simp [mC]
 |i+1=>Y9 _ _ _ (Yo l i)
theorem YA(l:AX): ∀(i:Nat),i≤l.length→ ∀x,CP (mC l i) x=(((l.take i).count x:Int),(l.take i).contains x)
 |0,_,x=>by simp [mC,CP]
 |i+1,hi,x=>by
  have ih:=YA l i (by omega)
  have hg:l.getD i bl=l[i]:=BL l i (by omega)
  rw [mC,TI,hg,ih,ih];rw [List.take_add_one,Fg (by omega),List.count_append]
  have hc:((l.take i++[l[i]]).contains x)=((l.take i).contains x||(x==l[i])):=by
   rw [Bool.eq_iff_iff,M3,TK,TK,beq_iff_eq,KQ,List.mem_singleton]
  show _=(((List.count x (l.take i)+List.count x [l[i]]:Nat):Int),(l.take i++[l[i]]).contains x)
  rw [hc];by_cases e:x=l[i]
  ·rw [if_pos e,e];simp
  ·rw [if_neg e];have e1:(x==l[i])=false:=by simpa using e
   have e2:List.count x [l[i]]=0:=ct.2 (by simpa using e)
   rw [e1,e2,Bool.or_false,Nat.add_zero]
theorem xP(l:AX):((mC l l.length).any fun p=>p.2==1)=true↔ ∃x∈l,l.count x=1:=by
 have hk:=Yo l l.length;have hg:=YA l l.length (GR _);rw [List.take_length]at hg;rw [List.any_eq_true]
 constructor
 ·rintro⟨⟨k,v⟩,hm,hv⟩
  have hv:v=1:=by simpa using hv
  have:=(TJ _ hk k v).1 hm
  rw [hg,Prod.mk.injEq]at this
  exact⟨k,by simpa using this.2,by omega⟩
 ·rintro⟨x,hx,hc⟩
  refine⟨(x,1),(TJ _ hk x 1).2 ?_,by simp⟩
  rw [hg,hc];simp [hx]
theorem aI(t:Int)(l:AX)(u v:Int)(h2:l.length≤1000):Gv t l u v ([],0)=some (mC l l.length):=by
 have key:=GN (fun w=>EZ t l u v w.1 w.2) (fun i=>(mC l i,(i:Int))) l.length (mC l l.length) (fun i hi=> ?_) ?_
 ·unfold Gv;exact key
 ·have hc:(l.take i).count (l.getD i bl)≤l.length:=Nat.le_trans List.count_le_length (by rw [KP];omega)
  have hw:ce.wrap ((CP (mC l i) (l.getD i bl)).1+1)=(CP (mC l i) (l.getD i bl)).1+1:=by
   rw [YA l i (by omega)]
   exact Oj _ (by simp only;omega)
  simp only [EZ,Fj,hw];rw [if_pos (D8 hi),Ch ⟨by omega,hi⟩,Nr i (by omega),mC]
 ·simp only [EZ];rw [if_neg (BK _)]
theorem aJ(l:AX)(h: ∀x∈l,0≤x):(oT l l.length<0)↔ ¬((mC l l.length).any fun p=>p.2==1)=true:=by
 rw [(fQ l h l.length (GR _)).1,xP]
 constructor
 ·rintro hall ⟨x,hx,hc⟩
  obtain⟨j,hj,rfl⟩:=Ul hx;have:=hall j hj
  rw [BL l j hj]at this;exact this hc
 ·intro hn j hj hc;rw [BL l j hj]at hc;exact hn ⟨l[j],KO hj,hc⟩
theorem aK(E:BN)(ids ins:AX)(u:Nat)(v:Int)(hu:u<E.length)(hd:(E.getD u bl).length≤6):Ht E ids ins (u:Int) v=some (((E.getD u bl).map (·.1)).contains v):=by
 unfold Ht;simp only [Fj];rw [Ch ⟨by omega,hu⟩]
 generalize E.getD u bl=s at hd;have key:=fP (fun w=>AU s (fun a0_0 a0_1=>EK a0_0 a0_1 v) w) (fun i=>(i:Int)) s.length (fun i=>decide (BJ s i=v)) (fun i=> .inl (i:Int)) (.inr ()) (fun i hi=> ?_) ?_
 ·unfold Ah Ai;rw [show AZ s (fun a0_0 a0_1=>EK a0_0 a0_1 v) 0=_ from by unfold AZ;exact key,EM]
  have hfst: ∀i (hi:i<s.length),BJ s i=s[i].1:=fun i hi=>by unfold BJ;rw [BL s i hi]
  cases hf:Bu s.length (fun i=>decide (BJ s i=v))with
  |some i=>
   obtain⟨h1,h2⟩:=Ij hf
   have:(s.map (·.1)).contains v=true:=by
    rw [TK];exact Fp.2 ⟨s[i],KO h1,by rw [←hfst i h1];simpa using h2⟩
   rw [this];show some (decide (0≤(i:Int)))=some true
   rw [decide_eq_true (by omega)]
  |none=>
   have:(s.map (·.1)).contains v=false:=by
    cases hb:(s.map (·.1)).contains v with
    |false=>rfl
    |true=>
     rw [TK]at hb;obtain⟨p,hp,he⟩:=Fp.1 hb;obtain⟨i,hi,rfl⟩:=Ul hp;have:(Bu s.length (fun i=>decide (BJ s i=v))).isSome=true:=RJ.2 ⟨i,hi,by rw [hfst i hi];simpa using he⟩
     rw [hf]at this;cases this
   rw [this];rfl
 ·simp only [AU,Fj,EK];rw [if_pos (D8 hi),Ch ⟨by omega,hi⟩,EM,Nr i (by omega)]
 ·simp only [AU];rw [if_neg (BK _)]
def Ui(E:BN)(t:Int)(l:AX)(u v:Int):Bool:=
 if t=1 then decide (oT l l.length<0)&&(decide (u=0)&&decide (v=0))
 else(Eo u 0 ((E.length:Int)-1)&&Eo v 0 ((E.length:Int)-1))&&(decide (l.getD u.toNat bl=l.getD v.toNat bl)&&
  (if t=2 then decide (u≤v)&&((E.getD u.toNat bl).map (·.1)).contains v else decide (u<v)))
theorem jd{E:BN}{ids ins:AX}(h:Ee E ids ins=true)(t:Int)(l:AX)(u v:Int)(hl:l.length=E.length)(hx: ∀x∈l,0≤x):Jc E ids ins t l u v=some (Ui E t l u v):=by
 obtain⟨hE,hE1,hd,_⟩:=WV h;unfold Jc Ui;by_cases t1:t=1
 ·rw [if_pos t1,if_pos t1,aI t l u v (by omega),EM]
  have ho:=aJ l hx;by_cases c:((mC l l.length).any fun p=>p.2==1)=true
  ·rw [if_pos c,decide_eq_false (fun hn=>ho.1 hn c)];rfl
  ·rw [if_neg c,decide_eq_true (ho.2 c),Gd];by_cases hu:u=0
   ·rw [if_pos hu,decide_eq_true hu,Gd]
   ·rw [if_neg hu,decide_eq_false hu];rfl
 ·rw [if_neg t1,if_neg t1]
  have hn: ∀z,CL E ids ins z=some (Eo z 0 ((E.length:Int)-1)):=fun z=>by
   unfold CL;rw [Oj _ (by omega)]
  rw [hn,hn,EM]
  cases r1:Eo u 0 ((E.length:Int)-1)with
  |false=>rfl
  |true=>
   rw [if_pos rfl,EM]
   cases r2:Eo v 0 ((E.length:Int)-1)with
   |false=>rfl
   |true=>
    have q1:=DW.1 r1;have q2:=DW.1 r2;rw [if_pos rfl,Ch ⟨by omega,by omega⟩,Ch ⟨by omega,by omega⟩,Gd,Gd]
    by_cases c:l.getD u.toNat bl=l.getD v.toNat bl
    ·rw [if_pos c,decide_eq_true c,Gd];by_cases t2:t=2
     ·rw [if_pos t2,if_pos t2];by_cases c2:u≤v
      ·have hj:=aK E ids ins u.toNat v (by omega) (hd u.toNat (by omega))
       rw [show((u.toNat:Nat):Int)=u by omega]at hj
       rw [if_pos c2,decide_eq_true c2,Gd,hj,EM]
      ·rw [if_neg c2,decide_eq_false c2];rfl
     ·rw [if_neg t2,if_neg t2]
    ·rw [if_neg c,decide_eq_false c];rfl
theorem WW{E:BN}{ins l:AX}(h:KG E ins l=true): ∀x∈l,0≤x:=by
 intro x hx;obtain⟨j,hj,rfl⟩:=Ul hx;have:=CB.1 h j hj
 rw [ED,Ik,decide_eq_false_iff_not,BL l j hj]at this;omega
theorem je{E:BN}{ids ins:AX}(h:Ee E ids ins=true)(t:Int)(l:AX)(u v:Int):Jd E ids ins t l u v=some (Eo t 1 3&&((decide (l.length=E.length)&&KG E ins l)&&Ui E t l u v)):=by
 obtain⟨hE,hE1,hd,_⟩:=WV h;unfold Jd NP;rw [aF l h,EM];by_cases c0:(decide (l.length=E.length)&&KG E ins l)=true
 ·rw [if_pos c0,c0,Gd];rw [ED,decide_eq_true_eq]at c0;obtain⟨hl,hc⟩:=c0;have hx:=WW hc;unfold Ui;by_cases t1:t=1
  ·have ht:Eo t 1 3=true:=DW.2 (by omega)
   rw [if_pos t1,if_pos t1,fT l (by omega),EM,ht,Gd]
   by_cases n1:oT l l.length<0
   ·rw [if_pos n1,decide_eq_true n1,Gd];by_cases hu:u=0
    ·rw [if_pos hu,decide_eq_true hu,Gd]
    ·rw [if_neg hu,decide_eq_false hu];rfl
   ·rw [if_neg n1,decide_eq_false n1];rfl
  ·rw [if_neg t1,if_neg t1,EM]
   cases ht:Eo t 1 3 with
   |false=>rfl
   |true=>
    rw [if_pos rfl,Gd,Oj _ (by omega)]
    cases r2:Eo v 0 ((E.length:Int)-1)with
    |false=>rw [if_neg (by decide),Bool.and_false,Bool.false_and]
    |true=>
     have q2:=DW.1 r2;rw [if_pos rfl,PT];have htt:=DW.1 ht;by_cases r1:Eo u 0 v=true
     ·have q1:=DW.1 r1;have r3:Eo u 0 ((E.length:Int)-1)=true:=DW.2 (by omega)
      rw [if_pos r1,r3,Gd,Ch ⟨by omega,by omega⟩,Ch ⟨by omega,by omega⟩]
      by_cases c:l.getD u.toNat bl=l.getD v.toNat bl
      ·rw [if_pos c,decide_eq_true c,Gd];by_cases t3:t=3
       ·rw [if_pos t3,if_neg (show ¬t=2 by omega)]
       ·have hnr:=jc E ids ins u.toNat (by omega) (hd u.toNat (by omega))
        rw [show((u.toNat:Nat):Int)=u by omega]at hnr
        rw [if_neg t3,if_pos (show t=2 by omega),hnr,EM,decide_eq_true q1.2,Gd,Ch (by rw [Oa];have:=hd u.toNat (by omega);omega)]
      ·rw [if_neg c,decide_eq_false c];rfl
     ·rw [if_neg r1];have hn: ¬(0≤u∧u≤v):=fun hc=>r1 (DW.2 hc)
      cases r3:Eo u 0 ((E.length:Int)-1)with
      |false=>rfl
      |true=>
       have q3:=DW.1 r3;rw [decide_eq_false (show ¬u≤v by omega),decide_eq_false (show ¬u<v by omega)]
       by_cases t2:t=2
       ·rw [if_pos t2];simp
       ·rw [if_neg t2];simp
 ·rw [if_neg c0];have c0:(decide (l.length=E.length)&&KG E ins l)=false:=by simpa using c0
  rw [c0];simp
theorem YB(E:BN)(ids ins:AX)(t:Int)(l:AX)(u v:Int)(hE:Cg E)(h1:ids.length<1099511627776)(h2:ins.length<1099511627776)(h3:l.length<1099511627776): ∃x y,Fe E ids ins t l u v=some (x,y)∧Fb E ids ins t l u v=some (x,y):=by
 unfold Fe Fb NN;rw [Ch hE,Ch h1,Ch h2,Ch hE,Ch h1,Ch h2];by_cases h:Ee E ids ins=true
 ·simp only [if_pos h,je h,EM]
  cases ht:Eo t 1 3 with
  |false=>simp only [H5,if_false,Bool.false_and];exact⟨_,_,rfl,rfl⟩
  |true=>
   simp only [if_true,Gd,aH l h h3,EM]
   cases c0:(decide (l.length=E.length)&&KG E ins l)with
   |false=>simp only [H5,if_false,Bool.false_and];exact⟨_,_,rfl,rfl⟩
   |true=>
    simp only [if_true,Gd];have c1:=c0;rw [ED,decide_eq_true_eq]at c1;rw [jd h t l u v c1.1 (WW c1.2),EM]
    exact⟨_,_,rfl,rfl⟩
 ·simp only [if_neg h];exact⟨_,_,rfl,rfl⟩
theorem WX(E:BN)(ids ins:AX)(t:Int)(l:AX)(u v:Int)(hE:Lu E)(hids:ids.length<9223372036854775808)(hins:ins.length<9223372036854775808)(hl:l.length<9223372036854775808):Dr E ids ins t l u v=some true:=by
 unfold Dr JC JD;rw [Ch hE,Ch hids,Ch hins,Ch (by omega)]
 by_cases q1:Ye 1048576 E ids ins<0
 ·rw [if_pos q1]
 ·obtain⟨g1,sE,g2⟩:=jF (by omega) q1
  have tE:=HZ (fE E);have h1:ids.length<1099511627776:=by omega
  have h2:ins.length<1099511627776:=by omega
  rw [if_neg q1,Ch hl,Ch (by omega)]
  by_cases q2:Et (Ye 1048576 E ids ins) l.length<0
  ·rw [if_pos q2,EM,if_pos (by decide)]
  ·have h3:l.length<1099511627776:=by
    rcases HY (Ye 1048576 E ids ins) l.length with c|⟨c,c'⟩
    ·rw [c]at q2;simp at q2
    ·omega
   rw [if_neg q2,EM,if_neg q2,Ch sE,Ch h1,Ch h2,Ch h3,EM];obtain⟨x,y,hS,hI⟩:=YB E ids ins t l u v sE h1 h2 h3;unfold Ff;simp only [hS,hI,EM,Xy,if_true,Ch h3,decide_true]
   cases x<;>cases y<;>simp
theorem WY(ds:List D)(h:tC Ad [41,62] ds):Y.call 9 ds []=some (.bool true,[]):=by
 rcases ds with _|⟨x,_|⟨y,_|⟨_,_⟩⟩⟩
 ·cases h
 ·exact h.2.elim
 ·obtain⟨E,ids,ins,rfl,hE,hids,hins⟩:=Xl vR vQ dn dw vN iX h.1;obtain⟨xs,rfl,hlen,hx⟩:=TA vS h.2.1;rcases xs with _|⟨d0,_|⟨d1,_|⟨d2,_|⟨d3,_|⟨_,_⟩⟩⟩⟩⟩<;>simp at hlen
  obtain⟨t,e0,_⟩:=Nq vN (hx 0 _ d0 rfl rfl);obtain⟨l,e1,hl⟩:=U4 iX vN (hx 1 _ d1 rfl rfl);obtain⟨u,e2,_⟩:=Nq vN (hx 2 _ d2 rfl rfl);obtain⟨v,e3,_⟩:=Nq vN (hx 3 _ d3 rfl rfl);simp only [List.cons.injEq,and_true]at e0 e1 e2 e3;subst e0 e1 e2 e3;exact Ii E ids ins t l u v (WX E ids ins t l u v (eu hE) (cv hids.1 (by decide)) (cv hins.1 (by decide)) (cv hl.1 (by decide)))
 ·exact h.2.2.elim
end Go.Proofs.Ytclkfhhdikfcpaa
end
