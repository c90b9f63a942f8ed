/- CountOnForest: the law, lifted. Conditions: none. -/
import Derived.Test.YtiehjihckndgkaaGreatL6
import Derived.Test.YtiehjihckndgkaaGreatCfA
import Derived.Test.YtiehjihckndgkaaGreatPB
import Derived.Test.YtiehjihckndgkaaGreatNmk
namespace Go.Proofs.YtiehjihckndgkaaGreat
open Go Dv
set_option linter.unusedSimpArgs false
set_option linter.unusedVariables false
set_option maxRecDepth 100000
set_option maxHeartbeats 4000000
noncomputable def Fh(Ci:Int)(Cj:Int)(CW:AY)(CX:AY)(Dl:List (List (Int×Int)))(Et:AB)(CO:AB):Option (Bool):= ck (Um CW)<| ck (Um CX)<| ck (0≤(1048576:Int)∧(1048576:Int)≤1048576)<| if(xN (1048576:Int) CW CX)<0 then some true else ck (UY Dl)<| ck (Et.length<9223372036854775808)<| ck (CO.length<9223372036854775808)<| ck (0≤(xN (1048576:Int) CW CX)∧(xN (1048576:Int) CW CX)≤1048576)<| if(szW (xN (1048576:Int) CW CX) Dl Et CO)<0 then some true else ck (Bv CW)<| ck (Bv CX)<| ck (EX Dl)<| ck (Et.length<1099511627776)<| ck (CO.length<1099511627776)<| (JO Ci Cj CW CX Dl Et CO).bind fun XH=> (JM Ci Cj CW CX Dl Et CO).bind fun dF=> if dF.1=XH.1 then if dF.2=true then if XH.2=true then if(Vv Ci Cj CW CX Ci Cj CW CX)=true then if(WC Dl Et CO Dl Et CO)=true then some true else some false else some false else some false else if XH.2=true then some false else if(Vv Ci Cj CW CX Ci Cj CW CX)=true then if(WC Dl Et CO Dl Et CO)=true then some true else some false else some false else some false
abbrev iT:List Nat:=[23,24,25,26,27,22,27,28,29,6,28,7,29]
def k6:SC:= .seq (.ops [oX 2 (.box 24 (tK 0)) 0,oX 3 (.box 28 (tK 1)) 0,oX 4 CY 4]) (.seq (.ops [oX 5 (.assign (iK 1048576)) 3]) (.seq (.ops [oL 12 24 2 24,oM 13 5 3,oC 14 7 [(tK 12),(tK 13)] [24,3] 3,oA 5 14 3]) (.seq (.seq (.ops [oM 15 5 3,oB 16 .lss 3 (tK 15) (iK 0) 3 4]) (.cond (tK 16) (.seq (.ops [oX 4 (.assign F7) 4]) .ret) .skip)) (.seq (.ops [oL 17 28 3 28,oM 18 5 3,oC 19 8 [(tK 17),(tK 18)] [28,3] 3,oA 5 19 3]) (.seq (.seq (.ops [oM 20 5 3,oB 21 .lss 3 (tK 20) (iK 0) 3 4]) (.cond (tK 21) (.seq (.ops [oX 4 (.assign F7) 4]) .ret) .skip)) (.seq (.draws [(⟨[23,2,2],iT,[23]⟩,oL 23 24 2 24),(⟨[24,23,2],iT,[24]⟩,oC 24 11 [(tK 23)] [24] 34),(⟨[25,3,3],iT,[25]⟩,oL 25 28 3 28),(⟨[26,25,3],iT,[26]⟩,oC 26 12 [(tK 25)] [28] 38),(⟨[27,24,26,24,26],iT,[27]⟩,oC 27 29 [(tK 24),(tK 26)] [34,38] 54),(⟨[22,27,27],iT,[22,27]⟩,oM 22 27 54),(⟨[28,22],iT,[28]⟩,oE 28 22 0 3),(⟨[29,22],iT,[29]⟩,oE 29 22 1 4),(⟨[6,28,27],iT,[6,28]⟩,oA 6 28 3),(⟨[7,29],iT,[7,29]⟩,oA 7 29 4)]) (.seq (.ops [oL 30 24 2 24,oC 31 11 [(tK 30)] [24] 34,oX 8 (.alloc 34) 0,oS 34 8 31]) (.seq (.ops [oL 32 28 3 28,oC 33 12 [(tK 32)] [28] 38,oX 9 (.alloc 38) 0,oS 38 9 33]) (.seq (.ops [oL 35 34 8 34,
 oL 36 38 9 38,oC 37 30 [(tK 35),(tK 36)] [34,38] 54,oM 34 37 54,oE 38 34 0 3,oE 39 34 1 4,oA 10 38 3,oA 11 39 4]) (.seq (.seq (.ops [oM 40 10 3,oM 41 6 3,oB 42 .neq 3 (tK 40) (tK 41) 3 4,oM 43 42 4,⟨(some 44),(.move (tK 11)),4,(some (some 43,false))⟩,⟨(some 45),(.move (tK 7)),4,(some (some 43,false))⟩,⟨(some 46),(.binOp .neq 4 (tK 44) (tK 45) 4),4,(some (some 43,false))⟩,oX 47 (.pick (tK 43) F7 (tK 46)) 4]) (.cond (tK 47) (.seq (.ops [oX 4 CY 4]) .ret) .skip)) (.seq (.seq (.draws [(⟨[48,8,8],[48,49,50,51,52],[48]⟩,oL 48 34 8 34),(⟨[49,2,2],[48,49,50,51,52],[49]⟩,oL 49 24 2 24),(⟨[50,49,2],[48,49,50,51,52],[50]⟩,oC 50 11 [(tK 49)] [24] 34),(⟨[51,48,50,8,50],[48,49,50,51,52],[51]⟩,oC 51 16 [(tK 48),(tK 50)] [34,34] 4),(⟨[52,51,51],[48,49,50,51,52],[52]⟩,oX 52 (.unOp .not 4 (tK 51)) 4)]) (.cond (tK 52) (.seq (.ops [oX 4 CY 4]) .ret) .skip)) (.seq (.seq (.draws [(⟨[53,9,9],[53,54,55,56,57],[53]⟩,oL 53 38 9 38),(⟨[54,3,3],[53,54,55,56,57],[54]⟩,oL 54 28 3 28),(⟨[55,54,3],[53,54,55,56,57],[55]⟩,oC 55 12 [(tK 54)] [28] 38),(⟨[56,53,55,9,55],[53,54,55,56,57],[56]⟩,oC 56 17 [(tK 53),(tK 55)] [38,38] 4),(⟨[57,56,56],[53,54,55,56,57],[57]⟩,oX 57 (.unOp .not 4 (tK 56)) 4)])
 (.cond (tK 57) (.seq (.ops [oX 4 CY 4]) .ret) .skip)) (.seq (.ops [oX 4 (.assign F7) 4]) .ret)))))))))))))
theorem AIQ:Tryz.f6.body.map (BX lends)=some k6:=by kernel_rfl
theorem ok6:Bj Tryz.f6 2=true:=by kernel_rfl
theorem c6{a l:List D}{r:D×List D}(h:Br Y.env k6 (fin Ap l.length [ResultVar.tmp 4] r) (entry a l))(ha:a.length=2):Y.call 6 a l=some r:=
 AZ (Y:=Y) rfl Tryz.func6 (ha▸ok6) AIQ h
theorem P8(Ci:Int)(Cj:Int)(CW:AY)(CX:AY)(Dl:List (List (Int×Int)))(Et:AB)(CO:AB){r:Bool}(h:Fh Ci Cj CW CX Dl Et CO=some r):Y.call 6 [D.agg [D.int .i64 Ci,D.int .i64 Cj,D.sl 26 (AQ Bw CW),D.sl 26 (AQ Bw CX)],D.agg [D.sl 78 (AQ (fun x=>D.sl 111 (Au .i64 .i64 x)) Dl),D.sl 3 (AQ (D.int .i64) Et),D.sl 3 (AQ (D.int .i64) CO)]] []=some (D.bool r,[]):=by
 refine c6 ?_ rfl;unfold k6;unfold Fh at h;obtain⟨e1,e2,e3,h⟩:=Q3 h;have c4:=aY Ci Cj CW CX (1048576:Int) e1 e2 e3;rcases iS h with⟨e5,h⟩|⟨e5,h⟩
 ·obtain rfl:=Option.some.inj h
  simp (maxDischargeDepth:=9) only [↓AL,AO,↓reduceIte,Nat.reduceEqDiff,Nat.reduceLT,Nat.reduceAdd,c4,e5]
 ·obtain⟨e6,e7,e8,e9,h⟩:=A1S h;have jP:=bL Dl Et CO (xN (1048576:Int) CW CX) e6 e7 e8 e9;rcases iS h with⟨e11,h⟩|⟨e11,h⟩
  ·obtain rfl:=Option.some.inj h
   simp (maxDischargeDepth:=9) only [↓AL,AO,↓reduceIte,Nat.reduceEqDiff,Nat.reduceLT,Nat.reduceAdd,c4,e5,jP,e11]
  ·obtain⟨e12,e13,h⟩:=GX h;have c14:=MV Ci Cj CW CX e12 e13;obtain⟨e15,e16,e17,h⟩:=Q3 h;have jM:=Mg Dl Et CO e15 e16 e17;obtain⟨XH,hl19,h⟩:=Ak h;have c19:=Tj Ci Cj CW CX Dl Et CO hl19;have c20:=MV Ci Cj CW CX e12 e13;have c21:=Mg Dl Et CO e15 e16 e17;obtain⟨dF,hl22,h⟩:=Ak h;have c22:=Tf Ci Cj CW CX Dl Et CO hl22;rcases iS h with⟨e23,h⟩|⟨e23,h⟩
   ·rcases iS h with⟨e24,h⟩|⟨e24,h⟩
    ·rcases iS h with⟨e25,h⟩|⟨e25,h⟩
     ·have c26:=MV Ci Cj CW CX e12 e13;have c27:=TM Ci Cj CW CX Ci Cj CW CX e12 e13;rcases iS h with⟨e28,h⟩|⟨e28,h⟩
      ·have c29:=Mg Dl Et CO e15 e16 e17;have c30:=TT Dl Et CO Dl Et CO e15 e16 e17;rcases iS h with⟨e31,h⟩|⟨e31,h⟩
       ·obtain rfl:=Option.some.inj h
        simp (maxDischargeDepth:=9) only [↓AL,AO,↓reduceIte,Nat.reduceEqDiff,Nat.reduceLT,Nat.reduceAdd,Nat.reduceBEq,c4,e5,jP,e11,c14,jM,c19,c22,decide_eq_true e23,e24,e25,c27,e28,c30,e31]
       ·have e31f:(WC Dl Et CO Dl Et CO)=false:=Jw.mpr e31
        obtain rfl:=Option.some.inj h
        simp (maxDischargeDepth:=9) only [↓AL,AO,↓reduceIte,Nat.reduceEqDiff,Nat.reduceLT,Nat.reduceAdd,Nat.reduceBEq,c4,e5,jP,e11,c14,jM,c19,c22,decide_eq_true e23,e24,e25,c27,e28,c30,e31f]
      ·have e28f:(Vv Ci Cj CW CX Ci Cj CW CX)=false:=Jw.mpr e28
       obtain rfl:=Option.some.inj h
       simp (maxDischargeDepth:=9) only [↓AL,AO,↓reduceIte,Nat.reduceEqDiff,Nat.reduceLT,Nat.reduceAdd,Nat.reduceBEq,c4,e5,jP,e11,c14,jM,c19,c22,decide_eq_true e23,e24,e25,c27,e28f]
     ·have e25f:XH.2=false:=Jw.mpr e25
      obtain rfl:=Option.some.inj h
      simp (maxDischargeDepth:=9) only [↓AL,AO,↓reduceIte,Nat.reduceEqDiff,Nat.reduceLT,Nat.reduceAdd,Nat.reduceBEq,c4,e5,jP,e11,c14,jM,c19,c22,decide_eq_true e23,e24,e25f]
    ·have e24f:dF.2=false:=Jw.mpr e24;rcases iS h with⟨e25,h⟩|⟨e25,h⟩
     ·obtain rfl:=Option.some.inj h
      simp (maxDischargeDepth:=9) only [↓AL,AO,↓reduceIte,Nat.reduceEqDiff,Nat.reduceLT,Nat.reduceAdd,Nat.reduceBEq,c4,e5,jP,e11,c14,jM,c19,c22,decide_eq_true e23,e24f,e25]
     ·have e25f:XH.2=false:=Jw.mpr e25;have c26:=MV Ci Cj CW CX e12 e13;have c27:=TM Ci Cj CW CX Ci Cj CW CX e12 e13;rcases iS h with⟨e28,h⟩|⟨e28,h⟩
      ·have c29:=Mg Dl Et CO e15 e16 e17;have c30:=TT Dl Et CO Dl Et CO e15 e16 e17;rcases iS h with⟨e31,h⟩|⟨e31,h⟩
       ·obtain rfl:=Option.some.inj h
        simp (maxDischargeDepth:=9) only [↓AL,AO,↓reduceIte,Nat.reduceEqDiff,Nat.reduceLT,Nat.reduceAdd,Nat.reduceBEq,c4,e5,jP,e11,c14,jM,c19,c22,decide_eq_true e23,e24f,e25f,c27,e28,c30,e31]
       ·have e31f:(WC Dl Et CO Dl Et CO)=false:=Jw.mpr e31
        obtain rfl:=Option.some.inj h
        simp (maxDischargeDepth:=9) only [↓AL,AO,↓reduceIte,Nat.reduceEqDiff,Nat.reduceLT,Nat.reduceAdd,Nat.reduceBEq,c4,e5,jP,e11,c14,jM,c19,c22,decide_eq_true e23,e24f,e25f,c27,e28,c30,e31f]
      ·have e28f:(Vv Ci Cj CW CX Ci Cj CW CX)=false:=Jw.mpr e28
       obtain rfl:=Option.some.inj h
       simp (maxDischargeDepth:=9) only [↓AL,AO,↓reduceIte,Nat.reduceEqDiff,Nat.reduceLT,Nat.reduceAdd,Nat.reduceBEq,c4,e5,jP,e11,c14,jM,c19,c22,decide_eq_true e23,e24f,e25f,c27,e28f]
   ·obtain rfl:=Option.some.inj h
    simp (maxDischargeDepth:=9) only [↓AL,AO,↓reduceIte,Nat.reduceEqDiff,Nat.reduceLT,Nat.reduceAdd,Nat.reduceBEq,c4,e5,jP,e11,c14,jM,c19,c22,e23]
end Go.Proofs.YtiehjihckndgkaaGreat
