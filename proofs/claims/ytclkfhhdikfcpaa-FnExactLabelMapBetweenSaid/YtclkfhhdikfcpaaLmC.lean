/- Label maps between problems: the law, lifted. Conditions: none. -/
import Derived.Test.YtclkfhhdikfcpaaL6
import Derived.Test.YtclkfhhdikfcpaaLmA
import Derived.Test.YtclkfhhdikfcpaaPB
namespace Go.Proofs.Ytclkfhhdikfcpaa
open Go Dv
set_option linter.unusedSimpArgs false
set_option linter.unusedVariables false
set_option maxRecDepth 100000
set_option maxHeartbeats 4000000
noncomputable def E5(AU:Int)(AV:Int)(AJ:List (List Int))(AL:List (List Int))(AX:Int)(AY:Int)(AP:List (List Int))(AQ:List (List Int)):Option (Bool):=
 ck (M0 AJ)<|
 ck (M0 AL)<|
 ck (0≤(1048576:Int)∧(1048576:Int)≤1048576)<|
 if(WE (1048576:Int) AJ AL)<0 then
  some true
 else
  ck (M0 AP)<|
  ck (M0 AQ)<|
  ck (0≤(WE (1048576:Int) AJ AL)∧(WE (1048576:Int) AJ AL)≤1048576)<|
  if(WE (WE (1048576:Int) AJ AL) AP AQ)<0 then
   some true
  else
   ck (BM AJ)<|
   ck (BM AL)<|
   ck (BM AP)<|
   ck (BM AQ)<|
   (EM AU AV AJ AL AX AY AP AQ).bind fun zf=>
   match zf with
   | .inl q32_=>
    (EK AU AV AJ AL AX AY AP AQ).bind fun Bj=>
    ck (Bj.1.length<1099511627776)<|
    if(decide (Bj.1=q32_.1))=true then
     if Bj.2=true then
      if q32_.2=true then
       if(Dm AU AV AJ AL AU AV AJ AL)=true then
        if(Dm AX AY AP AQ AX AY AP AQ)=true then
         ck (0≤(1:Int)∧(1:Int)+CF AJ+CF AL<1099511627776)<|
         ck (0≤((1:Int)+CF AJ+CF AL)∧((1:Int)+CF AJ+CF AL)+CF AP+CF AQ<1099511627776)<|
         if(((1:Int)+CF AJ+CF AL)+CF AP+CF AQ)<0 then
          some false
         else
          ck (0≤(1:Int)∧(1:Int)<1099511627776)<|
          ck ((upto (1:Int) Bj.1.length).length<1099511627776)<|
          ck (0≤(1:Int)∧(1:Int)+(upto (1:Int) Bj.1.length).length<1099511627776)<|
          if(Gz (1:Int) (upto (1:Int) Bj.1.length))<0 then
           some false
          else
           if(Gz (1:Int) (upto (1:Int) Bj.1.length))=((1:Int)+Bj.1.length)then
            some true
           else
            some false
        else
         some false
       else
        some false
      else
       some false
     else
      if q32_.2=true then
       some false
      else
       if(Dm AU AV AJ AL AU AV AJ AL)=true then
        if(Dm AX AY AP AQ AX AY AP AQ)=true then
         ck (0≤(1:Int)∧(1:Int)+CF AJ+CF AL<1099511627776)<|
         ck (0≤((1:Int)+CF AJ+CF AL)∧((1:Int)+CF AJ+CF AL)+CF AP+CF AQ<1099511627776)<|
         if(((1:Int)+CF AJ+CF AL)+CF AP+CF AQ)<0 then
          some false
         else
          ck (0≤(1:Int)∧(1:Int)<1099511627776)<|
          ck ((upto (1:Int) Bj.1.length).length<1099511627776)<|
          ck (0≤(1:Int)∧(1:Int)+(upto (1:Int) Bj.1.length).length<1099511627776)<|
          if(Gz (1:Int) (upto (1:Int) Bj.1.length))<0 then
           some false
          else
           if(Gz (1:Int) (upto (1:Int) Bj.1.length))=((1:Int)+Bj.1.length)then
            some true
           else
            some false
        else
         some false
       else
        some false
    else
     some false
   | .inr q32_=>
    (EK AU AV AJ AL AX AY AP AQ).bind fun Bj=>
    ck (Bj.1.length<1099511627776)<|
    if(decide (Bj.1=q32_.1))=true then
     if Bj.2=true then
      if q32_.2=true then
       if(Dm AU AV AJ AL AU AV AJ AL)=true then
        if(Dm AX AY AP AQ AX AY AP AQ)=true then
         ck (0≤(1:Int)∧(1:Int)+CF AJ+CF AL<1099511627776)<|
         ck (0≤((1:Int)+CF AJ+CF AL)∧((1:Int)+CF AJ+CF AL)+CF AP+CF AQ<1099511627776)<|
         if(((1:Int)+CF AJ+CF AL)+CF AP+CF AQ)<0 then
          some false
         else
          ck (0≤(1:Int)∧(1:Int)<1099511627776)<|
          ck ((upto (1:Int) Bj.1.length).length<1099511627776)<|
          ck (0≤(1:Int)∧(1:Int)+(upto (1:Int) Bj.1.length).length<1099511627776)<|
          if(Gz (1:Int) (upto (1:Int) Bj.1.length))<0 then
           some false
          else
           if(Gz (1:Int) (upto (1:Int) Bj.1.length))=((1:Int)+Bj.1.length)then
            some true
           else
            some false
        else
         some false
       else
        some false
      else
       some false
     else
      if q32_.2=true then
       some false
      else
       if(Dm AU AV AJ AL AU AV AJ AL)=true then
        if(Dm AX AY AP AQ AX AY AP AQ)=true then
         ck (0≤(1:Int)∧(1:Int)+CF AJ+CF AL<1099511627776)<|
         ck (0≤((1:Int)+CF AJ+CF AL)∧((1:Int)+CF AJ+CF AL)+CF AP+CF AQ<1099511627776)<|
         if(((1:Int)+CF AJ+CF AL)+CF AP+CF AQ)<0 then
          some false
         else
          ck (0≤(1:Int)∧(1:Int)<1099511627776)<|
          ck ((upto (1:Int) Bj.1.length).length<1099511627776)<|
          ck (0≤(1:Int)∧(1:Int)+(upto (1:Int) Bj.1.length).length<1099511627776)<|
          if(Gz (1:Int) (upto (1:Int) Bj.1.length))<0 then
           some false
          else
           if(Gz (1:Int) (upto (1:Int) Bj.1.length))=((1:Int)+Bj.1.length)then
            some true
           else
            some false
        else
         some false
       else
        some false
    else
     some false
def k3:SC:= .seq (.ops [oX 2 (.box 24 (tK 0)) 0,oX 3 (.box 24 (tK 1)) 0,oX 4 (.assign (.const (.bool false))) 4]) (.seq (.ops [oX 5 (.assign (iK 1048576)) 3]) (.seq (.ops [oL 17 24 2 24,oM 18 5 3,oC 19 10 [(tK 17),(tK 18)] [24,3] 3,oA 5 19 3]) (.seq (.seq (.ops [oM 20 5 3,oB 21 .lss 3 (tK 20) (iK 0) 3 4]) (.cond (tK 21) (.seq (.ops [oX 4 (.assign (.const (.bool true))) 4]) .ret) .skip)) (.seq (.ops [oL 22 24 3 24,oM 23 5 3,oC 24 10 [(tK 22),(tK 23)] [24,3] 3,oA 5 24 3]) (.seq (.seq (.ops [oM 25 5 3,oB 26 .lss 3 (tK 25) (iK 0) 3 4]) (.cond (tK 26) (.seq (.ops [oX 4 (.assign (.const (.bool true))) 4]) .ret) .skip)) (.seq (.draws [(⟨[28,2,2],[28,29,30,31,32,29,31,27,32,33,34,6,33,32,7,34],[28]⟩,oL 28 24 2 24),(⟨[29,28,2],[28,29,30,31,32,29,31,27,32,33,34,6,33,32,7,34],[29]⟩,oC 29 12 [(tK 28)] [24] 29),(⟨[30,3,3],[28,29,30,31,32,29,31,27,32,33,34,6,33,32,7,34],[30]⟩,oL 30 24 3 24),(⟨[31,30,3],[28,29,30,31,32,29,31,27,32,33,34,6,33,32,7,34],[31]⟩,oC 31 12 [(tK 30)] [24] 29),(⟨[32,29,31,29,31],[28,29,30,31,32,29,31,27,32,33,34,6,33,32,7,34],[32,29,31]⟩,oC 32 11 [(tK 29),(tK 31)] [29,29] 27),(⟨[27,32,32],[28,29,30,31,32,29,31,27,32,33,34,6,33,32,7,34],[27,32]⟩,oM 27 32 27),
 (⟨[33,27],[28,29,30,31,32,29,31,27,32,33,34,6,33,32,7,34],[33]⟩,oE 33 27 0 26),(⟨[34,27],[28,29,30,31,32,29,31,27,32,33,34,6,33,32,7,34],[34]⟩,oE 34 27 1 4),(⟨[6,33,32],[28,29,30,31,32,29,31,27,32,33,34,6,33,32,7,34],[6,33,32]⟩,oA 6 33 26),(⟨[7,34],[28,29,30,31,32,29,31,27,32,33,34,6,33,32,7,34],[7,34]⟩,oA 7 34 4)]) (.seq (.ops [oL 35 24 2 24,oC 36 12 [(tK 35)] [24] 29,oX 8 (.alloc 29) 0,oS 29 8 36]) (.seq (.ops [oL 37 24 3 24,oC 38 12 [(tK 37)] [24] 29,oX 9 (.alloc 29) 0,oS 29 9 38]) (.seq (.ops [oL 40 29 8 29,oL 41 29 9 29,oC 42 13 [(tK 40),(tK 41)] [29,29] 27,oM 39 42 27,oE 43 39 0 26,oE 44 39 1 4,oA 10 43 26,oA 11 44 4]) (.seq (.seq (.ops [oM 45 10 26,oM 46 6 26,oC 47 14 [(tK 45),(tK 46)] [26,26] 4,oX 48 (.unOp .not 4 (tK 47)) 4,oM 49 48 4,⟨(some 50),(.move (tK 11)),4,(some (some 49,false))⟩,⟨(some 51),(.move (tK 7)),4,(some (some 49,false))⟩,⟨(some 52),(.binOp .neq 4 (tK 50) (tK 51) 4),4,(some (some 49,false))⟩,oX 53 (.pick (tK 49) (.const (.bool true)) (tK 52)) 4]) (.cond (tK 53) (.seq (.ops [oX 4 (.assign (.const (.bool false))) 4]) .ret) .skip)) (.seq (.seq (.draws [(⟨[54,8,8],[54,55,56,57,58],[54]⟩,oL 54 29 8 29),(⟨[55,2,2],[54,55,56,57,58],[55]⟩,oL 55 24 2 24),
 (⟨[56,55,2],[54,55,56,57,58],[56]⟩,oC 56 12 [(tK 55)] [24] 29),(⟨[57,54,56,8,56],[54,55,56,57,58],[57]⟩,oC 57 15 [(tK 54),(tK 56)] [29,29] 4),(⟨[58,57,57],[54,55,56,57,58],[58]⟩,oX 58 (.unOp .not 4 (tK 57)) 4)]) (.cond (tK 58) (.seq (.ops [oX 4 (.assign (.const (.bool false))) 4]) .ret) .skip)) (.seq (.seq (.draws [(⟨[59,9,9],[59,60,61,62,63],[59]⟩,oL 59 29 9 29),(⟨[60,3,3],[59,60,61,62,63],[60]⟩,oL 60 24 3 24),(⟨[61,60,3],[59,60,61,62,63],[61]⟩,oC 61 12 [(tK 60)] [24] 29),(⟨[62,59,61,9,61],[59,60,61,62,63],[62]⟩,oC 62 15 [(tK 59),(tK 61)] [29,29] 4),(⟨[63,62,62],[59,60,61,62,63],[63]⟩,oX 63 (.unOp .not 4 (tK 62)) 4)]) (.cond (tK 63) (.seq (.ops [oX 4 (.assign (.const (.bool false))) 4]) .ret) .skip)) (.seq (.ops [oX 12 (.assign (iK 1)) 3]) (.seq (.ops [oL 64 29 8 29,oM 65 12 3,oC 66 16 [(tK 64),(tK 65)] [29,3] 3,oA 12 66 3]) (.seq (.ops [oL 67 29 9 29,oM 68 12 3,oC 69 16 [(tK 67),(tK 68)] [29,3] 3,oA 12 69 3]) (.seq (.seq (.ops [oM 70 12 3,oB 71 .lss 3 (tK 70) (iK 0) 3 4,oM 72 71 4,⟨(some 73),(.move (tK 10)),26,(some (some 72,false))⟩,⟨(some 74),(.move (tK 6)),26,(some (some 72,false))⟩,⟨(some 75),(.call ⟨(.value (.func 14)), #[(tK 73),(tK 74)], #[26,26]⟩),4,(some (some 72,false))⟩,
 ⟨(some 76),(.unOp .not 4 (tK 75)),4,(some (some 72,false))⟩,oX 77 (.pick (tK 72) (.const (.bool true)) (tK 76)) 4,oM 78 77 4,⟨(some 79),(.move (tK 11)),4,(some (some 78,false))⟩,⟨(some 80),(.move (tK 7)),4,(some (some 78,false))⟩,⟨(some 81),(.binOp .neq 4 (tK 79) (tK 80) 4),4,(some (some 78,false))⟩,oX 82 (.pick (tK 78) (.const (.bool true)) (tK 81)) 4]) (.cond (tK 82) (.seq (.ops [oX 4 (.assign (.const (.bool false))) 4]) .ret) .skip)) (.seq (.ops [oX 13 (.assign (iK 1)) 3]) (.seq (.ops [oM 83 10 26,oM 84 13 3,oC 85 17 [(tK 83),(tK 84)] [26,3] 3,oA 13 85 3]) (.seq (.ops [oX 14 (.assign (iK 1)) 3]) (.seq (.ops [oM 86 10 26,oM 87 14 3,oC 88 18 [(tK 86),(tK 87)] [26,3] 3,oA 14 88 3]) (.seq (.seq (.ops [oM 89 14 3,oB 90 .lss 3 (tK 89) (iK 0) 3 4]) (.cond (tK 90) (.seq (.ops [oX 4 (.assign (.const (.bool false))) 4]) .ret) .skip)) (.seq (.seq (.ops [oM 91 14 3,oM 92 13 3,oB 93 .neq 3 (tK 91) (tK 92) 3 4]) (.cond (tK 93) (.seq (.ops [oX 4 (.assign (.const (.bool false))) 4]) .ret) .skip)) (.seq (.draws [(⟨[95,2,2],[95,96,97,98,99,94,99,100,101,15,100,99,16,101],[95]⟩,oL 95 24 2 24),(⟨[96,95,2],[95,96,97,98,99,94,99,100,101,15,100,99,16,101],[96]⟩,oC 96 12 [(tK 95)] [24] 29),
 (⟨[97,3,3],[95,96,97,98,99,94,99,100,101,15,100,99,16,101],[97]⟩,oL 97 24 3 24),(⟨[98,97,3],[95,96,97,98,99,94,99,100,101,15,100,99,16,101],[98]⟩,oC 98 12 [(tK 97)] [24] 29),(⟨[99,96,98,96,98],[95,96,97,98,99,94,99,100,101,15,100,99,16,101],[99]⟩,oC 99 13 [(tK 96),(tK 98)] [29,29] 27),(⟨[94,99,99],[95,96,97,98,99,94,99,100,101,15,100,99,16,101],[94,99]⟩,oM 94 99 27),(⟨[100,94],[95,96,97,98,99,94,99,100,101,15,100,99,16,101],[100]⟩,oE 100 94 0 26),(⟨[101,94],[95,96,97,98,99,94,99,100,101,15,100,99,16,101],[101]⟩,oE 101 94 1 4),(⟨[15,100,99],[95,96,97,98,99,94,99,100,101,15,100,99,16,101],[15,100,99]⟩,oA 15 100 26),(⟨[16,101],[95,96,97,98,99,94,99,100,101,15,100,99,16,101],[16,101]⟩,oA 16 101 4)]) (.seq (.seq (.ops [oM 102 15 26,oM 103 6 26,oC 104 14 [(tK 102),(tK 103)] [26,26] 4,oX 105 (.unOp .not 4 (tK 104)) 4,oM 106 105 4,⟨(some 107),(.move (tK 16)),4,(some (some 106,false))⟩,⟨(some 108),(.move (tK 7)),4,(some (some 106,false))⟩,⟨(some 109),(.binOp .neq 4 (tK 107) (tK 108) 4),4,(some (some 106,false))⟩,oX 110 (.pick (tK 106) (.const (.bool true)) (tK 109)) 4]) (.cond (tK 110) (.seq (.ops [oX 4 (.assign (.const (.bool false))) 4]) .ret) .skip)) (.seq (.ops [oX 14 (.assign (iK 1)) 3])
 (.seq (.ops [oM 111 10 26,oM 112 14 3,oC 113 18 [(tK 111),(tK 112)] [26,3] 3,oA 14 113 3]) (.seq (.seq (.ops [oM 114 14 3,oB 115 .lss 3 (tK 114) (iK 0) 3 4]) (.cond (tK 115) (.seq (.ops [oX 4 (.assign (.const (.bool false))) 4]) .ret) .skip)) (.seq (.seq (.ops [oM 116 14 3,oM 117 13 3,oB 118 .neq 3 (tK 116) (tK 117) 3 4]) (.cond (tK 118) (.seq (.ops [oX 4 (.assign (.const (.bool false))) 4]) .ret) .skip)) (.seq (.ops [oX 4 (.assign (.const (.bool true))) 4]) .ret)))))))))))))))))))))))))))))
theorem A5w:Try.f3.body.map (Ct lends)=some k3:=by kernel_rfl
theorem ok3:DL Try.f3 2=true:=by kernel_rfl
theorem c3{a l:List D}{r:D×List D}(h:D6 Y.env k3 (I6 Aa l.length [ResultVar.tmp 4] r) (entry a l))(ha:a.length=2):Y.call 3 a l=some r:=
 Ag (Y:=Y) rfl Try.func3 (ha▸ok3) A5w h
theorem Jd(AU:Int)(AV:Int)(AJ:List (List Int))(AL:List (List Int))(AX:Int)(AY:Int)(AP:List (List Int))(AQ:List (List Int)){r:Bool}(h:E5 AU AV AJ AL AX AY AP AQ=some r):Y.call 3 [D.agg [D.int .i64 AU,D.int .i64 AV,D.sl 26 (A9 (fun x=>D.sl 3 (A9 (D.int .i64) x)) AJ),D.sl 26 (A9 (fun x=>D.sl 3 (A9 (D.int .i64) x)) AL)],D.agg [D.int .i64 AX,D.int .i64 AY,D.sl 26 (A9 (fun x=>D.sl 3 (A9 (D.int .i64) x)) AP),D.sl 26 (A9 (fun x=>D.sl 3 (A9 (D.int .i64) x)) AQ)]] []=some (D.bool r,[]):=by
 refine c3 ?_ rfl;unfold k3;unfold E5 at h;obtain⟨e1,h⟩:=Bw h;obtain⟨e2,h⟩:=Bw h;obtain⟨e3,h⟩:=Bw h;have c4:=NH AU AV AJ AL (1048576:Int) e1 e2 e3;by_cases e5:(WE (1048576:Int) AJ AL)<0
 ·rw [if_pos e5]at h
  obtain rfl:=Option.some.inj h
  simp (maxDischargeDepth:=9) only [↓AB,AC,Ah,↓reduceIte,Nat.reduceEqDiff,Nat.reduceLT,Nat.reduceLeDiff,Nat.reduceAdd,Nat.reduceMul,Nat.reduceMod,Nat.reduceDiv,Nat.reducePow,Nat.reduceSub,Nat.reduceBEq,Int.reduceLE,Int.reduceLT,Int.reduceEq,Int.reduceSub,Int.reduceAdd,Int.reduceToNat,Int.reduceNeg,e1,e2,e3.1,e3.2,c4,e5]<;>(repeat' apply A7)<;>first|rfl|exact⟨_,rfl⟩|exact⟨_,_,rfl⟩|simp [A9,A8]
 ·rw [if_neg e5]at h;obtain⟨e6,h⟩:=Bw h;obtain⟨e7,h⟩:=Bw h;obtain⟨e8,h⟩:=Bw h;have c9:=NH AX AY AP AQ (WE (1048576:Int) AJ AL) e6 e7 e8;by_cases e10:(WE (WE (1048576:Int) AJ AL) AP AQ)<0
  ·rw [if_pos e10]at h
   obtain rfl:=Option.some.inj h
   simp (maxDischargeDepth:=9) only [↓AB,AC,Ah,↓reduceIte,Nat.reduceEqDiff,Nat.reduceLT,Nat.reduceLeDiff,Nat.reduceAdd,Nat.reduceMul,Nat.reduceMod,Nat.reduceDiv,Nat.reducePow,Nat.reduceSub,Nat.reduceBEq,Int.reduceLE,Int.reduceLT,Int.reduceEq,Int.reduceSub,Int.reduceAdd,Int.reduceToNat,Int.reduceNeg,e1,e2,e3.1,e3.2,c4,e5,e6,e7,e8.1,e8.2,c9,e10]<;>(repeat' apply A7)<;>first|rfl|exact⟨_,rfl⟩|exact⟨_,_,rfl⟩|simp [A9,A8]
  ·rw [if_neg e10]at h;obtain⟨e11,h⟩:=Bw h;obtain⟨e12,h⟩:=Bw h;have Ig:=Ad AU AV AJ AL e11 e12;obtain⟨e14,h⟩:=Bw h;obtain⟨e15,h⟩:=Bw h;have KH:=Ad AX AY AP AQ e14 e15;obtain⟨zf,hl17,h⟩:=BC h;try dsimp only at h
   have Jr:=MI AU AV AJ AL AX AY AP AQ hl17;rcases zf with q32_|q32_
   ·dsimp only at h Jr;by_cases e18:(!q32_.1.isEmpty)=true
    ·skip
     have c19:=Ad AU AV AJ AL e11 e12;have c20:=Ad AX AY AP AQ e14 e15;obtain⟨Bj,hl21,h⟩:=BC h;try dsimp only at h
     have c21:=Gb AU AV AJ AL AX AY AP AQ hl21;obtain⟨e22,h⟩:=Bw h;have c23:=CV Bj.1 q32_.1 e22;by_cases e24:(decide (Bj.1=q32_.1))=true
     ·rw [if_pos e24]at h;by_cases e25:Bj.2=true
      ·rw [if_pos e25]at h;by_cases e26:q32_.2=true
       ·rw [if_pos e26]at h;have c27:=Ad AU AV AJ AL e11 e12;have c28:=CQ AU AV AJ AL AU AV AJ AL e11 e12;by_cases e29:(Dm AU AV AJ AL AU AV AJ AL)=true
        ·rw [if_pos e29]at h;have c30:=Ad AX AY AP AQ e14 e15;have c31:=CQ AX AY AP AQ AX AY AP AQ e14 e15;by_cases e32:(Dm AX AY AP AQ AX AY AP AQ)=true
         ·rw [if_pos e32]at h;obtain⟨e33,h⟩:=Bw h;have c34:=Bn AU AV AJ AL (1:Int) e11 e12 e33;obtain⟨e35,h⟩:=Bw h;have c36:=Bn AX AY AP AQ ((1:Int)+CF AJ+CF AL) e14 e15 e35;by_cases e37:(((1:Int)+CF AJ+CF AL)+CF AP+CF AQ)<0
          ·rw [if_pos e37]at h
           obtain rfl:=Option.some.inj h
           simp (maxDischargeDepth:=9) only [↓AB,AC,Ah,↓reduceIte,Nat.reduceEqDiff,Nat.reduceLT,Nat.reduceLeDiff,Nat.reduceAdd,Nat.reduceMul,Nat.reduceMod,Nat.reduceDiv,Nat.reducePow,Nat.reduceSub,Nat.reduceBEq,Int.reduceLE,Int.reduceLT,Int.reduceEq,Int.reduceSub,Int.reduceAdd,Int.reduceToNat,Int.reduceNeg,e1,e2,e3.1,e3.2,c4,e5,e6,e7,e8.1,e8.2,c9,e10,e11,e12,Ig,e14,e15,KH,Jr,e18,c19,c20,c21,e22,c23,e24,e25,e26,c27,c28,e29,c30,c31,e32,e33.1,e33.2,c34,e35.1,e35.2,c36,e37]<;>(repeat' apply A7)<;>first|rfl|exact⟨_,rfl⟩|exact⟨_,_,rfl⟩|simp [A9,A8]
          ·rw [if_neg e37]at h;have c38:=CV Bj.1 q32_.1 e22;obtain⟨e39,h⟩:=Bw h;have Q5:=FT Bj.1 (1:Int) e22 e39;obtain⟨e41,h⟩:=Bw h;obtain⟨e42,h⟩:=Bw h;have YP:=Ck (upto (1:Int) Bj.1.length) (1:Int) e41 e42;by_cases e44:(Gz (1:Int) (upto (1:Int) Bj.1.length))<0
           ·rw [if_pos e44]at h
            obtain rfl:=Option.some.inj h
            simp (maxDischargeDepth:=9) only [↓AB,AC,Ah,↓reduceIte,Nat.reduceEqDiff,Nat.reduceLT,Nat.reduceLeDiff,Nat.reduceAdd,Nat.reduceMul,Nat.reduceMod,Nat.reduceDiv,Nat.reducePow,Nat.reduceSub,Nat.reduceBEq,Int.reduceLE,Int.reduceLT,Int.reduceEq,Int.reduceSub,Int.reduceAdd,Int.reduceToNat,Int.reduceNeg,e1,e2,e3.1,e3.2,c4,e5,e6,e7,e8.1,e8.2,c9,e10,e11,e12,Ig,e14,e15,KH,Jr,e18,c19,c20,c21,e22,c23,e24,e25,e26,c27,c28,e29,c30,c31,e32,e33.1,e33.2,c34,e35.1,e35.2,c36,e37,c38,e39.1,e39.2,Q5,e41,e42.1,e42.2,YP,e44]<;>(repeat' apply A7)<;>first|rfl|exact⟨_,rfl⟩|exact⟨_,_,rfl⟩|simp [A9,A8]
           ·rw [if_neg e44]at h;by_cases e45:(Gz (1:Int) (upto (1:Int) Bj.1.length))=((1:Int)+Bj.1.length)
            ·rw [if_pos e45]at h;have YO:=Ad AU AV AJ AL e11 e12;have mV:=Ad AX AY AP AQ e14 e15;have lZ:=CV Bj.1 q32_.1 e22;have YI:=Ck (upto (1:Int) Bj.1.length) (1:Int) e41 e42
             obtain rfl:=Option.some.inj h
             simp (maxDischargeDepth:=9) only [↓AB,AC,Ah,↓reduceIte,Nat.reduceEqDiff,Nat.reduceLT,Nat.reduceLeDiff,Nat.reduceAdd,Nat.reduceMul,Nat.reduceMod,Nat.reduceDiv,Nat.reducePow,Nat.reduceSub,Nat.reduceBEq,Int.reduceLE,Int.reduceLT,Int.reduceEq,Int.reduceSub,Int.reduceAdd,Int.reduceToNat,Int.reduceNeg,e1,e2,e3.1,e3.2,c4,e5,e6,e7,e8.1,e8.2,c9,e10,e11,e12,Ig,e14,e15,KH,Jr,e18,c19,c20,c21,e22,c23,e24,e25,e26,c27,c28,e29,c30,c31,e32,e33.1,e33.2,c34,e35.1,e35.2,c36,e37,c38,e39.1,e39.2,Q5,e41,e42.1,e42.2,YP,e44,decide_eq_true e45,YO,mV,lZ,YI]<;>(repeat' apply A7)<;>first|rfl|exact⟨_,rfl⟩|exact⟨_,_,rfl⟩|simp [A9,A8]
            ·rw [if_neg e45]at h
             obtain rfl:=Option.some.inj h
             simp (maxDischargeDepth:=9) only [↓AB,AC,Ah,↓reduceIte,Nat.reduceEqDiff,Nat.reduceLT,Nat.reduceLeDiff,Nat.reduceAdd,Nat.reduceMul,Nat.reduceMod,Nat.reduceDiv,Nat.reducePow,Nat.reduceSub,Nat.reduceBEq,Int.reduceLE,Int.reduceLT,Int.reduceEq,Int.reduceSub,Int.reduceAdd,Int.reduceToNat,Int.reduceNeg,e1,e2,e3.1,e3.2,c4,e5,e6,e7,e8.1,e8.2,c9,e10,e11,e12,Ig,e14,e15,KH,Jr,e18,c19,c20,c21,e22,c23,e24,e25,e26,c27,c28,e29,c30,c31,e32,e33.1,e33.2,c34,e35.1,e35.2,c36,e37,c38,e39.1,e39.2,Q5,e41,e42.1,e42.2,YP,e44,e45]<;>(repeat' apply A7)<;>first|rfl|exact⟨_,rfl⟩|exact⟨_,_,rfl⟩|simp [A9,A8]
         ·rw [if_neg e32]at h;have e32f:(Dm AX AY AP AQ AX AY AP AQ)=false:=Gm.mpr e32
          obtain rfl:=Option.some.inj h
          simp (maxDischargeDepth:=9) only [↓AB,AC,Ah,↓reduceIte,Nat.reduceEqDiff,Nat.reduceLT,Nat.reduceLeDiff,Nat.reduceAdd,Nat.reduceMul,Nat.reduceMod,Nat.reduceDiv,Nat.reducePow,Nat.reduceSub,Nat.reduceBEq,Int.reduceLE,Int.reduceLT,Int.reduceEq,Int.reduceSub,Int.reduceAdd,Int.reduceToNat,Int.reduceNeg,e1,e2,e3.1,e3.2,c4,e5,e6,e7,e8.1,e8.2,c9,e10,e11,e12,Ig,e14,e15,KH,Jr,e18,c19,c20,c21,e22,c23,e24,e25,e26,c27,c28,e29,c30,c31,e32f]<;>(repeat' apply A7)<;>first|rfl|exact⟨_,rfl⟩|exact⟨_,_,rfl⟩|simp [A9,A8]
        ·rw [if_neg e29]at h;have e29f:(Dm AU AV AJ AL AU AV AJ AL)=false:=Gm.mpr e29
         obtain rfl:=Option.some.inj h
         simp (maxDischargeDepth:=9) only [↓AB,AC,Ah,↓reduceIte,Nat.reduceEqDiff,Nat.reduceLT,Nat.reduceLeDiff,Nat.reduceAdd,Nat.reduceMul,Nat.reduceMod,Nat.reduceDiv,Nat.reducePow,Nat.reduceSub,Nat.reduceBEq,Int.reduceLE,Int.reduceLT,Int.reduceEq,Int.reduceSub,Int.reduceAdd,Int.reduceToNat,Int.reduceNeg,e1,e2,e3.1,e3.2,c4,e5,e6,e7,e8.1,e8.2,c9,e10,e11,e12,Ig,e14,e15,KH,Jr,e18,c19,c20,c21,e22,c23,e24,e25,e26,c27,c28,e29f]<;>(repeat' apply A7)<;>first|rfl|exact⟨_,rfl⟩|exact⟨_,_,rfl⟩|simp [A9,A8]
       ·rw [if_neg e26]at h;have e26f:q32_.2=false:=Gm.mpr e26
        obtain rfl:=Option.some.inj h
        simp (maxDischargeDepth:=9) only [↓AB,AC,Ah,↓reduceIte,Nat.reduceEqDiff,Nat.reduceLT,Nat.reduceLeDiff,Nat.reduceAdd,Nat.reduceMul,Nat.reduceMod,Nat.reduceDiv,Nat.reducePow,Nat.reduceSub,Nat.reduceBEq,Int.reduceLE,Int.reduceLT,Int.reduceEq,Int.reduceSub,Int.reduceAdd,Int.reduceToNat,Int.reduceNeg,e1,e2,e3.1,e3.2,c4,e5,e6,e7,e8.1,e8.2,c9,e10,e11,e12,Ig,e14,e15,KH,Jr,e18,c19,c20,c21,e22,c23,e24,e25,e26f]<;>(repeat' apply A7)<;>first|rfl|exact⟨_,rfl⟩|exact⟨_,_,rfl⟩|simp [A9,A8]
      ·rw [if_neg e25]at h;have e25f:Bj.2=false:=Gm.mpr e25;by_cases e26:q32_.2=true
       ·rw [if_pos e26]at h
        obtain rfl:=Option.some.inj h
        simp (maxDischargeDepth:=9) only [↓AB,AC,Ah,↓reduceIte,Nat.reduceEqDiff,Nat.reduceLT,Nat.reduceLeDiff,Nat.reduceAdd,Nat.reduceMul,Nat.reduceMod,Nat.reduceDiv,Nat.reducePow,Nat.reduceSub,Nat.reduceBEq,Int.reduceLE,Int.reduceLT,Int.reduceEq,Int.reduceSub,Int.reduceAdd,Int.reduceToNat,Int.reduceNeg,e1,e2,e3.1,e3.2,c4,e5,e6,e7,e8.1,e8.2,c9,e10,e11,e12,Ig,e14,e15,KH,Jr,e18,c19,c20,c21,e22,c23,e24,e25f,e26]<;>(repeat' apply A7)<;>first|rfl|exact⟨_,rfl⟩|exact⟨_,_,rfl⟩|simp [A9,A8]
       ·rw [if_neg e26]at h;have e26f:q32_.2=false:=Gm.mpr e26;have c27:=Ad AU AV AJ AL e11 e12;have c28:=CQ AU AV AJ AL AU AV AJ AL e11 e12;by_cases e29:(Dm AU AV AJ AL AU AV AJ AL)=true
        ·rw [if_pos e29]at h;have c30:=Ad AX AY AP AQ e14 e15;have c31:=CQ AX AY AP AQ AX AY AP AQ e14 e15;by_cases e32:(Dm AX AY AP AQ AX AY AP AQ)=true
         ·rw [if_pos e32]at h;obtain⟨e33,h⟩:=Bw h;have c34:=Bn AU AV AJ AL (1:Int) e11 e12 e33;obtain⟨e35,h⟩:=Bw h;have c36:=Bn AX AY AP AQ ((1:Int)+CF AJ+CF AL) e14 e15 e35;by_cases e37:(((1:Int)+CF AJ+CF AL)+CF AP+CF AQ)<0
          ·rw [if_pos e37]at h
           obtain rfl:=Option.some.inj h
           simp (maxDischargeDepth:=9) only [↓AB,AC,Ah,↓reduceIte,Nat.reduceEqDiff,Nat.reduceLT,Nat.reduceLeDiff,Nat.reduceAdd,Nat.reduceMul,Nat.reduceMod,Nat.reduceDiv,Nat.reducePow,Nat.reduceSub,Nat.reduceBEq,Int.reduceLE,Int.reduceLT,Int.reduceEq,Int.reduceSub,Int.reduceAdd,Int.reduceToNat,Int.reduceNeg,e1,e2,e3.1,e3.2,c4,e5,e6,e7,e8.1,e8.2,c9,e10,e11,e12,Ig,e14,e15,KH,Jr,e18,c19,c20,c21,e22,c23,e24,e25f,e26f,c27,c28,e29,c30,c31,e32,e33.1,e33.2,c34,e35.1,e35.2,c36,e37]<;>(repeat' apply A7)<;>first|rfl|exact⟨_,rfl⟩|exact⟨_,_,rfl⟩|simp [A9,A8]
          ·rw [if_neg e37]at h;have c38:=CV Bj.1 q32_.1 e22;obtain⟨e39,h⟩:=Bw h;have Q5:=FT Bj.1 (1:Int) e22 e39;obtain⟨e41,h⟩:=Bw h;obtain⟨e42,h⟩:=Bw h;have YP:=Ck (upto (1:Int) Bj.1.length) (1:Int) e41 e42;by_cases e44:(Gz (1:Int) (upto (1:Int) Bj.1.length))<0
           ·rw [if_pos e44]at h
            obtain rfl:=Option.some.inj h
            simp (maxDischargeDepth:=9) only [↓AB,AC,Ah,↓reduceIte,Nat.reduceEqDiff,Nat.reduceLT,Nat.reduceLeDiff,Nat.reduceAdd,Nat.reduceMul,Nat.reduceMod,Nat.reduceDiv,Nat.reducePow,Nat.reduceSub,Nat.reduceBEq,Int.reduceLE,Int.reduceLT,Int.reduceEq,Int.reduceSub,Int.reduceAdd,Int.reduceToNat,Int.reduceNeg,e1,e2,e3.1,e3.2,c4,e5,e6,e7,e8.1,e8.2,c9,e10,e11,e12,Ig,e14,e15,KH,Jr,e18,c19,c20,c21,e22,c23,e24,e25f,e26f,c27,c28,e29,c30,c31,e32,e33.1,e33.2,c34,e35.1,e35.2,c36,e37,c38,e39.1,e39.2,Q5,e41,e42.1,e42.2,YP,e44]<;>(repeat' apply A7)<;>first|rfl|exact⟨_,rfl⟩|exact⟨_,_,rfl⟩|simp [A9,A8]
           ·rw [if_neg e44]at h;by_cases e45:(Gz (1:Int) (upto (1:Int) Bj.1.length))=((1:Int)+Bj.1.length)
            ·rw [if_pos e45]at h;have YO:=Ad AU AV AJ AL e11 e12;have mV:=Ad AX AY AP AQ e14 e15;have lZ:=CV Bj.1 q32_.1 e22;have YI:=Ck (upto (1:Int) Bj.1.length) (1:Int) e41 e42
             obtain rfl:=Option.some.inj h
             simp (maxDischargeDepth:=9) only [↓AB,AC,Ah,↓reduceIte,Nat.reduceEqDiff,Nat.reduceLT,Nat.reduceLeDiff,Nat.reduceAdd,Nat.reduceMul,Nat.reduceMod,Nat.reduceDiv,Nat.reducePow,Nat.reduceSub,Nat.reduceBEq,Int.reduceLE,Int.reduceLT,Int.reduceEq,Int.reduceSub,Int.reduceAdd,Int.reduceToNat,Int.reduceNeg,e1,e2,e3.1,e3.2,c4,e5,e6,e7,e8.1,e8.2,c9,e10,e11,e12,Ig,e14,e15,KH,Jr,e18,c19,c20,c21,e22,c23,e24,e25f,e26f,c27,c28,e29,c30,c31,e32,e33.1,e33.2,c34,e35.1,e35.2,c36,e37,c38,e39.1,e39.2,Q5,e41,e42.1,e42.2,YP,e44,decide_eq_true e45,YO,mV,lZ,YI]<;>(repeat' apply A7)<;>first|rfl|exact⟨_,rfl⟩|exact⟨_,_,rfl⟩|simp [A9,A8]
            ·rw [if_neg e45]at h
             obtain rfl:=Option.some.inj h
             simp (maxDischargeDepth:=9) only [↓AB,AC,Ah,↓reduceIte,Nat.reduceEqDiff,Nat.reduceLT,Nat.reduceLeDiff,Nat.reduceAdd,Nat.reduceMul,Nat.reduceMod,Nat.reduceDiv,Nat.reducePow,Nat.reduceSub,Nat.reduceBEq,Int.reduceLE,Int.reduceLT,Int.reduceEq,Int.reduceSub,Int.reduceAdd,Int.reduceToNat,Int.reduceNeg,e1,e2,e3.1,e3.2,c4,e5,e6,e7,e8.1,e8.2,c9,e10,e11,e12,Ig,e14,e15,KH,Jr,e18,c19,c20,c21,e22,c23,e24,e25f,e26f,c27,c28,e29,c30,c31,e32,e33.1,e33.2,c34,e35.1,e35.2,c36,e37,c38,e39.1,e39.2,Q5,e41,e42.1,e42.2,YP,e44,e45]<;>(repeat' apply A7)<;>first|rfl|exact⟨_,rfl⟩|exact⟨_,_,rfl⟩|simp [A9,A8]
         ·rw [if_neg e32]at h;have e32f:(Dm AX AY AP AQ AX AY AP AQ)=false:=Gm.mpr e32
          obtain rfl:=Option.some.inj h
          simp (maxDischargeDepth:=9) only [↓AB,AC,Ah,↓reduceIte,Nat.reduceEqDiff,Nat.reduceLT,Nat.reduceLeDiff,Nat.reduceAdd,Nat.reduceMul,Nat.reduceMod,Nat.reduceDiv,Nat.reducePow,Nat.reduceSub,Nat.reduceBEq,Int.reduceLE,Int.reduceLT,Int.reduceEq,Int.reduceSub,Int.reduceAdd,Int.reduceToNat,Int.reduceNeg,e1,e2,e3.1,e3.2,c4,e5,e6,e7,e8.1,e8.2,c9,e10,e11,e12,Ig,e14,e15,KH,Jr,e18,c19,c20,c21,e22,c23,e24,e25f,e26f,c27,c28,e29,c30,c31,e32f]<;>(repeat' apply A7)<;>first|rfl|exact⟨_,rfl⟩|exact⟨_,_,rfl⟩|simp [A9,A8]
        ·rw [if_neg e29]at h;have e29f:(Dm AU AV AJ AL AU AV AJ AL)=false:=Gm.mpr e29
         obtain rfl:=Option.some.inj h
         simp (maxDischargeDepth:=9) only [↓AB,AC,Ah,↓reduceIte,Nat.reduceEqDiff,Nat.reduceLT,Nat.reduceLeDiff,Nat.reduceAdd,Nat.reduceMul,Nat.reduceMod,Nat.reduceDiv,Nat.reducePow,Nat.reduceSub,Nat.reduceBEq,Int.reduceLE,Int.reduceLT,Int.reduceEq,Int.reduceSub,Int.reduceAdd,Int.reduceToNat,Int.reduceNeg,e1,e2,e3.1,e3.2,c4,e5,e6,e7,e8.1,e8.2,c9,e10,e11,e12,Ig,e14,e15,KH,Jr,e18,c19,c20,c21,e22,c23,e24,e25f,e26f,c27,c28,e29f]<;>(repeat' apply A7)<;>first|rfl|exact⟨_,rfl⟩|exact⟨_,_,rfl⟩|simp [A9,A8]
     ·rw [if_neg e24]at h;have e24f:(decide (Bj.1=q32_.1))=false:=Gm.mpr e24
      obtain rfl:=Option.some.inj h
      simp (maxDischargeDepth:=9) only [↓AB,AC,Ah,↓reduceIte,Nat.reduceEqDiff,Nat.reduceLT,Nat.reduceLeDiff,Nat.reduceAdd,Nat.reduceMul,Nat.reduceMod,Nat.reduceDiv,Nat.reducePow,Nat.reduceSub,Nat.reduceBEq,Int.reduceLE,Int.reduceLT,Int.reduceEq,Int.reduceSub,Int.reduceAdd,Int.reduceToNat,Int.reduceNeg,e1,e2,e3.1,e3.2,c4,e5,e6,e7,e8.1,e8.2,c9,e10,e11,e12,Ig,e14,e15,KH,Jr,e18,c19,c20,c21,e22,c23,e24f]<;>(repeat' apply A7)<;>first|rfl|exact⟨_,rfl⟩|exact⟨_,_,rfl⟩|simp [A9,A8]
    ·skip
     have e18f:(!q32_.1.isEmpty)=false:=Gm.mpr e18;have c19:=Ad AU AV AJ AL e11 e12;have c20:=Ad AX AY AP AQ e14 e15;obtain⟨Bj,hl21,h⟩:=BC h;try dsimp only at h
     have c21:=Gb AU AV AJ AL AX AY AP AQ hl21;obtain⟨e22,h⟩:=Bw h;have c23:=CV Bj.1 q32_.1 e22;by_cases e24:(decide (Bj.1=q32_.1))=true
     ·rw [if_pos e24]at h;by_cases e25:Bj.2=true
      ·rw [if_pos e25]at h;by_cases e26:q32_.2=true
       ·rw [if_pos e26]at h;have c27:=Ad AU AV AJ AL e11 e12;have c28:=CQ AU AV AJ AL AU AV AJ AL e11 e12;by_cases e29:(Dm AU AV AJ AL AU AV AJ AL)=true
        ·rw [if_pos e29]at h;have c30:=Ad AX AY AP AQ e14 e15;have c31:=CQ AX AY AP AQ AX AY AP AQ e14 e15;by_cases e32:(Dm AX AY AP AQ AX AY AP AQ)=true
         ·rw [if_pos e32]at h;obtain⟨e33,h⟩:=Bw h;have c34:=Bn AU AV AJ AL (1:Int) e11 e12 e33;obtain⟨e35,h⟩:=Bw h;have c36:=Bn AX AY AP AQ ((1:Int)+CF AJ+CF AL) e14 e15 e35;by_cases e37:(((1:Int)+CF AJ+CF AL)+CF AP+CF AQ)<0
          ·rw [if_pos e37]at h
           obtain rfl:=Option.some.inj h
           simp (maxDischargeDepth:=9) only [↓AB,AC,Ah,↓reduceIte,Nat.reduceEqDiff,Nat.reduceLT,Nat.reduceLeDiff,Nat.reduceAdd,Nat.reduceMul,Nat.reduceMod,Nat.reduceDiv,Nat.reducePow,Nat.reduceSub,Nat.reduceBEq,Int.reduceLE,Int.reduceLT,Int.reduceEq,Int.reduceSub,Int.reduceAdd,Int.reduceToNat,Int.reduceNeg,e1,e2,e3.1,e3.2,c4,e5,e6,e7,e8.1,e8.2,c9,e10,e11,e12,Ig,e14,e15,KH,Jr,e18f,c19,c20,c21,e22,c23,e24,e25,e26,c27,c28,e29,c30,c31,e32,e33.1,e33.2,c34,e35.1,e35.2,c36,e37]<;>(repeat' apply A7)<;>first|rfl|exact⟨_,rfl⟩|exact⟨_,_,rfl⟩|simp [A9,A8]
          ·rw [if_neg e37]at h;have c38:=CV Bj.1 q32_.1 e22;obtain⟨e39,h⟩:=Bw h;have Q5:=FT Bj.1 (1:Int) e22 e39;obtain⟨e41,h⟩:=Bw h;obtain⟨e42,h⟩:=Bw h;have YP:=Ck (upto (1:Int) Bj.1.length) (1:Int) e41 e42;by_cases e44:(Gz (1:Int) (upto (1:Int) Bj.1.length))<0
           ·rw [if_pos e44]at h
            obtain rfl:=Option.some.inj h
            simp (maxDischargeDepth:=9) only [↓AB,AC,Ah,↓reduceIte,Nat.reduceEqDiff,Nat.reduceLT,Nat.reduceLeDiff,Nat.reduceAdd,Nat.reduceMul,Nat.reduceMod,Nat.reduceDiv,Nat.reducePow,Nat.reduceSub,Nat.reduceBEq,Int.reduceLE,Int.reduceLT,Int.reduceEq,Int.reduceSub,Int.reduceAdd,Int.reduceToNat,Int.reduceNeg,e1,e2,e3.1,e3.2,c4,e5,e6,e7,e8.1,e8.2,c9,e10,e11,e12,Ig,e14,e15,KH,Jr,e18f,c19,c20,c21,e22,c23,e24,e25,e26,c27,c28,e29,c30,c31,e32,e33.1,e33.2,c34,e35.1,e35.2,c36,e37,c38,e39.1,e39.2,Q5,e41,e42.1,e42.2,YP,e44]<;>(repeat' apply A7)<;>first|rfl|exact⟨_,rfl⟩|exact⟨_,_,rfl⟩|simp [A9,A8]
           ·rw [if_neg e44]at h;by_cases e45:(Gz (1:Int) (upto (1:Int) Bj.1.length))=((1:Int)+Bj.1.length)
            ·rw [if_pos e45]at h;have YO:=Ad AU AV AJ AL e11 e12;have mV:=Ad AX AY AP AQ e14 e15;have lZ:=CV Bj.1 q32_.1 e22;have YI:=Ck (upto (1:Int) Bj.1.length) (1:Int) e41 e42
             obtain rfl:=Option.some.inj h
             simp (maxDischargeDepth:=9) only [↓AB,AC,Ah,↓reduceIte,Nat.reduceEqDiff,Nat.reduceLT,Nat.reduceLeDiff,Nat.reduceAdd,Nat.reduceMul,Nat.reduceMod,Nat.reduceDiv,Nat.reducePow,Nat.reduceSub,Nat.reduceBEq,Int.reduceLE,Int.reduceLT,Int.reduceEq,Int.reduceSub,Int.reduceAdd,Int.reduceToNat,Int.reduceNeg,e1,e2,e3.1,e3.2,c4,e5,e6,e7,e8.1,e8.2,c9,e10,e11,e12,Ig,e14,e15,KH,Jr,e18f,c19,c20,c21,e22,c23,e24,e25,e26,c27,c28,e29,c30,c31,e32,e33.1,e33.2,c34,e35.1,e35.2,c36,e37,c38,e39.1,e39.2,Q5,e41,e42.1,e42.2,YP,e44,decide_eq_true e45,YO,mV,lZ,YI]<;>(repeat' apply A7)<;>first|rfl|exact⟨_,rfl⟩|exact⟨_,_,rfl⟩|simp [A9,A8]
            ·rw [if_neg e45]at h
             obtain rfl:=Option.some.inj h
             simp (maxDischargeDepth:=9) only [↓AB,AC,Ah,↓reduceIte,Nat.reduceEqDiff,Nat.reduceLT,Nat.reduceLeDiff,Nat.reduceAdd,Nat.reduceMul,Nat.reduceMod,Nat.reduceDiv,Nat.reducePow,Nat.reduceSub,Nat.reduceBEq,Int.reduceLE,Int.reduceLT,Int.reduceEq,Int.reduceSub,Int.reduceAdd,Int.reduceToNat,Int.reduceNeg,e1,e2,e3.1,e3.2,c4,e5,e6,e7,e8.1,e8.2,c9,e10,e11,e12,Ig,e14,e15,KH,Jr,e18f,c19,c20,c21,e22,c23,e24,e25,e26,c27,c28,e29,c30,c31,e32,e33.1,e33.2,c34,e35.1,e35.2,c36,e37,c38,e39.1,e39.2,Q5,e41,e42.1,e42.2,YP,e44,e45]<;>(repeat' apply A7)<;>first|rfl|exact⟨_,rfl⟩|exact⟨_,_,rfl⟩|simp [A9,A8]
         ·rw [if_neg e32]at h;have e32f:(Dm AX AY AP AQ AX AY AP AQ)=false:=Gm.mpr e32
          obtain rfl:=Option.some.inj h
          simp (maxDischargeDepth:=9) only [↓AB,AC,Ah,↓reduceIte,Nat.reduceEqDiff,Nat.reduceLT,Nat.reduceLeDiff,Nat.reduceAdd,Nat.reduceMul,Nat.reduceMod,Nat.reduceDiv,Nat.reducePow,Nat.reduceSub,Nat.reduceBEq,Int.reduceLE,Int.reduceLT,Int.reduceEq,Int.reduceSub,Int.reduceAdd,Int.reduceToNat,Int.reduceNeg,e1,e2,e3.1,e3.2,c4,e5,e6,e7,e8.1,e8.2,c9,e10,e11,e12,Ig,e14,e15,KH,Jr,e18f,c19,c20,c21,e22,c23,e24,e25,e26,c27,c28,e29,c30,c31,e32f]<;>(repeat' apply A7)<;>first|rfl|exact⟨_,rfl⟩|exact⟨_,_,rfl⟩|simp [A9,A8]
        ·rw [if_neg e29]at h;have e29f:(Dm AU AV AJ AL AU AV AJ AL)=false:=Gm.mpr e29
         obtain rfl:=Option.some.inj h
         simp (maxDischargeDepth:=9) only [↓AB,AC,Ah,↓reduceIte,Nat.reduceEqDiff,Nat.reduceLT,Nat.reduceLeDiff,Nat.reduceAdd,Nat.reduceMul,Nat.reduceMod,Nat.reduceDiv,Nat.reducePow,Nat.reduceSub,Nat.reduceBEq,Int.reduceLE,Int.reduceLT,Int.reduceEq,Int.reduceSub,Int.reduceAdd,Int.reduceToNat,Int.reduceNeg,e1,e2,e3.1,e3.2,c4,e5,e6,e7,e8.1,e8.2,c9,e10,e11,e12,Ig,e14,e15,KH,Jr,e18f,c19,c20,c21,e22,c23,e24,e25,e26,c27,c28,e29f]<;>(repeat' apply A7)<;>first|rfl|exact⟨_,rfl⟩|exact⟨_,_,rfl⟩|simp [A9,A8]
       ·rw [if_neg e26]at h;have e26f:q32_.2=false:=Gm.mpr e26
        obtain rfl:=Option.some.inj h
        simp (maxDischargeDepth:=9) only [↓AB,AC,Ah,↓reduceIte,Nat.reduceEqDiff,Nat.reduceLT,Nat.reduceLeDiff,Nat.reduceAdd,Nat.reduceMul,Nat.reduceMod,Nat.reduceDiv,Nat.reducePow,Nat.reduceSub,Nat.reduceBEq,Int.reduceLE,Int.reduceLT,Int.reduceEq,Int.reduceSub,Int.reduceAdd,Int.reduceToNat,Int.reduceNeg,e1,e2,e3.1,e3.2,c4,e5,e6,e7,e8.1,e8.2,c9,e10,e11,e12,Ig,e14,e15,KH,Jr,e18f,c19,c20,c21,e22,c23,e24,e25,e26f]<;>(repeat' apply A7)<;>first|rfl|exact⟨_,rfl⟩|exact⟨_,_,rfl⟩|simp [A9,A8]
      ·rw [if_neg e25]at h;have e25f:Bj.2=false:=Gm.mpr e25;by_cases e26:q32_.2=true
       ·rw [if_pos e26]at h
        obtain rfl:=Option.some.inj h
        simp (maxDischargeDepth:=9) only [↓AB,AC,Ah,↓reduceIte,Nat.reduceEqDiff,Nat.reduceLT,Nat.reduceLeDiff,Nat.reduceAdd,Nat.reduceMul,Nat.reduceMod,Nat.reduceDiv,Nat.reducePow,Nat.reduceSub,Nat.reduceBEq,Int.reduceLE,Int.reduceLT,Int.reduceEq,Int.reduceSub,Int.reduceAdd,Int.reduceToNat,Int.reduceNeg,e1,e2,e3.1,e3.2,c4,e5,e6,e7,e8.1,e8.2,c9,e10,e11,e12,Ig,e14,e15,KH,Jr,e18f,c19,c20,c21,e22,c23,e24,e25f,e26]<;>(repeat' apply A7)<;>first|rfl|exact⟨_,rfl⟩|exact⟨_,_,rfl⟩|simp [A9,A8]
       ·rw [if_neg e26]at h;have e26f:q32_.2=false:=Gm.mpr e26;have c27:=Ad AU AV AJ AL e11 e12;have c28:=CQ AU AV AJ AL AU AV AJ AL e11 e12;by_cases e29:(Dm AU AV AJ AL AU AV AJ AL)=true
        ·rw [if_pos e29]at h;have c30:=Ad AX AY AP AQ e14 e15;have c31:=CQ AX AY AP AQ AX AY AP AQ e14 e15;by_cases e32:(Dm AX AY AP AQ AX AY AP AQ)=true
         ·rw [if_pos e32]at h;obtain⟨e33,h⟩:=Bw h;have c34:=Bn AU AV AJ AL (1:Int) e11 e12 e33;obtain⟨e35,h⟩:=Bw h;have c36:=Bn AX AY AP AQ ((1:Int)+CF AJ+CF AL) e14 e15 e35;by_cases e37:(((1:Int)+CF AJ+CF AL)+CF AP+CF AQ)<0
          ·rw [if_pos e37]at h
           obtain rfl:=Option.some.inj h
           simp (maxDischargeDepth:=9) only [↓AB,AC,Ah,↓reduceIte,Nat.reduceEqDiff,Nat.reduceLT,Nat.reduceLeDiff,Nat.reduceAdd,Nat.reduceMul,Nat.reduceMod,Nat.reduceDiv,Nat.reducePow,Nat.reduceSub,Nat.reduceBEq,Int.reduceLE,Int.reduceLT,Int.reduceEq,Int.reduceSub,Int.reduceAdd,Int.reduceToNat,Int.reduceNeg,e1,e2,e3.1,e3.2,c4,e5,e6,e7,e8.1,e8.2,c9,e10,e11,e12,Ig,e14,e15,KH,Jr,e18f,c19,c20,c21,e22,c23,e24,e25f,e26f,c27,c28,e29,c30,c31,e32,e33.1,e33.2,c34,e35.1,e35.2,c36,e37]<;>(repeat' apply A7)<;>first|rfl|exact⟨_,rfl⟩|exact⟨_,_,rfl⟩|simp [A9,A8]
          ·rw [if_neg e37]at h;have c38:=CV Bj.1 q32_.1 e22;obtain⟨e39,h⟩:=Bw h;have Q5:=FT Bj.1 (1:Int) e22 e39;obtain⟨e41,h⟩:=Bw h;obtain⟨e42,h⟩:=Bw h;have YP:=Ck (upto (1:Int) Bj.1.length) (1:Int) e41 e42;by_cases e44:(Gz (1:Int) (upto (1:Int) Bj.1.length))<0
           ·rw [if_pos e44]at h
            obtain rfl:=Option.some.inj h
            simp (maxDischargeDepth:=9) only [↓AB,AC,Ah,↓reduceIte,Nat.reduceEqDiff,Nat.reduceLT,Nat.reduceLeDiff,Nat.reduceAdd,Nat.reduceMul,Nat.reduceMod,Nat.reduceDiv,Nat.reducePow,Nat.reduceSub,Nat.reduceBEq,Int.reduceLE,Int.reduceLT,Int.reduceEq,Int.reduceSub,Int.reduceAdd,Int.reduceToNat,Int.reduceNeg,e1,e2,e3.1,e3.2,c4,e5,e6,e7,e8.1,e8.2,c9,e10,e11,e12,Ig,e14,e15,KH,Jr,e18f,c19,c20,c21,e22,c23,e24,e25f,e26f,c27,c28,e29,c30,c31,e32,e33.1,e33.2,c34,e35.1,e35.2,c36,e37,c38,e39.1,e39.2,Q5,e41,e42.1,e42.2,YP,e44]<;>(repeat' apply A7)<;>first|rfl|exact⟨_,rfl⟩|exact⟨_,_,rfl⟩|simp [A9,A8]
           ·rw [if_neg e44]at h;by_cases e45:(Gz (1:Int) (upto (1:Int) Bj.1.length))=((1:Int)+Bj.1.length)
            ·rw [if_pos e45]at h;have YO:=Ad AU AV AJ AL e11 e12;have mV:=Ad AX AY AP AQ e14 e15;have lZ:=CV Bj.1 q32_.1 e22;have YI:=Ck (upto (1:Int) Bj.1.length) (1:Int) e41 e42
             obtain rfl:=Option.some.inj h
             simp (maxDischargeDepth:=9) only [↓AB,AC,Ah,↓reduceIte,Nat.reduceEqDiff,Nat.reduceLT,Nat.reduceLeDiff,Nat.reduceAdd,Nat.reduceMul,Nat.reduceMod,Nat.reduceDiv,Nat.reducePow,Nat.reduceSub,Nat.reduceBEq,Int.reduceLE,Int.reduceLT,Int.reduceEq,Int.reduceSub,Int.reduceAdd,Int.reduceToNat,Int.reduceNeg,e1,e2,e3.1,e3.2,c4,e5,e6,e7,e8.1,e8.2,c9,e10,e11,e12,Ig,e14,e15,KH,Jr,e18f,c19,c20,c21,e22,c23,e24,e25f,e26f,c27,c28,e29,c30,c31,e32,e33.1,e33.2,c34,e35.1,e35.2,c36,e37,c38,e39.1,e39.2,Q5,e41,e42.1,e42.2,YP,e44,decide_eq_true e45,YO,mV,lZ,YI]<;>(repeat' apply A7)<;>first|rfl|exact⟨_,rfl⟩|exact⟨_,_,rfl⟩|simp [A9,A8]
            ·rw [if_neg e45]at h
             obtain rfl:=Option.some.inj h
             simp (maxDischargeDepth:=9) only [↓AB,AC,Ah,↓reduceIte,Nat.reduceEqDiff,Nat.reduceLT,Nat.reduceLeDiff,Nat.reduceAdd,Nat.reduceMul,Nat.reduceMod,Nat.reduceDiv,Nat.reducePow,Nat.reduceSub,Nat.reduceBEq,Int.reduceLE,Int.reduceLT,Int.reduceEq,Int.reduceSub,Int.reduceAdd,Int.reduceToNat,Int.reduceNeg,e1,e2,e3.1,e3.2,c4,e5,e6,e7,e8.1,e8.2,c9,e10,e11,e12,Ig,e14,e15,KH,Jr,e18f,c19,c20,c21,e22,c23,e24,e25f,e26f,c27,c28,e29,c30,c31,e32,e33.1,e33.2,c34,e35.1,e35.2,c36,e37,c38,e39.1,e39.2,Q5,e41,e42.1,e42.2,YP,e44,e45]<;>(repeat' apply A7)<;>first|rfl|exact⟨_,rfl⟩|exact⟨_,_,rfl⟩|simp [A9,A8]
         ·rw [if_neg e32]at h;have e32f:(Dm AX AY AP AQ AX AY AP AQ)=false:=Gm.mpr e32
          obtain rfl:=Option.some.inj h
          simp (maxDischargeDepth:=9) only [↓AB,AC,Ah,↓reduceIte,Nat.reduceEqDiff,Nat.reduceLT,Nat.reduceLeDiff,Nat.reduceAdd,Nat.reduceMul,Nat.reduceMod,Nat.reduceDiv,Nat.reducePow,Nat.reduceSub,Nat.reduceBEq,Int.reduceLE,Int.reduceLT,Int.reduceEq,Int.reduceSub,Int.reduceAdd,Int.reduceToNat,Int.reduceNeg,e1,e2,e3.1,e3.2,c4,e5,e6,e7,e8.1,e8.2,c9,e10,e11,e12,Ig,e14,e15,KH,Jr,e18f,c19,c20,c21,e22,c23,e24,e25f,e26f,c27,c28,e29,c30,c31,e32f]<;>(repeat' apply A7)<;>first|rfl|exact⟨_,rfl⟩|exact⟨_,_,rfl⟩|simp [A9,A8]
        ·rw [if_neg e29]at h;have e29f:(Dm AU AV AJ AL AU AV AJ AL)=false:=Gm.mpr e29
         obtain rfl:=Option.some.inj h
         simp (maxDischargeDepth:=9) only [↓AB,AC,Ah,↓reduceIte,Nat.reduceEqDiff,Nat.reduceLT,Nat.reduceLeDiff,Nat.reduceAdd,Nat.reduceMul,Nat.reduceMod,Nat.reduceDiv,Nat.reducePow,Nat.reduceSub,Nat.reduceBEq,Int.reduceLE,Int.reduceLT,Int.reduceEq,Int.reduceSub,Int.reduceAdd,Int.reduceToNat,Int.reduceNeg,e1,e2,e3.1,e3.2,c4,e5,e6,e7,e8.1,e8.2,c9,e10,e11,e12,Ig,e14,e15,KH,Jr,e18f,c19,c20,c21,e22,c23,e24,e25f,e26f,c27,c28,e29f]<;>(repeat' apply A7)<;>first|rfl|exact⟨_,rfl⟩|exact⟨_,_,rfl⟩|simp [A9,A8]
     ·rw [if_neg e24]at h;have e24f:(decide (Bj.1=q32_.1))=false:=Gm.mpr e24
      obtain rfl:=Option.some.inj h
      simp (maxDischargeDepth:=9) only [↓AB,AC,Ah,↓reduceIte,Nat.reduceEqDiff,Nat.reduceLT,Nat.reduceLeDiff,Nat.reduceAdd,Nat.reduceMul,Nat.reduceMod,Nat.reduceDiv,Nat.reducePow,Nat.reduceSub,Nat.reduceBEq,Int.reduceLE,Int.reduceLT,Int.reduceEq,Int.reduceSub,Int.reduceAdd,Int.reduceToNat,Int.reduceNeg,e1,e2,e3.1,e3.2,c4,e5,e6,e7,e8.1,e8.2,c9,e10,e11,e12,Ig,e14,e15,KH,Jr,e18f,c19,c20,c21,e22,c23,e24f]<;>(repeat' apply A7)<;>first|rfl|exact⟨_,rfl⟩|exact⟨_,_,rfl⟩|simp [A9,A8]
   ·dsimp only at h Jr;have c25:=Ad AU AV AJ AL e11 e12;have c26:=Ad AX AY AP AQ e14 e15;obtain⟨Bj,hl27,h⟩:=BC h;try dsimp only at h
    have c27:=Gb AU AV AJ AL AX AY AP AQ hl27;obtain⟨e28,h⟩:=Bw h;have c29:=CV Bj.1 q32_.1 e28;by_cases e30:(decide (Bj.1=q32_.1))=true
    ·rw [if_pos e30]at h;by_cases e31:Bj.2=true
     ·rw [if_pos e31]at h;by_cases e32:q32_.2=true
      ·rw [if_pos e32]at h;have c33:=Ad AU AV AJ AL e11 e12;have c34:=CQ AU AV AJ AL AU AV AJ AL e11 e12;by_cases e35:(Dm AU AV AJ AL AU AV AJ AL)=true
       ·rw [if_pos e35]at h;have c36:=Ad AX AY AP AQ e14 e15;have c37:=CQ AX AY AP AQ AX AY AP AQ e14 e15;by_cases e38:(Dm AX AY AP AQ AX AY AP AQ)=true
        ·rw [if_pos e38]at h;obtain⟨e39,h⟩:=Bw h;have Q5:=Bn AU AV AJ AL (1:Int) e11 e12 e39;obtain⟨e41,h⟩:=Bw h;have jM:=Bn AX AY AP AQ ((1:Int)+CF AJ+CF AL) e14 e15 e41;by_cases e43:(((1:Int)+CF AJ+CF AL)+CF AP+CF AQ)<0
         ·rw [if_pos e43]at h
          obtain rfl:=Option.some.inj h
          simp (maxDischargeDepth:=9) only [↓AB,AC,Ah,↓reduceIte,Nat.reduceEqDiff,Nat.reduceLT,Nat.reduceLeDiff,Nat.reduceAdd,Nat.reduceMul,Nat.reduceMod,Nat.reduceDiv,Nat.reducePow,Nat.reduceSub,Nat.reduceBEq,Int.reduceLE,Int.reduceLT,Int.reduceEq,Int.reduceSub,Int.reduceAdd,Int.reduceToNat,Int.reduceNeg,e1,e2,e3.1,e3.2,c4,e5,e6,e7,e8.1,e8.2,c9,e10,e11,e12,Ig,e14,e15,KH,Jr,c25,c26,c27,e28,c29,e30,e31,e32,c33,c34,e35,c36,c37,e38,e39.1,e39.2,Q5,e41.1,e41.2,jM,e43]<;>(repeat' apply A7)<;>first|rfl|exact⟨_,rfl⟩|exact⟨_,_,rfl⟩|simp [A9,A8]
         ·rw [if_neg e43]at h;have ma:=CV Bj.1 q32_.1 e28;obtain⟨e45,h⟩:=Bw h;have YO:=FT Bj.1 (1:Int) e28 e45;obtain⟨e47,h⟩:=Bw h;obtain⟨e48,h⟩:=Bw h;have YI:=Ck (upto (1:Int) Bj.1.length) (1:Int) e47 e48;by_cases e50:(Gz (1:Int) (upto (1:Int) Bj.1.length))<0
          ·rw [if_pos e50]at h
           obtain rfl:=Option.some.inj h
           simp (maxDischargeDepth:=9) only [↓AB,AC,Ah,↓reduceIte,Nat.reduceEqDiff,Nat.reduceLT,Nat.reduceLeDiff,Nat.reduceAdd,Nat.reduceMul,Nat.reduceMod,Nat.reduceDiv,Nat.reducePow,Nat.reduceSub,Nat.reduceBEq,Int.reduceLE,Int.reduceLT,Int.reduceEq,Int.reduceSub,Int.reduceAdd,Int.reduceToNat,Int.reduceNeg,e1,e2,e3.1,e3.2,c4,e5,e6,e7,e8.1,e8.2,c9,e10,e11,e12,Ig,e14,e15,KH,Jr,c25,c26,c27,e28,c29,e30,e31,e32,c33,c34,e35,c36,c37,e38,e39.1,e39.2,Q5,e41.1,e41.2,jM,e43,ma,e45.1,e45.2,YO,e47,e48.1,e48.2,YI,e50]<;>(repeat' apply A7)<;>first|rfl|exact⟨_,rfl⟩|exact⟨_,_,rfl⟩|simp [A9,A8]
          ·rw [if_neg e50]at h;by_cases e51:(Gz (1:Int) (upto (1:Int) Bj.1.length))=((1:Int)+Bj.1.length)
           ·rw [if_pos e51]at h;have c52:=Ad AU AV AJ AL e11 e12;have c53:=Ad AX AY AP AQ e14 e15;have c54:=CV Bj.1 q32_.1 e28;have c55:=Ck (upto (1:Int) Bj.1.length) (1:Int) e47 e48
            obtain rfl:=Option.some.inj h
            simp (maxDischargeDepth:=9) only [↓AB,AC,Ah,↓reduceIte,Nat.reduceEqDiff,Nat.reduceLT,Nat.reduceLeDiff,Nat.reduceAdd,Nat.reduceMul,Nat.reduceMod,Nat.reduceDiv,Nat.reducePow,Nat.reduceSub,Nat.reduceBEq,Int.reduceLE,Int.reduceLT,Int.reduceEq,Int.reduceSub,Int.reduceAdd,Int.reduceToNat,Int.reduceNeg,e1,e2,e3.1,e3.2,c4,e5,e6,e7,e8.1,e8.2,c9,e10,e11,e12,Ig,e14,e15,KH,Jr,c25,c26,c27,e28,c29,e30,e31,e32,c33,c34,e35,c36,c37,e38,e39.1,e39.2,Q5,e41.1,e41.2,jM,e43,ma,e45.1,e45.2,YO,e47,e48.1,e48.2,YI,e50,decide_eq_true e51,c52,c53,c54,c55]<;>(repeat' apply A7)<;>first|rfl|exact⟨_,rfl⟩|exact⟨_,_,rfl⟩|simp [A9,A8]
           ·rw [if_neg e51]at h
            obtain rfl:=Option.some.inj h
            simp (maxDischargeDepth:=9) only [↓AB,AC,Ah,↓reduceIte,Nat.reduceEqDiff,Nat.reduceLT,Nat.reduceLeDiff,Nat.reduceAdd,Nat.reduceMul,Nat.reduceMod,Nat.reduceDiv,Nat.reducePow,Nat.reduceSub,Nat.reduceBEq,Int.reduceLE,Int.reduceLT,Int.reduceEq,Int.reduceSub,Int.reduceAdd,Int.reduceToNat,Int.reduceNeg,e1,e2,e3.1,e3.2,c4,e5,e6,e7,e8.1,e8.2,c9,e10,e11,e12,Ig,e14,e15,KH,Jr,c25,c26,c27,e28,c29,e30,e31,e32,c33,c34,e35,c36,c37,e38,e39.1,e39.2,Q5,e41.1,e41.2,jM,e43,ma,e45.1,e45.2,YO,e47,e48.1,e48.2,YI,e50,e51]<;>(repeat' apply A7)<;>first|rfl|exact⟨_,rfl⟩|exact⟨_,_,rfl⟩|simp [A9,A8]
        ·rw [if_neg e38]at h;have e38f:(Dm AX AY AP AQ AX AY AP AQ)=false:=Gm.mpr e38
         obtain rfl:=Option.some.inj h
         simp (maxDischargeDepth:=9) only [↓AB,AC,Ah,↓reduceIte,Nat.reduceEqDiff,Nat.reduceLT,Nat.reduceLeDiff,Nat.reduceAdd,Nat.reduceMul,Nat.reduceMod,Nat.reduceDiv,Nat.reducePow,Nat.reduceSub,Nat.reduceBEq,Int.reduceLE,Int.reduceLT,Int.reduceEq,Int.reduceSub,Int.reduceAdd,Int.reduceToNat,Int.reduceNeg,e1,e2,e3.1,e3.2,c4,e5,e6,e7,e8.1,e8.2,c9,e10,e11,e12,Ig,e14,e15,KH,Jr,c25,c26,c27,e28,c29,e30,e31,e32,c33,c34,e35,c36,c37,e38f]<;>(repeat' apply A7)<;>first|rfl|exact⟨_,rfl⟩|exact⟨_,_,rfl⟩|simp [A9,A8]
       ·rw [if_neg e35]at h;have e35f:(Dm AU AV AJ AL AU AV AJ AL)=false:=Gm.mpr e35
        obtain rfl:=Option.some.inj h
        simp (maxDischargeDepth:=9) only [↓AB,AC,Ah,↓reduceIte,Nat.reduceEqDiff,Nat.reduceLT,Nat.reduceLeDiff,Nat.reduceAdd,Nat.reduceMul,Nat.reduceMod,Nat.reduceDiv,Nat.reducePow,Nat.reduceSub,Nat.reduceBEq,Int.reduceLE,Int.reduceLT,Int.reduceEq,Int.reduceSub,Int.reduceAdd,Int.reduceToNat,Int.reduceNeg,e1,e2,e3.1,e3.2,c4,e5,e6,e7,e8.1,e8.2,c9,e10,e11,e12,Ig,e14,e15,KH,Jr,c25,c26,c27,e28,c29,e30,e31,e32,c33,c34,e35f]<;>(repeat' apply A7)<;>first|rfl|exact⟨_,rfl⟩|exact⟨_,_,rfl⟩|simp [A9,A8]
      ·rw [if_neg e32]at h;have e32f:q32_.2=false:=Gm.mpr e32
       obtain rfl:=Option.some.inj h
       simp (maxDischargeDepth:=9) only [↓AB,AC,Ah,↓reduceIte,Nat.reduceEqDiff,Nat.reduceLT,Nat.reduceLeDiff,Nat.reduceAdd,Nat.reduceMul,Nat.reduceMod,Nat.reduceDiv,Nat.reducePow,Nat.reduceSub,Nat.reduceBEq,Int.reduceLE,Int.reduceLT,Int.reduceEq,Int.reduceSub,Int.reduceAdd,Int.reduceToNat,Int.reduceNeg,e1,e2,e3.1,e3.2,c4,e5,e6,e7,e8.1,e8.2,c9,e10,e11,e12,Ig,e14,e15,KH,Jr,c25,c26,c27,e28,c29,e30,e31,e32f]<;>(repeat' apply A7)<;>first|rfl|exact⟨_,rfl⟩|exact⟨_,_,rfl⟩|simp [A9,A8]
     ·rw [if_neg e31]at h;have e31f:Bj.2=false:=Gm.mpr e31;by_cases e32:q32_.2=true
      ·rw [if_pos e32]at h
       obtain rfl:=Option.some.inj h
       simp (maxDischargeDepth:=9) only [↓AB,AC,Ah,↓reduceIte,Nat.reduceEqDiff,Nat.reduceLT,Nat.reduceLeDiff,Nat.reduceAdd,Nat.reduceMul,Nat.reduceMod,Nat.reduceDiv,Nat.reducePow,Nat.reduceSub,Nat.reduceBEq,Int.reduceLE,Int.reduceLT,Int.reduceEq,Int.reduceSub,Int.reduceAdd,Int.reduceToNat,Int.reduceNeg,e1,e2,e3.1,e3.2,c4,e5,e6,e7,e8.1,e8.2,c9,e10,e11,e12,Ig,e14,e15,KH,Jr,c25,c26,c27,e28,c29,e30,e31f,e32]<;>(repeat' apply A7)<;>first|rfl|exact⟨_,rfl⟩|exact⟨_,_,rfl⟩|simp [A9,A8]
      ·rw [if_neg e32]at h;have e32f:q32_.2=false:=Gm.mpr e32;have c33:=Ad AU AV AJ AL e11 e12;have c34:=CQ AU AV AJ AL AU AV AJ AL e11 e12;by_cases e35:(Dm AU AV AJ AL AU AV AJ AL)=true
       ·rw [if_pos e35]at h;have c36:=Ad AX AY AP AQ e14 e15;have c37:=CQ AX AY AP AQ AX AY AP AQ e14 e15;by_cases e38:(Dm AX AY AP AQ AX AY AP AQ)=true
        ·rw [if_pos e38]at h;obtain⟨e39,h⟩:=Bw h;have Q5:=Bn AU AV AJ AL (1:Int) e11 e12 e39;obtain⟨e41,h⟩:=Bw h;have jM:=Bn AX AY AP AQ ((1:Int)+CF AJ+CF AL) e14 e15 e41;by_cases e43:(((1:Int)+CF AJ+CF AL)+CF AP+CF AQ)<0
         ·rw [if_pos e43]at h
          obtain rfl:=Option.some.inj h
          simp (maxDischargeDepth:=9) only [↓AB,AC,Ah,↓reduceIte,Nat.reduceEqDiff,Nat.reduceLT,Nat.reduceLeDiff,Nat.reduceAdd,Nat.reduceMul,Nat.reduceMod,Nat.reduceDiv,Nat.reducePow,Nat.reduceSub,Nat.reduceBEq,Int.reduceLE,Int.reduceLT,Int.reduceEq,Int.reduceSub,Int.reduceAdd,Int.reduceToNat,Int.reduceNeg,e1,e2,e3.1,e3.2,c4,e5,e6,e7,e8.1,e8.2,c9,e10,e11,e12,Ig,e14,e15,KH,Jr,c25,c26,c27,e28,c29,e30,e31f,e32f,c33,c34,e35,c36,c37,e38,e39.1,e39.2,Q5,e41.1,e41.2,jM,e43]<;>(repeat' apply A7)<;>first|rfl|exact⟨_,rfl⟩|exact⟨_,_,rfl⟩|simp [A9,A8]
         ·rw [if_neg e43]at h;have ma:=CV Bj.1 q32_.1 e28;obtain⟨e45,h⟩:=Bw h;have YO:=FT Bj.1 (1:Int) e28 e45;obtain⟨e47,h⟩:=Bw h;obtain⟨e48,h⟩:=Bw h;have YI:=Ck (upto (1:Int) Bj.1.length) (1:Int) e47 e48;by_cases e50:(Gz (1:Int) (upto (1:Int) Bj.1.length))<0
          ·rw [if_pos e50]at h
           obtain rfl:=Option.some.inj h
           simp (maxDischargeDepth:=9) only [↓AB,AC,Ah,↓reduceIte,Nat.reduceEqDiff,Nat.reduceLT,Nat.reduceLeDiff,Nat.reduceAdd,Nat.reduceMul,Nat.reduceMod,Nat.reduceDiv,Nat.reducePow,Nat.reduceSub,Nat.reduceBEq,Int.reduceLE,Int.reduceLT,Int.reduceEq,Int.reduceSub,Int.reduceAdd,Int.reduceToNat,Int.reduceNeg,e1,e2,e3.1,e3.2,c4,e5,e6,e7,e8.1,e8.2,c9,e10,e11,e12,Ig,e14,e15,KH,Jr,c25,c26,c27,e28,c29,e30,e31f,e32f,c33,c34,e35,c36,c37,e38,e39.1,e39.2,Q5,e41.1,e41.2,jM,e43,ma,e45.1,e45.2,YO,e47,e48.1,e48.2,YI,e50]<;>(repeat' apply A7)<;>first|rfl|exact⟨_,rfl⟩|exact⟨_,_,rfl⟩|simp [A9,A8]
          ·rw [if_neg e50]at h;by_cases e51:(Gz (1:Int) (upto (1:Int) Bj.1.length))=((1:Int)+Bj.1.length)
           ·rw [if_pos e51]at h;have c52:=Ad AU AV AJ AL e11 e12;have c53:=Ad AX AY AP AQ e14 e15;have c54:=CV Bj.1 q32_.1 e28;have c55:=Ck (upto (1:Int) Bj.1.length) (1:Int) e47 e48
            obtain rfl:=Option.some.inj h
            simp (maxDischargeDepth:=9) only [↓AB,AC,Ah,↓reduceIte,Nat.reduceEqDiff,Nat.reduceLT,Nat.reduceLeDiff,Nat.reduceAdd,Nat.reduceMul,Nat.reduceMod,Nat.reduceDiv,Nat.reducePow,Nat.reduceSub,Nat.reduceBEq,Int.reduceLE,Int.reduceLT,Int.reduceEq,Int.reduceSub,Int.reduceAdd,Int.reduceToNat,Int.reduceNeg,e1,e2,e3.1,e3.2,c4,e5,e6,e7,e8.1,e8.2,c9,e10,e11,e12,Ig,e14,e15,KH,Jr,c25,c26,c27,e28,c29,e30,e31f,e32f,c33,c34,e35,c36,c37,e38,e39.1,e39.2,Q5,e41.1,e41.2,jM,e43,ma,e45.1,e45.2,YO,e47,e48.1,e48.2,YI,e50,decide_eq_true e51,c52,c53,c54,c55]<;>(repeat' apply A7)<;>first|rfl|exact⟨_,rfl⟩|exact⟨_,_,rfl⟩|simp [A9,A8]
           ·rw [if_neg e51]at h
            obtain rfl:=Option.some.inj h
            simp (maxDischargeDepth:=9) only [↓AB,AC,Ah,↓reduceIte,Nat.reduceEqDiff,Nat.reduceLT,Nat.reduceLeDiff,Nat.reduceAdd,Nat.reduceMul,Nat.reduceMod,Nat.reduceDiv,Nat.reducePow,Nat.reduceSub,Nat.reduceBEq,Int.reduceLE,Int.reduceLT,Int.reduceEq,Int.reduceSub,Int.reduceAdd,Int.reduceToNat,Int.reduceNeg,e1,e2,e3.1,e3.2,c4,e5,e6,e7,e8.1,e8.2,c9,e10,e11,e12,Ig,e14,e15,KH,Jr,c25,c26,c27,e28,c29,e30,e31f,e32f,c33,c34,e35,c36,c37,e38,e39.1,e39.2,Q5,e41.1,e41.2,jM,e43,ma,e45.1,e45.2,YO,e47,e48.1,e48.2,YI,e50,e51]<;>(repeat' apply A7)<;>first|rfl|exact⟨_,rfl⟩|exact⟨_,_,rfl⟩|simp [A9,A8]
        ·rw [if_neg e38]at h;have e38f:(Dm AX AY AP AQ AX AY AP AQ)=false:=Gm.mpr e38
         obtain rfl:=Option.some.inj h
         simp (maxDischargeDepth:=9) only [↓AB,AC,Ah,↓reduceIte,Nat.reduceEqDiff,Nat.reduceLT,Nat.reduceLeDiff,Nat.reduceAdd,Nat.reduceMul,Nat.reduceMod,Nat.reduceDiv,Nat.reducePow,Nat.reduceSub,Nat.reduceBEq,Int.reduceLE,Int.reduceLT,Int.reduceEq,Int.reduceSub,Int.reduceAdd,Int.reduceToNat,Int.reduceNeg,e1,e2,e3.1,e3.2,c4,e5,e6,e7,e8.1,e8.2,c9,e10,e11,e12,Ig,e14,e15,KH,Jr,c25,c26,c27,e28,c29,e30,e31f,e32f,c33,c34,e35,c36,c37,e38f]<;>(repeat' apply A7)<;>first|rfl|exact⟨_,rfl⟩|exact⟨_,_,rfl⟩|simp [A9,A8]
       ·rw [if_neg e35]at h;have e35f:(Dm AU AV AJ AL AU AV AJ AL)=false:=Gm.mpr e35
        obtain rfl:=Option.some.inj h
        simp (maxDischargeDepth:=9) only [↓AB,AC,Ah,↓reduceIte,Nat.reduceEqDiff,Nat.reduceLT,Nat.reduceLeDiff,Nat.reduceAdd,Nat.reduceMul,Nat.reduceMod,Nat.reduceDiv,Nat.reducePow,Nat.reduceSub,Nat.reduceBEq,Int.reduceLE,Int.reduceLT,Int.reduceEq,Int.reduceSub,Int.reduceAdd,Int.reduceToNat,Int.reduceNeg,e1,e2,e3.1,e3.2,c4,e5,e6,e7,e8.1,e8.2,c9,e10,e11,e12,Ig,e14,e15,KH,Jr,c25,c26,c27,e28,c29,e30,e31f,e32f,c33,c34,e35f]<;>(repeat' apply A7)<;>first|rfl|exact⟨_,rfl⟩|exact⟨_,_,rfl⟩|simp [A9,A8]
    ·rw [if_neg e30]at h;have e30f:(decide (Bj.1=q32_.1))=false:=Gm.mpr e30
     obtain rfl:=Option.some.inj h
     simp (maxDischargeDepth:=9) only [↓AB,AC,Ah,↓reduceIte,Nat.reduceEqDiff,Nat.reduceLT,Nat.reduceLeDiff,Nat.reduceAdd,Nat.reduceMul,Nat.reduceMod,Nat.reduceDiv,Nat.reducePow,Nat.reduceSub,Nat.reduceBEq,Int.reduceLE,Int.reduceLT,Int.reduceEq,Int.reduceSub,Int.reduceAdd,Int.reduceToNat,Int.reduceNeg,e1,e2,e3.1,e3.2,c4,e5,e6,e7,e8.1,e8.2,c9,e10,e11,e12,Ig,e14,e15,KH,Jr,c25,c26,c27,e28,c29,e30f]<;>(repeat' apply A7)<;>first|rfl|exact⟨_,rfl⟩|exact⟨_,_,rfl⟩|simp [A9,A8]
end Go.Proofs.Ytclkfhhdikfcpaa
