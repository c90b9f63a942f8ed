/- Networks of the nodes near a node: the law, lifted. Conditions: none. -/
import Derived.Test.YtipfckompmhljaaL6
import Derived.Test.YtipfckompmhljaaKbA
import Derived.Test.YtipfckompmhljaaNmk
namespace Go.Proofs.Ytipfckompmhljaa
open Go Dv
set_option linter.unusedSimpArgs false
set_option linter.unusedVariables false
set_option maxRecDepth 100000
set_option maxHeartbeats 4000000
noncomputable def GV(A7:List (List (Int×Int)))(A9:List Int)(A8:List Int)(Ah:Int)(G6:Int):Option (Bool):=
 ck (Nr A7)<|
 ck (A9.length<9223372036854775808)<|
 ck (A8.length<9223372036854775808)<|
 ck (0≤(1048576:Int)∧(1048576:Int)≤1048576)<|
 if(oq (1048576:Int) A7 A9 A8)<0 then
  some true
 else
  ck (BX A7)<|
  ck (A9.length<1099511627776)<|
  ck (A8.length<1099511627776)<|
  (J5 A7 A9 A8 Ah G6).bind fun dD=>
  match dD with
  | .inl q11_=>
   (J3 A7 A9 A8 Ah G6).bind fun AR=>
   ck (BX AR.1)<|
   ck (AR.2.1.length<1099511627776)<|
   ck (AR.2.2.1.length<1099511627776)<|
   if(EK AR.1 AR.2.1 AR.2.2.1 q11_.1 q11_.2.1 q11_.2.2.1)=true then
    ck (AR.2.2.2.1.length<1099511627776)<|
    if(decide (AR.2.2.2.1=q11_.2.2.2.1))=true then
     if AR.2.2.2.2=true then
      if q11_.2.2.2.2=true then
       if(EK A7 A9 A8 A7 A9 A8)=true then
        ck (0≤(1:Int)∧(1:Int)+2*BK (fE A7)+A9.length+A8.length<1099511627776)<|
        if((1:Int)+2*BK (fE A7)+A9.length+A8.length)<0 then
         some false
        else
         ck (0≤(1:Int)∧(1:Int)+2*BK (fE AR.1)+AR.2.1.length+AR.2.2.1.length<1099511627776)<|
         ck (0≤((1:Int)+2*BK (fE AR.1)+AR.2.1.length+AR.2.2.1.length)∧((1:Int)+2*BK (fE AR.1)+AR.2.1.length+AR.2.2.1.length)<1099511627776)<|
         (Dl (Cs (1:Int) AR.1) (upto ((1:Int)+2*BK (fE AR.1)) AR.2.1.length) (upto ((1:Int)+2*BK (fE AR.1)+AR.2.1.length) AR.2.2.1.length) (1:Int)).bind fun Gn=>
         if Gn<0 then
          some false
         else
          ck ((upto ((1:Int)+2*BK (fE AR.1)+AR.2.1.length+AR.2.2.1.length) AR.2.2.2.1.length).length<1099511627776)<|
          ck (0≤Gn∧Gn+(upto ((1:Int)+2*BK (fE AR.1)+AR.2.1.length+AR.2.2.1.length) AR.2.2.2.1.length).length<1099511627776)<|
          if(Du Gn (upto ((1:Int)+2*BK (fE AR.1)+AR.2.1.length+AR.2.2.1.length) AR.2.2.2.1.length))<0 then
           some false
          else
           if(Du Gn (upto ((1:Int)+2*BK (fE AR.1)+AR.2.1.length+AR.2.2.1.length) AR.2.2.2.1.length))=(((1:Int)+2*BK (fE AR.1)+AR.2.1.length+AR.2.2.1.length)+AR.2.2.2.1.length)then
            some true
           else
            some false
       else
        some false
      else
       some false
     else
      if q11_.2.2.2.2=true then
       some false
      else
       if(EK A7 A9 A8 A7 A9 A8)=true then
        ck (0≤(1:Int)∧(1:Int)+2*BK (fE A7)+A9.length+A8.length<1099511627776)<|
        if((1:Int)+2*BK (fE A7)+A9.length+A8.length)<0 then
         some false
        else
         ck (0≤(1:Int)∧(1:Int)+2*BK (fE AR.1)+AR.2.1.length+AR.2.2.1.length<1099511627776)<|
         ck (0≤((1:Int)+2*BK (fE AR.1)+AR.2.1.length+AR.2.2.1.length)∧((1:Int)+2*BK (fE AR.1)+AR.2.1.length+AR.2.2.1.length)<1099511627776)<|
         (Dl (Cs (1:Int) AR.1) (upto ((1:Int)+2*BK (fE AR.1)) AR.2.1.length) (upto ((1:Int)+2*BK (fE AR.1)+AR.2.1.length) AR.2.2.1.length) (1:Int)).bind fun Gn=>
         if Gn<0 then
          some false
         else
          ck ((upto ((1:Int)+2*BK (fE AR.1)+AR.2.1.length+AR.2.2.1.length) AR.2.2.2.1.length).length<1099511627776)<|
          ck (0≤Gn∧Gn+(upto ((1:Int)+2*BK (fE AR.1)+AR.2.1.length+AR.2.2.1.length) AR.2.2.2.1.length).length<1099511627776)<|
          if(Du Gn (upto ((1:Int)+2*BK (fE AR.1)+AR.2.1.length+AR.2.2.1.length) AR.2.2.2.1.length))<0 then
           some false
          else
           if(Du Gn (upto ((1:Int)+2*BK (fE AR.1)+AR.2.1.length+AR.2.2.1.length) AR.2.2.2.1.length))=(((1:Int)+2*BK (fE AR.1)+AR.2.1.length+AR.2.2.1.length)+AR.2.2.2.1.length)then
            some true
           else
            some false
       else
        some false
    else
     some false
   else
    some false
  | .inr q11_=>
   (J3 A7 A9 A8 Ah G6).bind fun Ae=>
   ck (BX Ae.1)<|
   ck (Ae.2.1.length<1099511627776)<|
   ck (Ae.2.2.1.length<1099511627776)<|
   if(EK Ae.1 Ae.2.1 Ae.2.2.1 q11_.1 q11_.2.1 q11_.2.2.1)=true then
    ck (Ae.2.2.2.1.length<1099511627776)<|
    if(decide (Ae.2.2.2.1=q11_.2.2.2.1))=true then
     if Ae.2.2.2.2=true then
      if q11_.2.2.2.2=true then
       if(EK A7 A9 A8 A7 A9 A8)=true then
        ck (0≤(1:Int)∧(1:Int)+2*BK (fE A7)+A9.length+A8.length<1099511627776)<|
        if((1:Int)+2*BK (fE A7)+A9.length+A8.length)<0 then
         some false
        else
         ck (0≤(1:Int)∧(1:Int)+2*BK (fE Ae.1)+Ae.2.1.length+Ae.2.2.1.length<1099511627776)<|
         ck (0≤((1:Int)+2*BK (fE Ae.1)+Ae.2.1.length+Ae.2.2.1.length)∧((1:Int)+2*BK (fE Ae.1)+Ae.2.1.length+Ae.2.2.1.length)<1099511627776)<|
         (Dl (Cs (1:Int) Ae.1) (upto ((1:Int)+2*BK (fE Ae.1)) Ae.2.1.length) (upto ((1:Int)+2*BK (fE Ae.1)+Ae.2.1.length) Ae.2.2.1.length) (1:Int)).bind fun Kj=>
         if Kj<0 then
          some false
         else
          ck ((upto ((1:Int)+2*BK (fE Ae.1)+Ae.2.1.length+Ae.2.2.1.length) Ae.2.2.2.1.length).length<1099511627776)<|
          ck (0≤Kj∧Kj+(upto ((1:Int)+2*BK (fE Ae.1)+Ae.2.1.length+Ae.2.2.1.length) Ae.2.2.2.1.length).length<1099511627776)<|
          if(Du Kj (upto ((1:Int)+2*BK (fE Ae.1)+Ae.2.1.length+Ae.2.2.1.length) Ae.2.2.2.1.length))<0 then
           some false
          else
           if(Du Kj (upto ((1:Int)+2*BK (fE Ae.1)+Ae.2.1.length+Ae.2.2.1.length) Ae.2.2.2.1.length))=(((1:Int)+2*BK (fE Ae.1)+Ae.2.1.length+Ae.2.2.1.length)+Ae.2.2.2.1.length)then
            some true
           else
            some false
       else
        some false
      else
       some false
     else
      if q11_.2.2.2.2=true then
       some false
      else
       if(EK A7 A9 A8 A7 A9 A8)=true then
        ck (0≤(1:Int)∧(1:Int)+2*BK (fE A7)+A9.length+A8.length<1099511627776)<|
        if((1:Int)+2*BK (fE A7)+A9.length+A8.length)<0 then
         some false
        else
         ck (0≤(1:Int)∧(1:Int)+2*BK (fE Ae.1)+Ae.2.1.length+Ae.2.2.1.length<1099511627776)<|
         ck (0≤((1:Int)+2*BK (fE Ae.1)+Ae.2.1.length+Ae.2.2.1.length)∧((1:Int)+2*BK (fE Ae.1)+Ae.2.1.length+Ae.2.2.1.length)<1099511627776)<|
         (Dl (Cs (1:Int) Ae.1) (upto ((1:Int)+2*BK (fE Ae.1)) Ae.2.1.length) (upto ((1:Int)+2*BK (fE Ae.1)+Ae.2.1.length) Ae.2.2.1.length) (1:Int)).bind fun Kj=>
         if Kj<0 then
          some false
         else
          ck ((upto ((1:Int)+2*BK (fE Ae.1)+Ae.2.1.length+Ae.2.2.1.length) Ae.2.2.2.1.length).length<1099511627776)<|
          ck (0≤Kj∧Kj+(upto ((1:Int)+2*BK (fE Ae.1)+Ae.2.1.length+Ae.2.2.1.length) Ae.2.2.2.1.length).length<1099511627776)<|
          if(Du Kj (upto ((1:Int)+2*BK (fE Ae.1)+Ae.2.1.length+Ae.2.2.1.length) Ae.2.2.2.1.length))<0 then
           some false
          else
           if(Du Kj (upto ((1:Int)+2*BK (fE Ae.1)+Ae.2.1.length+Ae.2.2.1.length) Ae.2.2.2.1.length))=(((1:Int)+2*BK (fE Ae.1)+Ae.2.1.length+Ae.2.2.1.length)+Ae.2.2.2.1.length)then
            some true
           else
            some false
       else
        some false
    else
     some false
   else
    some false
def k4:SC:=
 .seq
 (.ops [
 ⟨(some 3),(.box 25 (.tmp 0)),0,none⟩,
 ⟨(some 6),(.assign (.const (.bool false))),4,none⟩])
 (.seq
 (.ops [
 ⟨(some 7),(.assign (.const (.int .i64 1048576))),3,none⟩])
 (.seq
 (.ops [
 ⟨(some 21),(.load 25 (.tmp 3)),25,none⟩,
 ⟨(some 22),(.move (.tmp 7)),3,none⟩,
 ⟨(some 23),(.call ⟨(.value (.func 8)), #[(.tmp 21),(.tmp 22)], #[25,3]⟩),3,none⟩,
 ⟨(some 7),(.assign (.tmp 23)),3,none⟩])
 (.seq
 (.seq
 (.ops [
 ⟨(some 24),(.move (.tmp 7)),3,none⟩,
 ⟨(some 25),(.binOp .lss 3 (.tmp 24) (.const (.int .i64 0)) 3),4,none⟩])
 (.cond (.tmp 25)
 (.seq
 (.ops [
 ⟨(some 6),(.assign (.const (.bool true))),4,none⟩])
 .ret)
 .skip))
 (.seq
 (.ops [
 ⟨(some 27),(.load 25 (.tmp 3)),25,none⟩,
 ⟨(some 28),(.call ⟨(.value (.func 10)), #[(.tmp 27)], #[25]⟩),31,none⟩,
 ⟨(some 29),(.move (.tmp 1)),3,none⟩,
 ⟨(some 30),(.move (.tmp 2)),3,none⟩,
 ⟨(some 31),(.call ⟨(.value (.func 15)), #[(.tmp 28),(.tmp 29),(.tmp 30)], #[31,3,3]⟩),37,none⟩,
 ⟨(some 26),(.move (.tmp 31)),37,none⟩,
 ⟨(some 32),(.extract (.tmp 26) 0),31,none⟩,
 ⟨(some 33),(.extract (.tmp 26) 1),23,none⟩,
 ⟨(some 34),(.extract (.tmp 26) 2),4,none⟩,
 ⟨(some 8),(.alloc 31),0,none⟩,
 ⟨none,(.store 31 (.tmp 8) (.tmp 32)),0,none⟩,
 ⟨(some 9),(.assign (.tmp 33)),23,none⟩,
 ⟨(some 10),(.assign (.tmp 34)),4,none⟩])
 (.seq
 (.ops [
 ⟨(some 35),(.load 25 (.tmp 3)),25,none⟩,
 ⟨(some 36),(.call ⟨(.value (.func 10)), #[(.tmp 35)], #[25]⟩),31,none⟩,
 ⟨(some 11),(.alloc 31),0,none⟩,
 ⟨none,(.store 31 (.tmp 11) (.tmp 36)),0,none⟩])
 (.seq
 (.ops [
 ⟨(some 38),(.load 31 (.tmp 11)),31,none⟩,
 ⟨(some 39),(.move (.tmp 1)),3,none⟩,
 ⟨(some 40),(.move (.tmp 2)),3,none⟩,
 ⟨(some 41),(.call ⟨(.value (.func 16)), #[(.tmp 38),(.tmp 39),(.tmp 40)], #[31,3,3]⟩),37,none⟩,
 ⟨(some 37),(.move (.tmp 41)),37,none⟩,
 ⟨(some 42),(.extract (.tmp 37) 0),31,none⟩,
 ⟨(some 43),(.extract (.tmp 37) 1),23,none⟩,
 ⟨(some 44),(.extract (.tmp 37) 2),4,none⟩,
 ⟨(some 12),(.alloc 31),0,none⟩,
 ⟨none,(.store 31 (.tmp 12) (.tmp 42)),0,none⟩,
 ⟨(some 13),(.assign (.tmp 43)),23,none⟩,
 ⟨(some 14),(.assign (.tmp 44)),4,none⟩])
 (.seq
 (.seq
 (.ops [
 ⟨(some 45),(.load 31 (.tmp 12)),31,none⟩,
 ⟨(some 46),(.load 31 (.tmp 8)),31,none⟩,
 ⟨(some 47),(.call ⟨(.value (.func 13)), #[(.tmp 45),(.tmp 46)], #[31,31]⟩),4,none⟩,
 ⟨(some 48),(.unOp .not 4 (.tmp 47)),4,none⟩,
 ⟨(some 49),(.move (.tmp 48)),4,none⟩,
 ⟨(some 50),(.move (.tmp 13)),23,(some (some 49,false))⟩,
 ⟨(some 51),(.move (.tmp 9)),23,(some (some 49,false))⟩,
 ⟨(some 52),(.call ⟨(.value (.func 14)), #[(.tmp 50),(.tmp 51)], #[23,23]⟩),4,(some (some 49,false))⟩,
 ⟨(some 53),(.unOp .not 4 (.tmp 52)),4,(some (some 49,false))⟩,
 ⟨(some 54),(.pick (.tmp 49) (.const (.bool true)) (.tmp 53)),4,none⟩,
 ⟨(some 55),(.move (.tmp 54)),4,none⟩,
 ⟨(some 56),(.move (.tmp 14)),4,(some (some 55,false))⟩,
 ⟨(some 57),(.move (.tmp 10)),4,(some (some 55,false))⟩,
 ⟨(some 58),(.binOp .neq 4 (.tmp 56) (.tmp 57) 4),4,(some (some 55,false))⟩,
 ⟨(some 59),(.pick (.tmp 55) (.const (.bool true)) (.tmp 58)),4,none⟩])
 (.cond (.tmp 59)
 (.seq
 (.ops [
 ⟨(some 6),(.assign (.const (.bool false))),4,none⟩])
 .ret)
 .skip))
 (.seq
 (.seq
 (.draws [
 (⟨[60,11,11],[60,61,62,63,64],[60]⟩,⟨(some 60),(.load 31 (.tmp 11)),31,none⟩),
 (⟨[61,3,3],[60,61,62,63,64],[61]⟩,⟨(some 61),(.load 25 (.tmp 3)),25,none⟩),
 (⟨[62,61,3],[60,61,62,63,64],[62]⟩,⟨(some 62),(.call ⟨(.value (.func 10)), #[(.tmp 61)], #[25]⟩),31,none⟩),
 (⟨[63,60,62,11,62],[60,61,62,63,64],[63]⟩,⟨(some 63),(.call ⟨(.value (.func 13)), #[(.tmp 60),(.tmp 62)], #[31,31]⟩),4,none⟩),
 (⟨[64,63,63],[60,61,62,63,64],[64]⟩,⟨(some 64),(.unOp .not 4 (.tmp 63)),4,none⟩)])
 (.cond (.tmp 64)
 (.seq
 (.ops [
 ⟨(some 6),(.assign (.const (.bool false))),4,none⟩])
 .ret)
 .skip))
 (.seq
 (.ops [
 ⟨(some 15),(.assign (.const (.int .i64 1))),3,none⟩])
 (.seq
 (.ops [
 ⟨(some 65),(.load 31 (.tmp 11)),31,none⟩,
 ⟨(some 66),(.move (.tmp 15)),3,none⟩,
 ⟨(some 67),(.call ⟨(.value (.func 17)), #[(.tmp 65),(.tmp 66)], #[31,3]⟩),3,none⟩,
 ⟨(some 15),(.assign (.tmp 67)),3,none⟩])
 (.seq
 (.seq
 (.ops [
 ⟨(some 68),(.move (.tmp 15)),3,none⟩,
 ⟨(some 69),(.binOp .lss 3 (.tmp 68) (.const (.int .i64 0)) 3),4,none⟩,
 ⟨(some 70),(.move (.tmp 69)),4,none⟩,
 ⟨(some 71),(.load 31 (.tmp 12)),31,(some (some 70,false))⟩,
 ⟨(some 72),(.load 31 (.tmp 8)),31,(some (some 70,false))⟩,
 ⟨(some 73),(.call ⟨(.value (.func 13)), #[(.tmp 71),(.tmp 72)], #[31,31]⟩),4,(some (some 70,false))⟩,
 ⟨(some 74),(.unOp .not 4 (.tmp 73)),4,(some (some 70,false))⟩,
 ⟨(some 75),(.pick (.tmp 70) (.const (.bool true)) (.tmp 74)),4,none⟩,
 ⟨(some 76),(.move (.tmp 75)),4,none⟩,
 ⟨(some 77),(.move (.tmp 13)),23,(some (some 76,false))⟩,
 ⟨(some 78),(.move (.tmp 9)),23,(some (some 76,false))⟩,
 ⟨(some 79),(.call ⟨(.value (.func 14)), #[(.tmp 77),(.tmp 78)], #[23,23]⟩),4,(some (some 76,false))⟩,
 ⟨(some 80),(.unOp .not 4 (.tmp 79)),4,(some (some 76,false))⟩,
 ⟨(some 81),(.pick (.tmp 76) (.const (.bool true)) (.tmp 80)),4,none⟩,
 ⟨(some 82),(.move (.tmp 81)),4,none⟩,
 ⟨(some 83),(.move (.tmp 14)),4,(some (some 82,false))⟩,
 ⟨(some 84),(.move (.tmp 10)),4,(some (some 82,false))⟩,
 ⟨(some 85),(.binOp .neq 4 (.tmp 83) (.tmp 84) 4),4,(some (some 82,false))⟩,
 ⟨(some 86),(.pick (.tmp 82) (.const (.bool true)) (.tmp 85)),4,none⟩])
 (.cond (.tmp 86)
 (.seq
 (.ops [
 ⟨(some 6),(.assign (.const (.bool false))),4,none⟩])
 .ret)
 .skip))
 (.seq
 (.ops [
 ⟨(some 16),(.assign (.const (.int .i64 1))),3,none⟩])
 (.seq
 (.ops [
 ⟨(some 87),(.load 31 (.tmp 12)),31,none⟩,
 ⟨(some 88),(.move (.tmp 16)),3,none⟩,
 ⟨(some 89),(.call ⟨(.value (.func 17)), #[(.tmp 87),(.tmp 88)], #[31,3]⟩),3,none⟩,
 ⟨(some 16),(.assign (.tmp 89)),3,none⟩])
 (.seq
 (.ops [
 ⟨(some 90),(.move (.tmp 13)),23,none⟩,
 ⟨(some 91),(.move (.tmp 16)),3,none⟩,
 ⟨(some 92),(.call ⟨(.value (.func 18)), #[(.tmp 90),(.tmp 91)], #[23,3]⟩),3,none⟩,
 ⟨(some 16),(.assign (.tmp 92)),3,none⟩])
 (.seq
 (.ops [
 ⟨(some 17),(.assign (.const (.int .i64 1))),3,none⟩])
 (.seq
 (.ops [
 ⟨(some 93),(.load 31 (.tmp 12)),31,none⟩,
 ⟨(some 94),(.move (.tmp 17)),3,none⟩,
 ⟨(some 95),(.call ⟨(.value (.func 19)), #[(.tmp 93),(.tmp 94)], #[31,3]⟩),3,none⟩,
 ⟨(some 17),(.assign (.tmp 95)),3,none⟩])
 (.seq
 (.seq
 (.ops [
 ⟨(some 96),(.move (.tmp 17)),3,none⟩,
 ⟨(some 97),(.binOp .lss 3 (.tmp 96) (.const (.int .i64 0)) 3),4,none⟩])
 (.cond (.tmp 97)
 (.seq
 (.ops [
 ⟨(some 6),(.assign (.const (.bool false))),4,none⟩])
 .ret)
 .skip))
 (.seq
 (.ops [
 ⟨(some 98),(.move (.tmp 13)),23,none⟩,
 ⟨(some 99),(.move (.tmp 17)),3,none⟩,
 ⟨(some 100),(.call ⟨(.value (.func 20)), #[(.tmp 98),(.tmp 99)], #[23,3]⟩),3,none⟩,
 ⟨(some 17),(.assign (.tmp 100)),3,none⟩])
 (.seq
 (.seq
 (.ops [
 ⟨(some 101),(.move (.tmp 17)),3,none⟩,
 ⟨(some 102),(.binOp .lss 3 (.tmp 101) (.const (.int .i64 0)) 3),4,none⟩])
 (.cond (.tmp 102)
 (.seq
 (.ops [
 ⟨(some 6),(.assign (.const (.bool false))),4,none⟩])
 .ret)
 .skip))
 (.seq
 (.seq
 (.ops [
 ⟨(some 103),(.move (.tmp 17)),3,none⟩,
 ⟨(some 104),(.move (.tmp 16)),3,none⟩,
 ⟨(some 105),(.binOp .neq 3 (.tmp 103) (.tmp 104) 3),4,none⟩])
 (.cond (.tmp 105)
 (.seq
 (.ops [
 ⟨(some 6),(.assign (.const (.bool false))),4,none⟩])
 .ret)
 .skip))
 (.seq
 (.ops [
 ⟨(some 107),(.load 25 (.tmp 3)),25,none⟩,
 ⟨(some 108),(.call ⟨(.value (.func 10)), #[(.tmp 107)], #[25]⟩),31,none⟩,
 ⟨(some 109),(.move (.tmp 1)),3,none⟩,
 ⟨(some 110),(.move (.tmp 2)),3,none⟩,
 ⟨(some 111),(.call ⟨(.value (.func 16)), #[(.tmp 108),(.tmp 109),(.tmp 110)], #[31,3,3]⟩),37,none⟩,
 ⟨(some 106),(.move (.tmp 111)),37,none⟩,
 ⟨(some 112),(.extract (.tmp 106) 0),31,none⟩,
 ⟨(some 113),(.extract (.tmp 106) 1),23,none⟩,
 ⟨(some 114),(.extract (.tmp 106) 2),4,none⟩,
 ⟨(some 18),(.alloc 31),0,none⟩,
 ⟨none,(.store 31 (.tmp 18) (.tmp 112)),0,none⟩,
 ⟨(some 19),(.assign (.tmp 113)),23,none⟩,
 ⟨(some 20),(.assign (.tmp 114)),4,none⟩])
 (.seq
 (.seq
 (.ops [
 ⟨(some 115),(.load 31 (.tmp 18)),31,none⟩,
 ⟨(some 116),(.load 31 (.tmp 8)),31,none⟩,
 ⟨(some 117),(.call ⟨(.value (.func 13)), #[(.tmp 115),(.tmp 116)], #[31,31]⟩),4,none⟩,
 ⟨(some 118),(.unOp .not 4 (.tmp 117)),4,none⟩,
 ⟨(some 119),(.move (.tmp 118)),4,none⟩,
 ⟨(some 120),(.move (.tmp 19)),23,(some (some 119,false))⟩,
 ⟨(some 121),(.move (.tmp 9)),23,(some (some 119,false))⟩,
 ⟨(some 122),(.call ⟨(.value (.func 14)), #[(.tmp 120),(.tmp 121)], #[23,23]⟩),4,(some (some 119,false))⟩,
 ⟨(some 123),(.unOp .not 4 (.tmp 122)),4,(some (some 119,false))⟩,
 ⟨(some 124),(.pick (.tmp 119) (.const (.bool true)) (.tmp 123)),4,none⟩,
 ⟨(some 125),(.move (.tmp 124)),4,none⟩,
 ⟨(some 126),(.move (.tmp 20)),4,(some (some 125,false))⟩,
 ⟨(some 127),(.move (.tmp 10)),4,(some (some 125,false))⟩,
 ⟨(some 128),(.binOp .neq 4 (.tmp 126) (.tmp 127) 4),4,(some (some 125,false))⟩,
 ⟨(some 129),(.pick (.tmp 125) (.const (.bool true)) (.tmp 128)),4,none⟩])
 (.cond (.tmp 129)
 (.seq
 (.ops [
 ⟨(some 6),(.assign (.const (.bool false))),4,none⟩])
 .ret)
 .skip))
 (.seq
 (.ops [
 ⟨(some 17),(.assign (.const (.int .i64 1))),3,none⟩])
 (.seq
 (.ops [
 ⟨(some 130),(.load 31 (.tmp 12)),31,none⟩,
 ⟨(some 131),(.move (.tmp 17)),3,none⟩,
 ⟨(some 132),(.call ⟨(.value (.func 19)), #[(.tmp 130),(.tmp 131)], #[31,3]⟩),3,none⟩,
 ⟨(some 17),(.assign (.tmp 132)),3,none⟩])
 (.seq
 (.seq
 (.ops [
 ⟨(some 133),(.move (.tmp 17)),3,none⟩,
 ⟨(some 134),(.binOp .lss 3 (.tmp 133) (.const (.int .i64 0)) 3),4,none⟩])
 (.cond (.tmp 134)
 (.seq
 (.ops [
 ⟨(some 6),(.assign (.const (.bool false))),4,none⟩])
 .ret)
 .skip))
 (.seq
 (.ops [
 ⟨(some 135),(.move (.tmp 13)),23,none⟩,
 ⟨(some 136),(.move (.tmp 17)),3,none⟩,
 ⟨(some 137),(.call ⟨(.value (.func 20)), #[(.tmp 135),(.tmp 136)], #[23,3]⟩),3,none⟩,
 ⟨(some 17),(.assign (.tmp 137)),3,none⟩])
 (.seq
 (.seq
 (.ops [
 ⟨(some 138),(.move (.tmp 17)),3,none⟩,
 ⟨(some 139),(.binOp .lss 3 (.tmp 138) (.const (.int .i64 0)) 3),4,none⟩])
 (.cond (.tmp 139)
 (.seq
 (.ops [
 ⟨(some 6),(.assign (.const (.bool false))),4,none⟩])
 .ret)
 .skip))
 (.seq
 (.seq
 (.ops [
 ⟨(some 140),(.move (.tmp 17)),3,none⟩,
 ⟨(some 141),(.move (.tmp 16)),3,none⟩,
 ⟨(some 142),(.binOp .neq 3 (.tmp 140) (.tmp 141) 3),4,none⟩])
 (.cond (.tmp 142)
 (.seq
 (.ops [
 ⟨(some 6),(.assign (.const (.bool false))),4,none⟩])
 .ret)
 .skip))
 (.seq
 (.ops [
 ⟨(some 6),(.assign (.const (.bool true))),4,none⟩])
 .ret)))))))))))))))))))))))))))))
theorem AAi:Try.f4.body.map (Bh lends)=some k4:=by kernel_rfl
theorem ok4:CB Try.f4 3=true:=by kernel_rfl
theorem c4{a l:List D}{r:D×List D}(h:Bq Y.env k4 (fin AX l.length [ResultVar.tmp 6] r) (entry a l))(ha:a.length=3):Y.call 4 a l=some r:=
 AU (Y:=Y) rfl Try.func4 (ha▸ok4) AAi h
theorem MQ(A7:List (List (Int×Int)))(A9:List Int)(A8:List Int)(Ah:Int)(G6:Int){r:Bool}(h:GV A7 A9 A8 Ah G6=some r):Y.call 4 [D.agg [D.sl 97 (AP (fun x=>D.sl 141 (AY .i64 .i64 x)) A7),D.sl 3 (AP (D.int .i64) A9),D.sl 3 (AP (D.int .i64) A8)],D.int .i64 Ah,D.int .i64 G6] []=some (D.bool r,[]):=by
 refine c4 ?_ rfl
 unfold k4
 unfold GV at h
 obtain⟨e1,h⟩:=BF h
 obtain⟨e2,h⟩:=BF h
 obtain⟨e3,h⟩:=BF h
 obtain⟨e4,h⟩:=BF h
 have c5:=TK A7 A9 A8 (1048576:Int) e1 e2 e3 e4
 by_cases e6:(oq (1048576:Int) A7 A9 A8)<0
 ·rw [if_pos e6]at h
  obtain rfl:=Option.some.inj h
  simp (maxDischargeDepth:=9) only [↓AO,AB,BP,AJ,AQ,↓reduceIte,Nat.reduceEqDiff,Nat.reduceLT,Nat.reduceAdd,c5,e6]
 ·rw [if_neg e6]at h
  obtain⟨e7,h⟩:=BF h
  obtain⟨e8,h⟩:=BF h
  obtain⟨e9,h⟩:=BF h
  have JC:=BJ A7 A9 A8 e7 e8 e9
  obtain⟨dD,hl11,h⟩:=Ao h
  try dsimp only at h
  have Iw:=R8 A7 A9 A8 Ah G6 hl11
  rcases dD with q11_ | q11_
  ·dsimp only at h Iw
   by_cases e12:(!q11_.2.2.2.1.isEmpty)=true
   ·skip
    have oo:=BJ A7 A9 A8 e7 e8 e9
    obtain⟨AR,hl14,h⟩:=Ao h
    try dsimp only at h
    have NF:=Jr A7 A9 A8 Ah G6 hl14
    obtain⟨e15,h⟩:=BF h
    obtain⟨e16,h⟩:=BF h
    obtain⟨e17,h⟩:=BF h
    have MC:=Ap AR.1 AR.2.1 AR.2.2.1 q11_.1 q11_.2.1 q11_.2.2.1 e15 e16 e17
    by_cases e19:(EK AR.1 AR.2.1 AR.2.2.1 q11_.1 q11_.2.1 q11_.2.2.1)=true
    ·rw [if_pos e19]at h
     obtain⟨e20,h⟩:=BF h
     have c21:=Bj AR.2.2.2.1 q11_.2.2.2.1 e20
     by_cases e22:(decide (AR.2.2.2.1=q11_.2.2.2.1))=true
     ·rw [if_pos e22]at h
      by_cases e23:AR.2.2.2.2=true
      ·rw [if_pos e23]at h
       by_cases e24:q11_.2.2.2.2=true
       ·rw [if_pos e24]at h
        have UN:=BJ A7 A9 A8 e7 e8 e9
        have c26:=Ap A7 A9 A8 A7 A9 A8 e7 e8 e9
        by_cases e27:(EK A7 A9 A8 A7 A9 A8)=true
        ·rw [if_pos e27]at h
         obtain⟨e28,h⟩:=BF h
         have c29:=BR A7 A9 A8 (1:Int) e7 e8 e9 e28
         by_cases e30:((1:Int)+2*BK (fE A7)+A9.length+A8.length)<0
         ·rw [if_pos e30]at h
          obtain rfl:=Option.some.inj h
          simp (maxDischargeDepth:=9) only [↓AO,AB,Ac,BP,AJ,AQ,↓reduceIte,Nat.reduceEqDiff,Nat.reduceLT,Nat.reduceAdd,Nat.reduceBEq,c5,e6,JC,Iw,e12,NF,MC,e19,c21,e22,e23,e24,c26,e27,c29,e30]
         ·rw [if_neg e30]at h
          have c31:=Ap AR.1 AR.2.1 AR.2.2.1 q11_.1 q11_.2.1 q11_.2.2.1 e15 e16 e17
          have c32:=Bj AR.2.2.2.1 q11_.2.2.2.1 e20
          obtain⟨e33,h⟩:=BF h
          have VZ:=BR AR.1 AR.2.1 AR.2.2.1 (1:Int) e15 e16 e17 e33
          obtain⟨e35,h⟩:=BF h
          have Ni:=Di AR.2.2.2.1 ((1:Int)+2*BK (fE AR.1)+AR.2.1.length+AR.2.2.1.length) e20 e35
          obtain⟨Gn,hl37,h⟩:=Ao h
          try dsimp only at h
          have UY:=DI (Cs (1:Int) AR.1) (upto ((1:Int)+2*BK (fE AR.1)) AR.2.1.length) (upto ((1:Int)+2*BK (fE AR.1)+AR.2.1.length) AR.2.2.1.length) (1:Int) hl37
          by_cases e38:Gn<0
          ·rw [if_pos e38]at h
           obtain rfl:=Option.some.inj h
           simp (maxDischargeDepth:=9) only [↓AO,AB,Ac,BP,AJ,AQ,↓reduceIte,Nat.reduceEqDiff,Nat.reduceLT,Nat.reduceAdd,Nat.reduceBEq,c5,e6,JC,Iw,e12,NF,MC,e19,c21,e22,e23,e24,c26,e27,c29,e30,VZ,Ni,UY,e38]
          ·rw [if_neg e38]at h
           obtain⟨e39,h⟩:=BF h
           obtain⟨e40,h⟩:=BF h
           have Pw:=Bf (upto ((1:Int)+2*BK (fE AR.1)+AR.2.1.length+AR.2.2.1.length) AR.2.2.2.1.length) Gn e39 e40
           by_cases e42:(Du Gn (upto ((1:Int)+2*BK (fE AR.1)+AR.2.1.length+AR.2.2.1.length) AR.2.2.2.1.length))<0
           ·rw [if_pos e42]at h
            obtain rfl:=Option.some.inj h
            simp (maxDischargeDepth:=9) only [↓AO,AB,Ac,BP,AJ,AQ,↓reduceIte,Nat.reduceEqDiff,Nat.reduceLT,Nat.reduceAdd,Nat.reduceBEq,c5,e6,JC,Iw,e12,NF,MC,e19,c21,e22,e23,e24,c26,e27,c29,e30,VZ,Ni,UY,e38,Pw,e42]
           ·rw [if_neg e42]at h
            by_cases e43:(Du Gn (upto ((1:Int)+2*BK (fE AR.1)+AR.2.1.length+AR.2.2.1.length) AR.2.2.2.1.length))=(((1:Int)+2*BK (fE AR.1)+AR.2.1.length+AR.2.2.1.length)+AR.2.2.2.1.length)
            ·rw [if_pos e43]at h
             have dG:=BJ A7 A9 A8 e7 e8 e9
             have c45:=Ap AR.1 AR.2.1 AR.2.2.1 q11_.1 q11_.2.1 q11_.2.2.1 e15 e16 e17
             have c46:=Bj AR.2.2.2.1 q11_.2.2.2.1 e20
             have c47:=Bf (upto ((1:Int)+2*BK (fE AR.1)+AR.2.1.length+AR.2.2.1.length) AR.2.2.2.1.length) Gn e39 e40
             obtain rfl:=Option.some.inj h
             simp (maxDischargeDepth:=9) only [↓AO,AB,Ac,BP,AJ,AQ,↓reduceIte,Nat.reduceEqDiff,Nat.reduceLT,Nat.reduceAdd,Nat.reduceBEq,c5,e6,JC,Iw,e12,NF,MC,e19,c21,e22,e23,e24,c26,e27,c29,e30,VZ,Ni,UY,e38,Pw,e42,decide_eq_true e43]
            ·rw [if_neg e43]at h
             obtain rfl:=Option.some.inj h
             simp (maxDischargeDepth:=9) only [↓AO,AB,Ac,BP,AJ,AQ,↓reduceIte,Nat.reduceEqDiff,Nat.reduceLT,Nat.reduceAdd,Nat.reduceBEq,c5,e6,JC,Iw,e12,NF,MC,e19,c21,e22,e23,e24,c26,e27,c29,e30,VZ,Ni,UY,e38,Pw,e42,e43]
        ·rw [if_neg e27]at h
         have e27f:(EK A7 A9 A8 A7 A9 A8)=false:=Bool.eq_false_iff.mpr e27
         obtain rfl:=Option.some.inj h
         simp (maxDischargeDepth:=9) only [↓AO,AB,Ac,BP,AJ,AQ,↓reduceIte,Nat.reduceEqDiff,Nat.reduceLT,Nat.reduceAdd,Nat.reduceBEq,c5,e6,JC,Iw,e12,NF,MC,e19,c21,e22,e23,e24,c26,e27f]
       ·rw [if_neg e24]at h
        have e24f:q11_.2.2.2.2=false:=Bool.eq_false_iff.mpr e24
        obtain rfl:=Option.some.inj h
        simp (maxDischargeDepth:=9) only [↓AO,AB,Ac,BP,AJ,AQ,↓reduceIte,Nat.reduceEqDiff,Nat.reduceLT,Nat.reduceAdd,Nat.reduceBEq,c5,e6,JC,Iw,e12,NF,MC,e19,c21,e22,e23,e24f]
      ·rw [if_neg e23]at h
       have e23f:AR.2.2.2.2=false:=Bool.eq_false_iff.mpr e23
       by_cases e24:q11_.2.2.2.2=true
       ·rw [if_pos e24]at h
        obtain rfl:=Option.some.inj h
        simp (maxDischargeDepth:=9) only [↓AO,AB,Ac,BP,AJ,AQ,↓reduceIte,Nat.reduceEqDiff,Nat.reduceLT,Nat.reduceAdd,Nat.reduceBEq,c5,e6,JC,Iw,e12,NF,MC,e19,c21,e22,e23f,e24]
       ·rw [if_neg e24]at h
        have e24f:q11_.2.2.2.2=false:=Bool.eq_false_iff.mpr e24
        have UN:=BJ A7 A9 A8 e7 e8 e9
        have c26:=Ap A7 A9 A8 A7 A9 A8 e7 e8 e9
        by_cases e27:(EK A7 A9 A8 A7 A9 A8)=true
        ·rw [if_pos e27]at h
         obtain⟨e28,h⟩:=BF h
         have c29:=BR A7 A9 A8 (1:Int) e7 e8 e9 e28
         by_cases e30:((1:Int)+2*BK (fE A7)+A9.length+A8.length)<0
         ·rw [if_pos e30]at h
          obtain rfl:=Option.some.inj h
          simp (maxDischargeDepth:=9) only [↓AO,AB,Ac,BP,AJ,AQ,↓reduceIte,Nat.reduceEqDiff,Nat.reduceLT,Nat.reduceAdd,Nat.reduceBEq,c5,e6,JC,Iw,e12,NF,MC,e19,c21,e22,e23f,e24f,c26,e27,c29,e30]
         ·rw [if_neg e30]at h
          have c31:=Ap AR.1 AR.2.1 AR.2.2.1 q11_.1 q11_.2.1 q11_.2.2.1 e15 e16 e17
          have c32:=Bj AR.2.2.2.1 q11_.2.2.2.1 e20
          obtain⟨e33,h⟩:=BF h
          have VZ:=BR AR.1 AR.2.1 AR.2.2.1 (1:Int) e15 e16 e17 e33
          obtain⟨e35,h⟩:=BF h
          have Ni:=Di AR.2.2.2.1 ((1:Int)+2*BK (fE AR.1)+AR.2.1.length+AR.2.2.1.length) e20 e35
          obtain⟨Gn,hl37,h⟩:=Ao h
          try dsimp only at h
          have UY:=DI (Cs (1:Int) AR.1) (upto ((1:Int)+2*BK (fE AR.1)) AR.2.1.length) (upto ((1:Int)+2*BK (fE AR.1)+AR.2.1.length) AR.2.2.1.length) (1:Int) hl37
          by_cases e38:Gn<0
          ·rw [if_pos e38]at h
           obtain rfl:=Option.some.inj h
           simp (maxDischargeDepth:=9) only [↓AO,AB,Ac,BP,AJ,AQ,↓reduceIte,Nat.reduceEqDiff,Nat.reduceLT,Nat.reduceAdd,Nat.reduceBEq,c5,e6,JC,Iw,e12,NF,MC,e19,c21,e22,e23f,e24f,c26,e27,c29,e30,VZ,Ni,UY,e38]
          ·rw [if_neg e38]at h
           obtain⟨e39,h⟩:=BF h
           obtain⟨e40,h⟩:=BF h
           have Pw:=Bf (upto ((1:Int)+2*BK (fE AR.1)+AR.2.1.length+AR.2.2.1.length) AR.2.2.2.1.length) Gn e39 e40
           by_cases e42:(Du Gn (upto ((1:Int)+2*BK (fE AR.1)+AR.2.1.length+AR.2.2.1.length) AR.2.2.2.1.length))<0
           ·rw [if_pos e42]at h
            obtain rfl:=Option.some.inj h
            simp (maxDischargeDepth:=9) only [↓AO,AB,Ac,BP,AJ,AQ,↓reduceIte,Nat.reduceEqDiff,Nat.reduceLT,Nat.reduceAdd,Nat.reduceBEq,c5,e6,JC,Iw,e12,NF,MC,e19,c21,e22,e23f,e24f,c26,e27,c29,e30,VZ,Ni,UY,e38,Pw,e42]
           ·rw [if_neg e42]at h
            by_cases e43:(Du Gn (upto ((1:Int)+2*BK (fE AR.1)+AR.2.1.length+AR.2.2.1.length) AR.2.2.2.1.length))=(((1:Int)+2*BK (fE AR.1)+AR.2.1.length+AR.2.2.1.length)+AR.2.2.2.1.length)
            ·rw [if_pos e43]at h
             have dG:=BJ A7 A9 A8 e7 e8 e9
             have c45:=Ap AR.1 AR.2.1 AR.2.2.1 q11_.1 q11_.2.1 q11_.2.2.1 e15 e16 e17
             have c46:=Bj AR.2.2.2.1 q11_.2.2.2.1 e20
             have c47:=Bf (upto ((1:Int)+2*BK (fE AR.1)+AR.2.1.length+AR.2.2.1.length) AR.2.2.2.1.length) Gn e39 e40
             obtain rfl:=Option.some.inj h
             simp (maxDischargeDepth:=9) only [↓AO,AB,Ac,BP,AJ,AQ,↓reduceIte,Nat.reduceEqDiff,Nat.reduceLT,Nat.reduceAdd,Nat.reduceBEq,c5,e6,JC,Iw,e12,NF,MC,e19,c21,e22,e23f,e24f,c26,e27,c29,e30,VZ,Ni,UY,e38,Pw,e42,decide_eq_true e43]
            ·rw [if_neg e43]at h
             obtain rfl:=Option.some.inj h
             simp (maxDischargeDepth:=9) only [↓AO,AB,Ac,BP,AJ,AQ,↓reduceIte,Nat.reduceEqDiff,Nat.reduceLT,Nat.reduceAdd,Nat.reduceBEq,c5,e6,JC,Iw,e12,NF,MC,e19,c21,e22,e23f,e24f,c26,e27,c29,e30,VZ,Ni,UY,e38,Pw,e42,e43]
        ·rw [if_neg e27]at h
         have e27f:(EK A7 A9 A8 A7 A9 A8)=false:=Bool.eq_false_iff.mpr e27
         obtain rfl:=Option.some.inj h
         simp (maxDischargeDepth:=9) only [↓AO,AB,Ac,BP,AJ,AQ,↓reduceIte,Nat.reduceEqDiff,Nat.reduceLT,Nat.reduceAdd,Nat.reduceBEq,c5,e6,JC,Iw,e12,NF,MC,e19,c21,e22,e23f,e24f,c26,e27f]
     ·rw [if_neg e22]at h
      have e22f:(decide (AR.2.2.2.1=q11_.2.2.2.1))=false:=Bool.eq_false_iff.mpr e22
      obtain rfl:=Option.some.inj h
      simp (maxDischargeDepth:=9) only [↓AO,AB,Ac,BP,AJ,AQ,↓reduceIte,Nat.reduceEqDiff,Nat.reduceLT,Nat.reduceAdd,Nat.reduceBEq,c5,e6,JC,Iw,e12,NF,MC,e19,c21,e22f]
    ·rw [if_neg e19]at h
     have e19f:(EK AR.1 AR.2.1 AR.2.2.1 q11_.1 q11_.2.1 q11_.2.2.1)=false:=Bool.eq_false_iff.mpr e19
     obtain rfl:=Option.some.inj h
     simp (maxDischargeDepth:=9) only [↓AO,AB,Ac,BP,AJ,AQ,↓reduceIte,Nat.reduceEqDiff,Nat.reduceLT,Nat.reduceAdd,Nat.reduceBEq,c5,e6,JC,Iw,e12,NF,MC,e19f]
   ·skip
    have e12f:(!q11_.2.2.2.1.isEmpty)=false:=Bool.eq_false_iff.mpr e12
    have oo:=BJ A7 A9 A8 e7 e8 e9
    obtain⟨AR,hl14,h⟩:=Ao h
    try dsimp only at h
    have NF:=Jr A7 A9 A8 Ah G6 hl14
    obtain⟨e15,h⟩:=BF h
    obtain⟨e16,h⟩:=BF h
    obtain⟨e17,h⟩:=BF h
    have MC:=Ap AR.1 AR.2.1 AR.2.2.1 q11_.1 q11_.2.1 q11_.2.2.1 e15 e16 e17
    by_cases e19:(EK AR.1 AR.2.1 AR.2.2.1 q11_.1 q11_.2.1 q11_.2.2.1)=true
    ·rw [if_pos e19]at h
     obtain⟨e20,h⟩:=BF h
     have c21:=Bj AR.2.2.2.1 q11_.2.2.2.1 e20
     by_cases e22:(decide (AR.2.2.2.1=q11_.2.2.2.1))=true
     ·rw [if_pos e22]at h
      by_cases e23:AR.2.2.2.2=true
      ·rw [if_pos e23]at h
       by_cases e24:q11_.2.2.2.2=true
       ·rw [if_pos e24]at h
        have UN:=BJ A7 A9 A8 e7 e8 e9
        have c26:=Ap A7 A9 A8 A7 A9 A8 e7 e8 e9
        by_cases e27:(EK A7 A9 A8 A7 A9 A8)=true
        ·rw [if_pos e27]at h
         obtain⟨e28,h⟩:=BF h
         have c29:=BR A7 A9 A8 (1:Int) e7 e8 e9 e28
         by_cases e30:((1:Int)+2*BK (fE A7)+A9.length+A8.length)<0
         ·rw [if_pos e30]at h
          obtain rfl:=Option.some.inj h
          simp (maxDischargeDepth:=9) only [↓AO,AB,Ac,BP,AJ,AQ,↓reduceIte,Nat.reduceEqDiff,Nat.reduceLT,Nat.reduceAdd,Nat.reduceBEq,c5,e6,JC,Iw,e12f,NF,MC,e19,c21,e22,e23,e24,c26,e27,c29,e30]
         ·rw [if_neg e30]at h
          have c31:=Ap AR.1 AR.2.1 AR.2.2.1 q11_.1 q11_.2.1 q11_.2.2.1 e15 e16 e17
          have c32:=Bj AR.2.2.2.1 q11_.2.2.2.1 e20
          obtain⟨e33,h⟩:=BF h
          have VZ:=BR AR.1 AR.2.1 AR.2.2.1 (1:Int) e15 e16 e17 e33
          obtain⟨e35,h⟩:=BF h
          have Ni:=Di AR.2.2.2.1 ((1:Int)+2*BK (fE AR.1)+AR.2.1.length+AR.2.2.1.length) e20 e35
          obtain⟨Gn,hl37,h⟩:=Ao h
          try dsimp only at h
          have UY:=DI (Cs (1:Int) AR.1) (upto ((1:Int)+2*BK (fE AR.1)) AR.2.1.length) (upto ((1:Int)+2*BK (fE AR.1)+AR.2.1.length) AR.2.2.1.length) (1:Int) hl37
          by_cases e38:Gn<0
          ·rw [if_pos e38]at h
           obtain rfl:=Option.some.inj h
           simp (maxDischargeDepth:=9) only [↓AO,AB,Ac,BP,AJ,AQ,↓reduceIte,Nat.reduceEqDiff,Nat.reduceLT,Nat.reduceAdd,Nat.reduceBEq,c5,e6,JC,Iw,e12f,NF,MC,e19,c21,e22,e23,e24,c26,e27,c29,e30,VZ,Ni,UY,e38]
          ·rw [if_neg e38]at h
           obtain⟨e39,h⟩:=BF h
           obtain⟨e40,h⟩:=BF h
           have Pw:=Bf (upto ((1:Int)+2*BK (fE AR.1)+AR.2.1.length+AR.2.2.1.length) AR.2.2.2.1.length) Gn e39 e40
           by_cases e42:(Du Gn (upto ((1:Int)+2*BK (fE AR.1)+AR.2.1.length+AR.2.2.1.length) AR.2.2.2.1.length))<0
           ·rw [if_pos e42]at h
            obtain rfl:=Option.some.inj h
            simp (maxDischargeDepth:=9) only [↓AO,AB,Ac,BP,AJ,AQ,↓reduceIte,Nat.reduceEqDiff,Nat.reduceLT,Nat.reduceAdd,Nat.reduceBEq,c5,e6,JC,Iw,e12f,NF,MC,e19,c21,e22,e23,e24,c26,e27,c29,e30,VZ,Ni,UY,e38,Pw,e42]
           ·rw [if_neg e42]at h
            by_cases e43:(Du Gn (upto ((1:Int)+2*BK (fE AR.1)+AR.2.1.length+AR.2.2.1.length) AR.2.2.2.1.length))=(((1:Int)+2*BK (fE AR.1)+AR.2.1.length+AR.2.2.1.length)+AR.2.2.2.1.length)
            ·rw [if_pos e43]at h
             have dG:=BJ A7 A9 A8 e7 e8 e9
             have c45:=Ap AR.1 AR.2.1 AR.2.2.1 q11_.1 q11_.2.1 q11_.2.2.1 e15 e16 e17
             have c46:=Bj AR.2.2.2.1 q11_.2.2.2.1 e20
             have c47:=Bf (upto ((1:Int)+2*BK (fE AR.1)+AR.2.1.length+AR.2.2.1.length) AR.2.2.2.1.length) Gn e39 e40
             obtain rfl:=Option.some.inj h
             simp (maxDischargeDepth:=9) only [↓AO,AB,Ac,BP,AJ,AQ,↓reduceIte,Nat.reduceEqDiff,Nat.reduceLT,Nat.reduceAdd,Nat.reduceBEq,c5,e6,JC,Iw,e12f,NF,MC,e19,c21,e22,e23,e24,c26,e27,c29,e30,VZ,Ni,UY,e38,Pw,e42,decide_eq_true e43]
            ·rw [if_neg e43]at h
             obtain rfl:=Option.some.inj h
             simp (maxDischargeDepth:=9) only [↓AO,AB,Ac,BP,AJ,AQ,↓reduceIte,Nat.reduceEqDiff,Nat.reduceLT,Nat.reduceAdd,Nat.reduceBEq,c5,e6,JC,Iw,e12f,NF,MC,e19,c21,e22,e23,e24,c26,e27,c29,e30,VZ,Ni,UY,e38,Pw,e42,e43]
        ·rw [if_neg e27]at h
         have e27f:(EK A7 A9 A8 A7 A9 A8)=false:=Bool.eq_false_iff.mpr e27
         obtain rfl:=Option.some.inj h
         simp (maxDischargeDepth:=9) only [↓AO,AB,Ac,BP,AJ,AQ,↓reduceIte,Nat.reduceEqDiff,Nat.reduceLT,Nat.reduceAdd,Nat.reduceBEq,c5,e6,JC,Iw,e12f,NF,MC,e19,c21,e22,e23,e24,c26,e27f]
       ·rw [if_neg e24]at h
        have e24f:q11_.2.2.2.2=false:=Bool.eq_false_iff.mpr e24
        obtain rfl:=Option.some.inj h
        simp (maxDischargeDepth:=9) only [↓AO,AB,Ac,BP,AJ,AQ,↓reduceIte,Nat.reduceEqDiff,Nat.reduceLT,Nat.reduceAdd,c5,e6,JC,Iw,e12f,NF,MC,e19,c21,e22,e23,e24f]
      ·rw [if_neg e23]at h
       have e23f:AR.2.2.2.2=false:=Bool.eq_false_iff.mpr e23
       by_cases e24:q11_.2.2.2.2=true
       ·rw [if_pos e24]at h
        obtain rfl:=Option.some.inj h
        simp (maxDischargeDepth:=9) only [↓AO,AB,Ac,BP,AJ,AQ,↓reduceIte,Nat.reduceEqDiff,Nat.reduceLT,Nat.reduceAdd,c5,e6,JC,Iw,e12f,NF,MC,e19,c21,e22,e23f,e24]
       ·rw [if_neg e24]at h
        have e24f:q11_.2.2.2.2=false:=Bool.eq_false_iff.mpr e24
        have UN:=BJ A7 A9 A8 e7 e8 e9
        have c26:=Ap A7 A9 A8 A7 A9 A8 e7 e8 e9
        by_cases e27:(EK A7 A9 A8 A7 A9 A8)=true
        ·rw [if_pos e27]at h
         obtain⟨e28,h⟩:=BF h
         have c29:=BR A7 A9 A8 (1:Int) e7 e8 e9 e28
         by_cases e30:((1:Int)+2*BK (fE A7)+A9.length+A8.length)<0
         ·rw [if_pos e30]at h
          obtain rfl:=Option.some.inj h
          simp (maxDischargeDepth:=9) only [↓AO,AB,Ac,BP,AJ,AQ,↓reduceIte,Nat.reduceEqDiff,Nat.reduceLT,Nat.reduceAdd,Nat.reduceBEq,c5,e6,JC,Iw,e12f,NF,MC,e19,c21,e22,e23f,e24f,c26,e27,c29,e30]
         ·rw [if_neg e30]at h
          have c31:=Ap AR.1 AR.2.1 AR.2.2.1 q11_.1 q11_.2.1 q11_.2.2.1 e15 e16 e17
          have c32:=Bj AR.2.2.2.1 q11_.2.2.2.1 e20
          obtain⟨e33,h⟩:=BF h
          have VZ:=BR AR.1 AR.2.1 AR.2.2.1 (1:Int) e15 e16 e17 e33
          obtain⟨e35,h⟩:=BF h
          have Ni:=Di AR.2.2.2.1 ((1:Int)+2*BK (fE AR.1)+AR.2.1.length+AR.2.2.1.length) e20 e35
          obtain⟨Gn,hl37,h⟩:=Ao h
          try dsimp only at h
          have UY:=DI (Cs (1:Int) AR.1) (upto ((1:Int)+2*BK (fE AR.1)) AR.2.1.length) (upto ((1:Int)+2*BK (fE AR.1)+AR.2.1.length) AR.2.2.1.length) (1:Int) hl37
          by_cases e38:Gn<0
          ·rw [if_pos e38]at h
           obtain rfl:=Option.some.inj h
           simp (maxDischargeDepth:=9) only [↓AO,AB,Ac,BP,AJ,AQ,↓reduceIte,Nat.reduceEqDiff,Nat.reduceLT,Nat.reduceAdd,Nat.reduceBEq,c5,e6,JC,Iw,e12f,NF,MC,e19,c21,e22,e23f,e24f,c26,e27,c29,e30,VZ,Ni,UY,e38]
          ·rw [if_neg e38]at h
           obtain⟨e39,h⟩:=BF h
           obtain⟨e40,h⟩:=BF h
           have Pw:=Bf (upto ((1:Int)+2*BK (fE AR.1)+AR.2.1.length+AR.2.2.1.length) AR.2.2.2.1.length) Gn e39 e40
           by_cases e42:(Du Gn (upto ((1:Int)+2*BK (fE AR.1)+AR.2.1.length+AR.2.2.1.length) AR.2.2.2.1.length))<0
           ·rw [if_pos e42]at h
            obtain rfl:=Option.some.inj h
            simp (maxDischargeDepth:=9) only [↓AO,AB,Ac,BP,AJ,AQ,↓reduceIte,Nat.reduceEqDiff,Nat.reduceLT,Nat.reduceAdd,Nat.reduceBEq,c5,e6,JC,Iw,e12f,NF,MC,e19,c21,e22,e23f,e24f,c26,e27,c29,e30,VZ,Ni,UY,e38,Pw,e42]
           ·rw [if_neg e42]at h
            by_cases e43:(Du Gn (upto ((1:Int)+2*BK (fE AR.1)+AR.2.1.length+AR.2.2.1.length) AR.2.2.2.1.length))=(((1:Int)+2*BK (fE AR.1)+AR.2.1.length+AR.2.2.1.length)+AR.2.2.2.1.length)
            ·rw [if_pos e43]at h
             have dG:=BJ A7 A9 A8 e7 e8 e9
             have c45:=Ap AR.1 AR.2.1 AR.2.2.1 q11_.1 q11_.2.1 q11_.2.2.1 e15 e16 e17
             have c46:=Bj AR.2.2.2.1 q11_.2.2.2.1 e20
             have c47:=Bf (upto ((1:Int)+2*BK (fE AR.1)+AR.2.1.length+AR.2.2.1.length) AR.2.2.2.1.length) Gn e39 e40
             obtain rfl:=Option.some.inj h
             simp (maxDischargeDepth:=9) only [↓AO,AB,Ac,BP,AJ,AQ,↓reduceIte,Nat.reduceEqDiff,Nat.reduceLT,Nat.reduceAdd,Nat.reduceBEq,c5,e6,JC,Iw,e12f,NF,MC,e19,c21,e22,e23f,e24f,c26,e27,c29,e30,VZ,Ni,UY,e38,Pw,e42,decide_eq_true e43]
            ·rw [if_neg e43]at h
             obtain rfl:=Option.some.inj h
             simp (maxDischargeDepth:=9) only [↓AO,AB,Ac,BP,AJ,AQ,↓reduceIte,Nat.reduceEqDiff,Nat.reduceLT,Nat.reduceAdd,Nat.reduceBEq,c5,e6,JC,Iw,e12f,NF,MC,e19,c21,e22,e23f,e24f,c26,e27,c29,e30,VZ,Ni,UY,e38,Pw,e42,e43]
        ·rw [if_neg e27]at h
         have e27f:(EK A7 A9 A8 A7 A9 A8)=false:=Bool.eq_false_iff.mpr e27
         obtain rfl:=Option.some.inj h
         simp (maxDischargeDepth:=9) only [↓AO,AB,Ac,BP,AJ,AQ,↓reduceIte,Nat.reduceEqDiff,Nat.reduceLT,Nat.reduceAdd,Nat.reduceBEq,c5,e6,JC,Iw,e12f,NF,MC,e19,c21,e22,e23f,e24f,c26,e27f]
     ·rw [if_neg e22]at h
      have e22f:(decide (AR.2.2.2.1=q11_.2.2.2.1))=false:=Bool.eq_false_iff.mpr e22
      obtain rfl:=Option.some.inj h
      simp (maxDischargeDepth:=9) only [↓AO,AB,Ac,BP,AJ,AQ,↓reduceIte,Nat.reduceEqDiff,Nat.reduceLT,Nat.reduceAdd,c5,e6,JC,Iw,e12f,NF,MC,e19,c21,e22f]
    ·rw [if_neg e19]at h
     have e19f:(EK AR.1 AR.2.1 AR.2.2.1 q11_.1 q11_.2.1 q11_.2.2.1)=false:=Bool.eq_false_iff.mpr e19
     obtain rfl:=Option.some.inj h
     simp (maxDischargeDepth:=9) only [↓AO,AB,Ac,BP,AJ,AQ,↓reduceIte,Nat.reduceEqDiff,Nat.reduceLT,Nat.reduceAdd,c5,e6,JC,Iw,e12f,NF,MC,e19f]
  ·dsimp only at h Iw
   have c20:=BJ A7 A9 A8 e7 e8 e9
   obtain⟨Ae,hl21,h⟩:=Ao h
   try dsimp only at h
   have c21:=Jr A7 A9 A8 Ah G6 hl21
   obtain⟨e22,h⟩:=BF h
   obtain⟨e23,h⟩:=BF h
   obtain⟨e24,h⟩:=BF h
   have UN:=Ap Ae.1 Ae.2.1 Ae.2.2.1 q11_.1 q11_.2.1 q11_.2.2.1 e22 e23 e24
   by_cases e26:(EK Ae.1 Ae.2.1 Ae.2.2.1 q11_.1 q11_.2.1 q11_.2.2.1)=true
   ·rw [if_pos e26]at h
    obtain⟨e27,h⟩:=BF h
    have Zj:=Bj Ae.2.2.2.1 q11_.2.2.2.1 e27
    by_cases e29:(decide (Ae.2.2.2.1=q11_.2.2.2.1))=true
    ·rw [if_pos e29]at h
     by_cases e30:Ae.2.2.2.2=true
     ·rw [if_pos e30]at h
      by_cases e31:q11_.2.2.2.2=true
      ·rw [if_pos e31]at h
       have c32:=BJ A7 A9 A8 e7 e8 e9
       have dE:=Ap A7 A9 A8 A7 A9 A8 e7 e8 e9
       by_cases e34:(EK A7 A9 A8 A7 A9 A8)=true
       ·rw [if_pos e34]at h
        obtain⟨e35,h⟩:=BF h
        have Ni:=BR A7 A9 A8 (1:Int) e7 e8 e9 e35
        by_cases e37:((1:Int)+2*BK (fE A7)+A9.length+A8.length)<0
        ·rw [if_pos e37]at h
         obtain rfl:=Option.some.inj h
         simp (maxDischargeDepth:=9) only [↓AO,AB,Ac,BP,AJ,AQ,↓reduceIte,Nat.reduceEqDiff,Nat.reduceLT,Nat.reduceAdd,Nat.reduceBEq,c5,e6,JC,Iw,c21,UN,e26,Zj,e29,e30,e31,dE,e34,Ni,e37]
        ·rw [if_neg e37]at h
         have c38:=Ap Ae.1 Ae.2.1 Ae.2.2.1 q11_.1 q11_.2.1 q11_.2.2.1 e22 e23 e24
         have c39:=Bj Ae.2.2.2.1 q11_.2.2.2.1 e27
         obtain⟨e40,h⟩:=BF h
         have Pw:=BR Ae.1 Ae.2.1 Ae.2.2.1 (1:Int) e22 e23 e24 e40
         obtain⟨e42,h⟩:=BF h
         have mU:=Di Ae.2.2.2.1 ((1:Int)+2*BK (fE Ae.1)+Ae.2.1.length+Ae.2.2.1.length) e27 e42
         obtain⟨Kj,hl44,h⟩:=Ao h
         try dsimp only at h
         have dG:=DI (Cs (1:Int) Ae.1) (upto ((1:Int)+2*BK (fE Ae.1)) Ae.2.1.length) (upto ((1:Int)+2*BK (fE Ae.1)+Ae.2.1.length) Ae.2.2.1.length) (1:Int) hl44
         by_cases e45:Kj<0
         ·rw [if_pos e45]at h
          obtain rfl:=Option.some.inj h
          simp (maxDischargeDepth:=9) only [↓AO,AB,Ac,BP,AJ,AQ,↓reduceIte,Nat.reduceEqDiff,Nat.reduceLT,Nat.reduceAdd,Nat.reduceBEq,c5,e6,JC,Iw,c21,UN,e26,Zj,e29,e30,e31,dE,e34,Ni,e37,Pw,mU,dG,e45]
         ·rw [if_neg e45]at h
          obtain⟨e46,h⟩:=BF h
          obtain⟨e47,h⟩:=BF h
          have rR:=Bf (upto ((1:Int)+2*BK (fE Ae.1)+Ae.2.1.length+Ae.2.2.1.length) Ae.2.2.2.1.length) Kj e46 e47
          by_cases e49:(Du Kj (upto ((1:Int)+2*BK (fE Ae.1)+Ae.2.1.length+Ae.2.2.1.length) Ae.2.2.2.1.length))<0
          ·rw [if_pos e49]at h
           obtain rfl:=Option.some.inj h
           simp (maxDischargeDepth:=9) only [↓AO,AB,Ac,BP,AJ,AQ,↓reduceIte,Nat.reduceEqDiff,Nat.reduceLT,Nat.reduceAdd,Nat.reduceBEq,c5,e6,JC,Iw,c21,UN,e26,Zj,e29,e30,e31,dE,e34,Ni,e37,Pw,mU,dG,e45,rR,e49]
          ·rw [if_neg e49]at h
           by_cases e50:(Du Kj (upto ((1:Int)+2*BK (fE Ae.1)+Ae.2.1.length+Ae.2.2.1.length) Ae.2.2.2.1.length))=(((1:Int)+2*BK (fE Ae.1)+Ae.2.1.length+Ae.2.2.1.length)+Ae.2.2.2.1.length)
           ·rw [if_pos e50]at h
            have c51:=BJ A7 A9 A8 e7 e8 e9
            have c52:=Ap Ae.1 Ae.2.1 Ae.2.2.1 q11_.1 q11_.2.1 q11_.2.2.1 e22 e23 e24
            have c53:=Bj Ae.2.2.2.1 q11_.2.2.2.1 e27
            have c54:=Bf (upto ((1:Int)+2*BK (fE Ae.1)+Ae.2.1.length+Ae.2.2.1.length) Ae.2.2.2.1.length) Kj e46 e47
            obtain rfl:=Option.some.inj h
            simp (maxDischargeDepth:=9) only [↓AO,AB,Ac,BP,AJ,AQ,↓reduceIte,Nat.reduceEqDiff,Nat.reduceLT,Nat.reduceAdd,Nat.reduceBEq,c5,e6,JC,Iw,c21,UN,e26,Zj,e29,e30,e31,dE,e34,Ni,e37,Pw,mU,dG,e45,rR,e49,decide_eq_true e50]
           ·rw [if_neg e50]at h
            obtain rfl:=Option.some.inj h
            simp (maxDischargeDepth:=9) only [↓AO,AB,Ac,BP,AJ,AQ,↓reduceIte,Nat.reduceEqDiff,Nat.reduceLT,Nat.reduceAdd,Nat.reduceBEq,c5,e6,JC,Iw,c21,UN,e26,Zj,e29,e30,e31,dE,e34,Ni,e37,Pw,mU,dG,e45,rR,e49,e50]
       ·rw [if_neg e34]at h
        have e34f:(EK A7 A9 A8 A7 A9 A8)=false:=Bool.eq_false_iff.mpr e34
        obtain rfl:=Option.some.inj h
        simp (maxDischargeDepth:=9) only [↓AO,AB,Ac,BP,AJ,AQ,↓reduceIte,Nat.reduceEqDiff,Nat.reduceLT,Nat.reduceAdd,Nat.reduceBEq,c5,e6,JC,Iw,c21,UN,e26,Zj,e29,e30,e31,dE,e34f]
      ·rw [if_neg e31]at h
       have e31f:q11_.2.2.2.2=false:=Bool.eq_false_iff.mpr e31
       obtain rfl:=Option.some.inj h
       simp (maxDischargeDepth:=9) only [↓AO,AB,Ac,BP,AJ,AQ,↓reduceIte,Nat.reduceEqDiff,Nat.reduceLT,Nat.reduceAdd,c5,e6,JC,Iw,c21,UN,e26,Zj,e29,e30,e31f]
     ·rw [if_neg e30]at h
      have e30f:Ae.2.2.2.2=false:=Bool.eq_false_iff.mpr e30
      by_cases e31:q11_.2.2.2.2=true
      ·rw [if_pos e31]at h
       obtain rfl:=Option.some.inj h
       simp (maxDischargeDepth:=9) only [↓AO,AB,Ac,BP,AJ,AQ,↓reduceIte,Nat.reduceEqDiff,Nat.reduceLT,Nat.reduceAdd,c5,e6,JC,Iw,c21,UN,e26,Zj,e29,e30f,e31]
      ·rw [if_neg e31]at h
       have e31f:q11_.2.2.2.2=false:=Bool.eq_false_iff.mpr e31
       have c32:=BJ A7 A9 A8 e7 e8 e9
       have dE:=Ap A7 A9 A8 A7 A9 A8 e7 e8 e9
       by_cases e34:(EK A7 A9 A8 A7 A9 A8)=true
       ·rw [if_pos e34]at h
        obtain⟨e35,h⟩:=BF h
        have Ni:=BR A7 A9 A8 (1:Int) e7 e8 e9 e35
        by_cases e37:((1:Int)+2*BK (fE A7)+A9.length+A8.length)<0
        ·rw [if_pos e37]at h
         obtain rfl:=Option.some.inj h
         simp (maxDischargeDepth:=9) only [↓AO,AB,Ac,BP,AJ,AQ,↓reduceIte,Nat.reduceEqDiff,Nat.reduceLT,Nat.reduceAdd,Nat.reduceBEq,c5,e6,JC,Iw,c21,UN,e26,Zj,e29,e30f,e31f,dE,e34,Ni,e37]
        ·rw [if_neg e37]at h
         have c38:=Ap Ae.1 Ae.2.1 Ae.2.2.1 q11_.1 q11_.2.1 q11_.2.2.1 e22 e23 e24
         have c39:=Bj Ae.2.2.2.1 q11_.2.2.2.1 e27
         obtain⟨e40,h⟩:=BF h
         have Pw:=BR Ae.1 Ae.2.1 Ae.2.2.1 (1:Int) e22 e23 e24 e40
         obtain⟨e42,h⟩:=BF h
         have mU:=Di Ae.2.2.2.1 ((1:Int)+2*BK (fE Ae.1)+Ae.2.1.length+Ae.2.2.1.length) e27 e42
         obtain⟨Kj,hl44,h⟩:=Ao h
         try dsimp only at h
         have dG:=DI (Cs (1:Int) Ae.1) (upto ((1:Int)+2*BK (fE Ae.1)) Ae.2.1.length) (upto ((1:Int)+2*BK (fE Ae.1)+Ae.2.1.length) Ae.2.2.1.length) (1:Int) hl44
         by_cases e45:Kj<0
         ·rw [if_pos e45]at h
          obtain rfl:=Option.some.inj h
          simp (maxDischargeDepth:=9) only [↓AO,AB,Ac,BP,AJ,AQ,↓reduceIte,Nat.reduceEqDiff,Nat.reduceLT,Nat.reduceAdd,Nat.reduceBEq,c5,e6,JC,Iw,c21,UN,e26,Zj,e29,e30f,e31f,dE,e34,Ni,e37,Pw,mU,dG,e45]
         ·rw [if_neg e45]at h
          obtain⟨e46,h⟩:=BF h
          obtain⟨e47,h⟩:=BF h
          have rR:=Bf (upto ((1:Int)+2*BK (fE Ae.1)+Ae.2.1.length+Ae.2.2.1.length) Ae.2.2.2.1.length) Kj e46 e47
          by_cases e49:(Du Kj (upto ((1:Int)+2*BK (fE Ae.1)+Ae.2.1.length+Ae.2.2.1.length) Ae.2.2.2.1.length))<0
          ·rw [if_pos e49]at h
           obtain rfl:=Option.some.inj h
           simp (maxDischargeDepth:=9) only [↓AO,AB,Ac,BP,AJ,AQ,↓reduceIte,Nat.reduceEqDiff,Nat.reduceLT,Nat.reduceAdd,Nat.reduceBEq,c5,e6,JC,Iw,c21,UN,e26,Zj,e29,e30f,e31f,dE,e34,Ni,e37,Pw,mU,dG,e45,rR,e49]
          ·rw [if_neg e49]at h
           by_cases e50:(Du Kj (upto ((1:Int)+2*BK (fE Ae.1)+Ae.2.1.length+Ae.2.2.1.length) Ae.2.2.2.1.length))=(((1:Int)+2*BK (fE Ae.1)+Ae.2.1.length+Ae.2.2.1.length)+Ae.2.2.2.1.length)
           ·rw [if_pos e50]at h
            have c51:=BJ A7 A9 A8 e7 e8 e9
            have c52:=Ap Ae.1 Ae.2.1 Ae.2.2.1 q11_.1 q11_.2.1 q11_.2.2.1 e22 e23 e24
            have c53:=Bj Ae.2.2.2.1 q11_.2.2.2.1 e27
            have c54:=Bf (upto ((1:Int)+2*BK (fE Ae.1)+Ae.2.1.length+Ae.2.2.1.length) Ae.2.2.2.1.length) Kj e46 e47
            obtain rfl:=Option.some.inj h
            simp (maxDischargeDepth:=9) only [↓AO,AB,Ac,BP,AJ,AQ,↓reduceIte,Nat.reduceEqDiff,Nat.reduceLT,Nat.reduceAdd,Nat.reduceBEq,c5,e6,JC,Iw,c21,UN,e26,Zj,e29,e30f,e31f,dE,e34,Ni,e37,Pw,mU,dG,e45,rR,e49,decide_eq_true e50]
           ·rw [if_neg e50]at h
            obtain rfl:=Option.some.inj h
            simp (maxDischargeDepth:=9) only [↓AO,AB,Ac,BP,AJ,AQ,↓reduceIte,Nat.reduceEqDiff,Nat.reduceLT,Nat.reduceAdd,Nat.reduceBEq,c5,e6,JC,Iw,c21,UN,e26,Zj,e29,e30f,e31f,dE,e34,Ni,e37,Pw,mU,dG,e45,rR,e49,e50]
       ·rw [if_neg e34]at h
        have e34f:(EK A7 A9 A8 A7 A9 A8)=false:=Bool.eq_false_iff.mpr e34
        obtain rfl:=Option.some.inj h
        simp (maxDischargeDepth:=9) only [↓AO,AB,Ac,BP,AJ,AQ,↓reduceIte,Nat.reduceEqDiff,Nat.reduceLT,Nat.reduceAdd,Nat.reduceBEq,c5,e6,JC,Iw,c21,UN,e26,Zj,e29,e30f,e31f,dE,e34f]
    ·rw [if_neg e29]at h
     have e29f:(decide (Ae.2.2.2.1=q11_.2.2.2.1))=false:=Bool.eq_false_iff.mpr e29
     obtain rfl:=Option.some.inj h
     simp (maxDischargeDepth:=9) only [↓AO,AB,Ac,BP,AJ,AQ,↓reduceIte,Nat.reduceEqDiff,Nat.reduceLT,Nat.reduceAdd,c5,e6,JC,Iw,c21,UN,e26,Zj,e29f]
   ·rw [if_neg e26]at h
    have e26f:(EK Ae.1 Ae.2.1 Ae.2.2.1 q11_.1 q11_.2.1 q11_.2.2.1)=false:=Bool.eq_false_iff.mpr e26
    obtain rfl:=Option.some.inj h
    simp (maxDischargeDepth:=9) only [↓AO,AB,Ac,BP,AJ,AQ,↓reduceIte,Nat.reduceEqDiff,Nat.reduceLT,Nat.reduceAdd,c5,e6,JC,Iw,c21,UN,e26f]
end Go.Proofs.Ytipfckompmhljaa
