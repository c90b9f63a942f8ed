/- Labelings with a pair: the law, lifted. Conditions: none. -/
import Derived.Test.YtipfckompmhljaaGreatL6
import Derived.Test.YtipfckompmhljaaGreatPlaA
import Derived.Test.YtipfckompmhljaaGreatNmk
namespace Go.Proofs.YtipfckompmhljaaGreat
open Go Dv
set_option linter.unusedSimpArgs false
set_option linter.unusedVariables false
set_option maxRecDepth 100000
set_option maxHeartbeats 4000000
noncomputable def Co(tL tD:Int)(tN AQ:List (List Int))(Al:List (List (Int×Int)))(B4 AV:List Int):Option (Bool):=
 ck (M0 tN)<|
 ck (M0 AQ)<|
 ck (0≤(1048576:Int)∧(1048576:Int)≤1048576)<|
 if(XB (1048576:Int) tN AQ)<0 then
  some true
 else
  ck (Lj Al)<|
  ck (B4.length<9223372036854775808)<|
  ck (AV.length<9223372036854775808)<|
  ck (0≤(XB (1048576:Int) tN AQ)∧(XB (1048576:Int) tN AQ)≤1048576)<|
  if(fC (XB (1048576:Int) tN AQ) Al B4 AV)<0 then
   some true
  else
   ck (Ab tN)<|
   ck (Ab AQ)<|
   ck (BH Al)<|
   ck (B4.length<1099511627776)<|
   ck (AV.length<1099511627776)<|
   (Fc tL tD tN AQ Al B4 AV).bind fun MD=>
   (Fa tL tD tN AQ Al B4 AV).bind fun Hu=>
   ck (Ab Hu.1)<|
   if(decide (Hu.1=MD.1))=true then
    if Hu.2=true then
     if MD.2=true then
      if(Kt tL tD tN AQ tL tD tN AQ)=true then
       if(L4 Al B4 AV Al B4 AV)=true then
        ck (0≤(1:Int)∧(1:Int)+Aw tN+Aw AQ<1099511627776)<|
        ck (0≤((1:Int)+Aw tN+Aw AQ)∧((1:Int)+Aw tN+Aw AQ)+2*Aw (fE Al)+B4.length+AV.length<1099511627776)<|
        if(((1:Int)+Aw tN+Aw AQ)+2*Aw (fE Al)+B4.length+AV.length)<0 then
         some false
        else
         ck (0≤(1:Int)∧(1:Int)+Aw Hu.1<1099511627776)<|
         (Gj (EZ (1:Int) Hu.1) (1:Int)).bind fun RB=>
         if RB<0 then
          some false
         else
          if RB=((1:Int)+Aw Hu.1)then
           some true
          else
           some false
       else
        some false
      else
       some false
     else
      some false
    else
     if MD.2=true then
      some false
     else
      if(Kt tL tD tN AQ tL tD tN AQ)=true then
       if(L4 Al B4 AV Al B4 AV)=true then
        ck (0≤(1:Int)∧(1:Int)+Aw tN+Aw AQ<1099511627776)<|
        ck (0≤((1:Int)+Aw tN+Aw AQ)∧((1:Int)+Aw tN+Aw AQ)+2*Aw (fE Al)+B4.length+AV.length<1099511627776)<|
        if(((1:Int)+Aw tN+Aw AQ)+2*Aw (fE Al)+B4.length+AV.length)<0 then
         some false
        else
         ck (0≤(1:Int)∧(1:Int)+Aw Hu.1<1099511627776)<|
         (Gj (EZ (1:Int) Hu.1) (1:Int)).bind fun RB=>
         if RB<0 then
          some false
         else
          if RB=((1:Int)+Aw Hu.1)then
           some true
          else
           some false
       else
        some false
      else
       some false
   else
    some false
def k3:SC:=
 .seq
 (.ops [
 ⟨some 2, .box 24 (.tmp 0),0,none⟩,
 ⟨some 3, .box 28 (.tmp 1),0,none⟩,
 ⟨some 4, .assign (.const (.bool false)),4,none⟩])
 (.seq
 (.ops [
 ⟨some 5, .assign (.const (.int .i64 1048576)),3,none⟩])
 (.seq
 (.ops [
 ⟨some 17, .load 24 (.tmp 2),24,none⟩,
 ⟨some 18, .move (.tmp 5),3,none⟩,
 ⟨some 19, .call ⟨(.value (.func 4)), #[(.tmp 17),(.tmp 18)], #[24,3]⟩,3,none⟩,
 ⟨some 5, .assign (.tmp 19),3,none⟩])
 (.seq
 (.seq
 (.ops [
 ⟨some 20, .move (.tmp 5),3,none⟩,
 ⟨some 21, .binOp .lss 3 (.tmp 20) (.const (.int .i64 0)) 3,4,none⟩])
 (.cond (.tmp 21)
 (.seq
 (.ops [
 ⟨some 4, .assign (.const (.bool true)),4,none⟩])
 .ret)
 .skip))
 (.seq
 (.ops [
 ⟨some 22, .load 28 (.tmp 3),28,none⟩,
 ⟨some 23, .move (.tmp 5),3,none⟩,
 ⟨some 24, .call ⟨(.value (.func 5)), #[(.tmp 22),(.tmp 23)], #[28,3]⟩,3,none⟩,
 ⟨some 5, .assign (.tmp 24),3,none⟩])
 (.seq
 (.seq
 (.ops [
 ⟨some 25, .move (.tmp 5),3,none⟩,
 ⟨some 26, .binOp .lss 3 (.tmp 25) (.const (.int .i64 0)) 3,4,none⟩])
 (.cond (.tmp 26)
 (.seq
 (.ops [
 ⟨some 4, .assign (.const (.bool true)),4,none⟩])
 .ret)
 .skip))
 (.seq
 (.draws [
 (⟨[28,2,2],[28,29,30,31,32,27,32,33,34,6,33,32,7,34],[28]⟩,⟨some 28, .load 24 (.tmp 2),24,none⟩),
 (⟨[29,28,2],[28,29,30,31,32,27,32,33,34,6,33,32,7,34],[29]⟩,⟨some 29, .call ⟨(.value (.func 7)), #[(.tmp 28)], #[24]⟩,33,none⟩),
 (⟨[30,3,3],[28,29,30,31,32,27,32,33,34,6,33,32,7,34],[30]⟩,⟨some 30, .load 28 (.tmp 3),28,none⟩),
 (⟨[31,30,3],[28,29,30,31,32,27,32,33,34,6,33,32,7,34],[31]⟩,⟨some 31, .call ⟨(.value (.func 8)), #[(.tmp 30)], #[28]⟩,37,none⟩),
 (⟨[32,29,31,29,31],[28,29,30,31,32,27,32,33,34,6,33,32,7,34],[32]⟩,⟨some 32, .call ⟨(.value (.func 6)), #[(.tmp 29),(.tmp 31)], #[33,37]⟩,31,none⟩),
 (⟨[27,32,32],[28,29,30,31,32,27,32,33,34,6,33,32,7,34],[27,32]⟩,⟨some 27, .move (.tmp 32),31,none⟩),
 (⟨[33,27],[28,29,30,31,32,27,32,33,34,6,33,32,7,34],[33]⟩,⟨some 33, .extract (.tmp 27) 0,22,none⟩),
 (⟨[34,27],[28,29,30,31,32,27,32,33,34,6,33,32,7,34],[34]⟩,⟨some 34, .extract (.tmp 27) 1,4,none⟩),
 (⟨[6,33,32],[28,29,30,31,32,27,32,33,34,6,33,32,7,34],[6,33,32]⟩,⟨some 6, .assign (.tmp 33),22,none⟩),
 (⟨[7,34],[28,29,30,31,32,27,32,33,34,6,33,32,7,34],[7,34]⟩,⟨some 7, .assign (.tmp 34),4,none⟩)])
 (.seq
 (.ops [
 ⟨some 35, .load 24 (.tmp 2),24,none⟩,
 ⟨some 36, .call ⟨(.value (.func 7)), #[(.tmp 35)], #[24]⟩,33,none⟩,
 ⟨some 8, .alloc 33,0,none⟩,
 ⟨none, .store 33 (.tmp 8) (.tmp 36),0,none⟩])
 (.seq
 (.ops [
 ⟨some 37, .load 28 (.tmp 3),28,none⟩,
 ⟨some 38, .call ⟨(.value (.func 8)), #[(.tmp 37)], #[28]⟩,37,none⟩,
 ⟨some 9, .alloc 37,0,none⟩,
 ⟨none, .store 37 (.tmp 9) (.tmp 38),0,none⟩])
 (.seq
 (.ops [
 ⟨some 40, .load 33 (.tmp 8),33,none⟩,
 ⟨some 41, .load 37 (.tmp 9),37,none⟩,
 ⟨some 42, .call ⟨(.value (.func 9)), #[(.tmp 40),(.tmp 41)], #[33,37]⟩,31,none⟩,
 ⟨some 39, .move (.tmp 42),31,none⟩,
 ⟨some 43, .extract (.tmp 39) 0,22,none⟩,
 ⟨some 44, .extract (.tmp 39) 1,4,none⟩,
 ⟨some 10, .assign (.tmp 43),22,none⟩,
 ⟨some 11, .assign (.tmp 44),4,none⟩])
 (.seq
 (.seq
 (.ops [
 ⟨some 45, .move (.tmp 10),22,none⟩,
 ⟨some 46, .move (.tmp 6),22,none⟩,
 ⟨some 47, .call ⟨(.value (.func 10)), #[(.tmp 45),(.tmp 46)], #[22,22]⟩,4,none⟩,
 ⟨some 48, .unOp .not 4 (.tmp 47),4,none⟩,
 ⟨some 49, .move (.tmp 48),4,none⟩,
 ⟨some 50, .move (.tmp 11),4,(some (some 49,false))⟩,
 ⟨some 51, .move (.tmp 7),4,(some (some 49,false))⟩,
 ⟨some 52, .binOp .neq 4 (.tmp 50) (.tmp 51) 4,4,(some (some 49,false))⟩,
 ⟨some 53, .pick (.tmp 49) (.const (.bool true)) (.tmp 52),4,none⟩])
 (.cond (.tmp 53)
 (.seq
 (.ops [
 ⟨some 4, .assign (.const (.bool false)),4,none⟩])
 .ret)
 .skip))
 (.seq
 (.seq
 (.draws [
 (⟨[54,8,8],[54,55,56,57,58],[54]⟩,⟨some 54, .load 33 (.tmp 8),33,none⟩),
 (⟨[55,2,2],[54,55,56,57,58],[55]⟩,⟨some 55, .load 24 (.tmp 2),24,none⟩),
 (⟨[56,55,2],[54,55,56,57,58],[56]⟩,⟨some 56, .call ⟨(.value (.func 7)), #[(.tmp 55)], #[24]⟩,33,none⟩),
 (⟨[57,54,56,8,56],[54,55,56,57,58],[57]⟩,⟨some 57, .call ⟨(.value (.func 11)), #[(.tmp 54),(.tmp 56)], #[33,33]⟩,4,none⟩),
 (⟨[58,57,57],[54,55,56,57,58],[58]⟩,⟨some 58, .unOp .not 4 (.tmp 57),4,none⟩)])
 (.cond (.tmp 58)
 (.seq
 (.ops [
 ⟨some 4, .assign (.const (.bool false)),4,none⟩])
 .ret)
 .skip))
 (.seq
 (.seq
 (.draws [
 (⟨[59,9,9],[59,60,61,62,63],[59]⟩,⟨some 59, .load 37 (.tmp 9),37,none⟩),
 (⟨[60,3,3],[59,60,61,62,63],[60]⟩,⟨some 60, .load 28 (.tmp 3),28,none⟩),
 (⟨[61,60,3],[59,60,61,62,63],[61]⟩,⟨some 61, .call ⟨(.value (.func 8)), #[(.tmp 60)], #[28]⟩,37,none⟩),
 (⟨[62,59,61,9,61],[59,60,61,62,63],[62]⟩,⟨some 62, .call ⟨(.value (.func 12)), #[(.tmp 59),(.tmp 61)], #[37,37]⟩,4,none⟩),
 (⟨[63,62,62],[59,60,61,62,63],[63]⟩,⟨some 63, .unOp .not 4 (.tmp 62),4,none⟩)])
 (.cond (.tmp 63)
 (.seq
 (.ops [
 ⟨some 4, .assign (.const (.bool false)),4,none⟩])
 .ret)
 .skip))
 (.seq
 (.ops [
 ⟨some 12, .assign (.const (.int .i64 1)),3,none⟩])
 (.seq
 (.ops [
 ⟨some 64, .load 33 (.tmp 8),33,none⟩,
 ⟨some 65, .move (.tmp 12),3,none⟩,
 ⟨some 66, .call ⟨(.value (.func 13)), #[(.tmp 64),(.tmp 65)], #[33,3]⟩,3,none⟩,
 ⟨some 12, .assign (.tmp 66),3,none⟩])
 (.seq
 (.ops [
 ⟨some 67, .load 37 (.tmp 9),37,none⟩,
 ⟨some 68, .move (.tmp 12),3,none⟩,
 ⟨some 69, .call ⟨(.value (.func 14)), #[(.tmp 67),(.tmp 68)], #[37,3]⟩,3,none⟩,
 ⟨some 12, .assign (.tmp 69),3,none⟩])
 (.seq
 (.seq
 (.ops [
 ⟨some 70, .move (.tmp 12),3,none⟩,
 ⟨some 71, .binOp .lss 3 (.tmp 70) (.const (.int .i64 0)) 3,4,none⟩,
 ⟨some 72, .move (.tmp 71),4,none⟩,
 ⟨some 73, .move (.tmp 10),22,(some (some 72,false))⟩,
 ⟨some 74, .move (.tmp 6),22,(some (some 72,false))⟩,
 ⟨some 75, .call ⟨(.value (.func 10)), #[(.tmp 73),(.tmp 74)], #[22,22]⟩,4,(some (some 72,false))⟩,
 ⟨some 76, .unOp .not 4 (.tmp 75),4,(some (some 72,false))⟩,
 ⟨some 77, .pick (.tmp 72) (.const (.bool true)) (.tmp 76),4,none⟩,
 ⟨some 78, .move (.tmp 77),4,none⟩,
 ⟨some 79, .move (.tmp 11),4,(some (some 78,false))⟩,
 ⟨some 80, .move (.tmp 7),4,(some (some 78,false))⟩,
 ⟨some 81, .binOp .neq 4 (.tmp 79) (.tmp 80) 4,4,(some (some 78,false))⟩,
 ⟨some 82, .pick (.tmp 78) (.const (.bool true)) (.tmp 81),4,none⟩])
 (.cond (.tmp 82)
 (.seq
 (.ops [
 ⟨some 4, .assign (.const (.bool false)),4,none⟩])
 .ret)
 .skip))
 (.seq
 (.ops [
 ⟨some 13, .assign (.const (.int .i64 1)),3,none⟩])
 (.seq
 (.ops [
 ⟨some 83, .move (.tmp 10),22,none⟩,
 ⟨some 84, .move (.tmp 13),3,none⟩,
 ⟨some 85, .call ⟨(.value (.func 15)), #[(.tmp 83),(.tmp 84)], #[22,3]⟩,3,none⟩,
 ⟨some 13, .assign (.tmp 85),3,none⟩])
 (.seq
 (.ops [
 ⟨some 14, .assign (.const (.int .i64 1)),3,none⟩])
 (.seq
 (.ops [
 ⟨some 86, .move (.tmp 10),22,none⟩,
 ⟨some 87, .move (.tmp 14),3,none⟩,
 ⟨some 88, .call ⟨(.value (.func 16)), #[(.tmp 86),(.tmp 87)], #[22,3]⟩,3,none⟩,
 ⟨some 14, .assign (.tmp 88),3,none⟩])
 (.seq
 (.seq
 (.ops [
 ⟨some 89, .move (.tmp 14),3,none⟩,
 ⟨some 90, .binOp .lss 3 (.tmp 89) (.const (.int .i64 0)) 3,4,none⟩])
 (.cond (.tmp 90)
 (.seq
 (.ops [
 ⟨some 4, .assign (.const (.bool false)),4,none⟩])
 .ret)
 .skip))
 (.seq
 (.seq
 (.ops [
 ⟨some 91, .move (.tmp 14),3,none⟩,
 ⟨some 92, .move (.tmp 13),3,none⟩,
 ⟨some 93, .binOp .neq 3 (.tmp 91) (.tmp 92) 3,4,none⟩])
 (.cond (.tmp 93)
 (.seq
 (.ops [
 ⟨some 4, .assign (.const (.bool false)),4,none⟩])
 .ret)
 .skip))
 (.seq
 (.draws [
 (⟨[95,2,2],[95,96,97,98,99,94,99,100,101,15,100,99,16,101],[95]⟩,⟨some 95, .load 24 (.tmp 2),24,none⟩),
 (⟨[96,95,2],[95,96,97,98,99,94,99,100,101,15,100,99,16,101],[96]⟩,⟨some 96, .call ⟨(.value (.func 7)), #[(.tmp 95)], #[24]⟩,33,none⟩),
 (⟨[97,3,3],[95,96,97,98,99,94,99,100,101,15,100,99,16,101],[97]⟩,⟨some 97, .load 28 (.tmp 3),28,none⟩),
 (⟨[98,97,3],[95,96,97,98,99,94,99,100,101,15,100,99,16,101],[98]⟩,⟨some 98, .call ⟨(.value (.func 8)), #[(.tmp 97)], #[28]⟩,37,none⟩),
 (⟨[99,96,98,96,98],[95,96,97,98,99,94,99,100,101,15,100,99,16,101],[99]⟩,⟨some 99, .call ⟨(.value (.func 9)), #[(.tmp 96),(.tmp 98)], #[33,37]⟩,31,none⟩),
 (⟨[94,99,99],[95,96,97,98,99,94,99,100,101,15,100,99,16,101],[94,99]⟩,⟨some 94, .move (.tmp 99),31,none⟩),
 (⟨[100,94],[95,96,97,98,99,94,99,100,101,15,100,99,16,101],[100]⟩,⟨some 100, .extract (.tmp 94) 0,22,none⟩),
 (⟨[101,94],[95,96,97,98,99,94,99,100,101,15,100,99,16,101],[101]⟩,⟨some 101, .extract (.tmp 94) 1,4,none⟩),
 (⟨[15,100,99],[95,96,97,98,99,94,99,100,101,15,100,99,16,101],[15,100,99]⟩,⟨some 15, .assign (.tmp 100),22,none⟩),
 (⟨[16,101],[95,96,97,98,99,94,99,100,101,15,100,99,16,101],[16,101]⟩,⟨some 16, .assign (.tmp 101),4,none⟩)])
 (.seq
 (.seq
 (.ops [
 ⟨some 102, .move (.tmp 15),22,none⟩,
 ⟨some 103, .move (.tmp 6),22,none⟩,
 ⟨some 104, .call ⟨(.value (.func 10)), #[(.tmp 102),(.tmp 103)], #[22,22]⟩,4,none⟩,
 ⟨some 105, .unOp .not 4 (.tmp 104),4,none⟩,
 ⟨some 106, .move (.tmp 105),4,none⟩,
 ⟨some 107, .move (.tmp 16),4,(some (some 106,false))⟩,
 ⟨some 108, .move (.tmp 7),4,(some (some 106,false))⟩,
 ⟨some 109, .binOp .neq 4 (.tmp 107) (.tmp 108) 4,4,(some (some 106,false))⟩,
 ⟨some 110, .pick (.tmp 106) (.const (.bool true)) (.tmp 109),4,none⟩])
 (.cond (.tmp 110)
 (.seq
 (.ops [
 ⟨some 4, .assign (.const (.bool false)),4,none⟩])
 .ret)
 .skip))
 (.seq
 (.ops [
 ⟨some 14, .assign (.const (.int .i64 1)),3,none⟩])
 (.seq
 (.ops [
 ⟨some 111, .move (.tmp 10),22,none⟩,
 ⟨some 112, .move (.tmp 14),3,none⟩,
 ⟨some 113, .call ⟨(.value (.func 16)), #[(.tmp 111),(.tmp 112)], #[22,3]⟩,3,none⟩,
 ⟨some 14, .assign (.tmp 113),3,none⟩])
 (.seq
 (.seq
 (.ops [
 ⟨some 114, .move (.tmp 14),3,none⟩,
 ⟨some 115, .binOp .lss 3 (.tmp 114) (.const (.int .i64 0)) 3,4,none⟩])
 (.cond (.tmp 115)
 (.seq
 (.ops [
 ⟨some 4, .assign (.const (.bool false)),4,none⟩])
 .ret)
 .skip))
 (.seq
 (.seq
 (.ops [
 ⟨some 116, .move (.tmp 14),3,none⟩,
 ⟨some 117, .move (.tmp 13),3,none⟩,
 ⟨some 118, .binOp .neq 3 (.tmp 116) (.tmp 117) 3,4,none⟩])
 (.cond (.tmp 118)
 (.seq
 (.ops [
 ⟨some 4, .assign (.const (.bool false)),4,none⟩])
 .ret)
 .skip))
 (.seq
 (.ops [
 ⟨some 4, .assign (.const (.bool true)),4,none⟩])
 .ret)))))))))))))))))))))))))))))
theorem xY:Tryz.f3.body.map (Am lends)=some k3:=by kernel_rfl
theorem ok3:As Tryz.f3 2=true:=by kernel_rfl
theorem c3{a l:List D}{r:D×List D}(h:Av Y.env k3 (fin AJ l.length [ResultVar.tmp 4] r) (entry a l))(ha:a.length=2):Y.call 3 a l=some r:=
 AC (Y:=Y) rfl Tryz.func3 (ha▸ok3) xY h
theorem Ie(tL tD:Int)(tN AQ:List (List Int))(Al:List (List (Int×Int)))(B4 AV:List Int){r:Bool}(h:Co tL tD tN AQ Al B4 AV=some r):Y.call 3 [D.agg [D.int .i64 tL,D.int .i64 tD,D.sl 26 (A9 (fun x=>D.sl 3 (A9 (D.int .i64) x)) tN),D.sl 26 (A9 (fun x=>D.sl 3 (A9 (D.int .i64) x)) AQ)],D.agg [D.sl 62 (A9 (fun x=>D.sl 84 (AO .i64 .i64 x)) Al),D.sl 3 (A9 (D.int .i64) B4),D.sl 3 (A9 (D.int .i64) AV)]] []=some (D.bool r,[]):=by
 refine c3 ?_ rfl
 unfold k3
 unfold Co at h
 obtain⟨e1,h⟩:=Ae h
 obtain⟨e2,h⟩:=Ae h
 obtain⟨e3,h⟩:=Ae h
 have c4:=QO tL tD tN AQ (1048576:Int) e1 e2 e3
 by_cases e5:(XB (1048576:Int) tN AQ)<0
 ·rw [if_pos e5]at h
  cases h
  simp (maxDischargeDepth:=9) only [↓A8,A1,Ap,A6,AA,↓reduceIte,Nat.reduceEqDiff,Nat.reduceLT,Nat.reduceAdd,c4,e5]
 ·rw [if_neg e5]at h
  obtain⟨e6,h⟩:=Ae h
  obtain⟨e7,h⟩:=Ae h
  obtain⟨e8,h⟩:=Ae h
  obtain⟨e9,h⟩:=Ae h
  have OR:=Qm Al B4 AV (XB (1048576:Int) tN AQ) e6 e7 e8 e9
  by_cases e11:(fC (XB (1048576:Int) tN AQ) Al B4 AV)<0
  ·rw [if_pos e11]at h
   cases h
   simp (maxDischargeDepth:=9) only [↓A8,A1,Ap,A6,AA,↓reduceIte,Nat.reduceEqDiff,Nat.reduceLT,Nat.reduceAdd,c4,e5,OR,e11]
  ·rw [if_neg e11]at h
   obtain⟨e12,h⟩:=Ae h
   obtain⟨e13,h⟩:=Ae h
   have UD:=Do tL tD tN AQ e12 e13
   obtain⟨e15,h⟩:=Ae h
   obtain⟨e16,h⟩:=Ae h
   obtain⟨e17,h⟩:=Ae h
   have Rr:=Dy Al B4 AV e15 e16 e17
   obtain⟨MD,hl19,h⟩:=AL h
   try dsimp only at h
   have Wg:=Le tL tD tN AQ Al B4 AV hl19
   have c20:=Do tL tD tN AQ e12 e13
   have c21:=Dy Al B4 AV e15 e16 e17
   obtain⟨Hu,hl22,h⟩:=AL h
   try dsimp only at h
   have X2:=Lc tL tD tN AQ Al B4 AV hl22
   obtain⟨e23,h⟩:=Ae h
   have Wv:=EF Hu.1 MD.1 e23
   by_cases e25:(decide (Hu.1=MD.1))=true
   ·rw [if_pos e25]at h
    by_cases e26:Hu.2=true
    ·rw [if_pos e26]at h
     by_cases e27:MD.2=true
     ·rw [if_pos e27]at h
      have c28:=Do tL tD tN AQ e12 e13
      have YT:=Ku tL tD tN AQ tL tD tN AQ e12 e13
      by_cases e30:(Kt tL tD tN AQ tL tD tN AQ)=true
      ·rw [if_pos e30]at h
       have c31:=Dy Al B4 AV e15 e16 e17
       have aT:=L5 Al B4 AV Al B4 AV e15 e16 e17
       by_cases e33:(L4 Al B4 AV Al B4 AV)=true
       ·rw [if_pos e33]at h
        obtain⟨e34,h⟩:=Ae h
        have dM:=JU tL tD tN AQ (1:Int) e12 e13 e34
        obtain⟨e36,h⟩:=Ae h
        have dN:=Ji Al B4 AV ((1:Int)+Aw tN+Aw AQ) e15 e16 e17 e36
        by_cases e38:(((1:Int)+Aw tN+Aw AQ)+2*Aw (fE Al)+B4.length+AV.length)<0
        ·rw [if_pos e38]at h
         cases h
         simp (maxDischargeDepth:=9) only [↓A8,A1,AE,Ap,A6,AA,↓reduceIte,Nat.reduceEqDiff,Nat.reduceLT,Nat.reduceAdd,Nat.reduceBEq,c4,e5,OR,e11,UD,Rr,Wg,X2,Wv,e25,e26,e27,YT,e30,aT,e33,dM,dN,e38]
        ·rw [if_neg e38]at h
         have c39:=EF Hu.1 MD.1 e23
         obtain⟨e40,h⟩:=Ae h
         have gL:=Gx Hu.1 (1:Int) e23 e40
         obtain⟨RB,hl42,h⟩:=AL h
         try dsimp only at h
         have gP:=JT (EZ (1:Int) Hu.1) (1:Int) hl42
         by_cases e43:RB<0
         ·rw [if_pos e43]at h
          cases h
          simp (maxDischargeDepth:=9) only [↓A8,A1,AE,Ap,A6,AA,↓reduceIte,Nat.reduceEqDiff,Nat.reduceLT,Nat.reduceAdd,Nat.reduceBEq,c4,e5,OR,e11,UD,Rr,Wg,X2,Wv,e25,e26,e27,YT,e30,aT,e33,dM,dN,e38,gL,gP,e43]
         ·rw [if_neg e43]at h
          by_cases e44:RB=((1:Int)+Aw Hu.1)
          ·rw [if_pos e44]at h
           have c45:=Do tL tD tN AQ e12 e13
           have c46:=Dy Al B4 AV e15 e16 e17
           have c47:=EF Hu.1 MD.1 e23
           cases h
           simp (maxDischargeDepth:=9) only [↓A8,A1,AE,Ap,A6,AA,↓reduceIte,Nat.reduceEqDiff,Nat.reduceLT,Nat.reduceAdd,Nat.reduceBEq,c4,e5,OR,e11,UD,Rr,Wg,X2,Wv,e25,e26,e27,YT,e30,aT,e33,dM,dN,e38,gL,gP,e43,decide_eq_true e44]
          ·rw [if_neg e44]at h
           cases h
           simp (maxDischargeDepth:=9) only [↓A8,A1,AE,Ap,A6,AA,↓reduceIte,Nat.reduceEqDiff,Nat.reduceLT,Nat.reduceAdd,Nat.reduceBEq,c4,e5,OR,e11,UD,Rr,Wg,X2,Wv,e25,e26,e27,YT,e30,aT,e33,dM,dN,e38,gL,gP,e43,e44]
       ·rw [if_neg e33]at h
        have e33f:(L4 Al B4 AV Al B4 AV)=false:=Bool.eq_false_iff.mpr e33
        cases h
        simp (maxDischargeDepth:=9) only [↓A8,A1,AE,Ap,A6,AA,↓reduceIte,Nat.reduceEqDiff,Nat.reduceLT,Nat.reduceAdd,Nat.reduceBEq,c4,e5,OR,e11,UD,Rr,Wg,X2,Wv,e25,e26,e27,YT,e30,aT,e33f]
      ·rw [if_neg e30]at h
       have e30f:(Kt tL tD tN AQ tL tD tN AQ)=false:=Bool.eq_false_iff.mpr e30
       cases h
       simp (maxDischargeDepth:=9) only [↓A8,A1,AE,Ap,A6,AA,↓reduceIte,Nat.reduceEqDiff,Nat.reduceLT,Nat.reduceAdd,Nat.reduceBEq,c4,e5,OR,e11,UD,Rr,Wg,X2,Wv,e25,e26,e27,YT,e30f]
     ·rw [if_neg e27]at h
      have e27f:MD.2=false:=Bool.eq_false_iff.mpr e27
      cases h
      simp (maxDischargeDepth:=9) only [↓A8,A1,AE,Ap,A6,AA,↓reduceIte,Nat.reduceEqDiff,Nat.reduceLT,Nat.reduceAdd,Nat.reduceBEq,c4,e5,OR,e11,UD,Rr,Wg,X2,Wv,e25,e26,e27f]
    ·rw [if_neg e26]at h
     have e26f:Hu.2=false:=Bool.eq_false_iff.mpr e26
     by_cases e27:MD.2=true
     ·rw [if_pos e27]at h
      cases h
      simp (maxDischargeDepth:=9) only [↓A8,A1,AE,Ap,A6,AA,↓reduceIte,Nat.reduceEqDiff,Nat.reduceLT,Nat.reduceAdd,Nat.reduceBEq,c4,e5,OR,e11,UD,Rr,Wg,X2,Wv,e25,e26f,e27]
     ·rw [if_neg e27]at h
      have e27f:MD.2=false:=Bool.eq_false_iff.mpr e27
      have c28:=Do tL tD tN AQ e12 e13
      have YT:=Ku tL tD tN AQ tL tD tN AQ e12 e13
      by_cases e30:(Kt tL tD tN AQ tL tD tN AQ)=true
      ·rw [if_pos e30]at h
       have c31:=Dy Al B4 AV e15 e16 e17
       have aT:=L5 Al B4 AV Al B4 AV e15 e16 e17
       by_cases e33:(L4 Al B4 AV Al B4 AV)=true
       ·rw [if_pos e33]at h
        obtain⟨e34,h⟩:=Ae h
        have dM:=JU tL tD tN AQ (1:Int) e12 e13 e34
        obtain⟨e36,h⟩:=Ae h
        have dN:=Ji Al B4 AV ((1:Int)+Aw tN+Aw AQ) e15 e16 e17 e36
        by_cases e38:(((1:Int)+Aw tN+Aw AQ)+2*Aw (fE Al)+B4.length+AV.length)<0
        ·rw [if_pos e38]at h
         cases h
         simp (maxDischargeDepth:=9) only [↓A8,A1,AE,Ap,A6,AA,↓reduceIte,Nat.reduceEqDiff,Nat.reduceLT,Nat.reduceAdd,Nat.reduceBEq,c4,e5,OR,e11,UD,Rr,Wg,X2,Wv,e25,e26f,e27f,YT,e30,aT,e33,dM,dN,e38]
        ·rw [if_neg e38]at h
         have c39:=EF Hu.1 MD.1 e23
         obtain⟨e40,h⟩:=Ae h
         have gL:=Gx Hu.1 (1:Int) e23 e40
         obtain⟨RB,hl42,h⟩:=AL h
         try dsimp only at h
         have gP:=JT (EZ (1:Int) Hu.1) (1:Int) hl42
         by_cases e43:RB<0
         ·rw [if_pos e43]at h
          cases h
          simp (maxDischargeDepth:=9) only [↓A8,A1,AE,Ap,A6,AA,↓reduceIte,Nat.reduceEqDiff,Nat.reduceLT,Nat.reduceAdd,Nat.reduceBEq,c4,e5,OR,e11,UD,Rr,Wg,X2,Wv,e25,e26f,e27f,YT,e30,aT,e33,dM,dN,e38,gL,gP,e43]
         ·rw [if_neg e43]at h
          by_cases e44:RB=((1:Int)+Aw Hu.1)
          ·rw [if_pos e44]at h
           have c45:=Do tL tD tN AQ e12 e13
           have c46:=Dy Al B4 AV e15 e16 e17
           have c47:=EF Hu.1 MD.1 e23
           cases h
           simp (maxDischargeDepth:=9) only [↓A8,A1,AE,Ap,A6,AA,↓reduceIte,Nat.reduceEqDiff,Nat.reduceLT,Nat.reduceAdd,Nat.reduceBEq,c4,e5,OR,e11,UD,Rr,Wg,X2,Wv,e25,e26f,e27f,YT,e30,aT,e33,dM,dN,e38,gL,gP,e43,decide_eq_true e44]
          ·rw [if_neg e44]at h
           cases h
           simp (maxDischargeDepth:=9) only [↓A8,A1,AE,Ap,A6,AA,↓reduceIte,Nat.reduceEqDiff,Nat.reduceLT,Nat.reduceAdd,Nat.reduceBEq,c4,e5,OR,e11,UD,Rr,Wg,X2,Wv,e25,e26f,e27f,YT,e30,aT,e33,dM,dN,e38,gL,gP,e43,e44]
       ·rw [if_neg e33]at h
        have e33f:(L4 Al B4 AV Al B4 AV)=false:=Bool.eq_false_iff.mpr e33
        cases h
        simp (maxDischargeDepth:=9) only [↓A8,A1,AE,Ap,A6,AA,↓reduceIte,Nat.reduceEqDiff,Nat.reduceLT,Nat.reduceAdd,Nat.reduceBEq,c4,e5,OR,e11,UD,Rr,Wg,X2,Wv,e25,e26f,e27f,YT,e30,aT,e33f]
      ·rw [if_neg e30]at h
       have e30f:(Kt tL tD tN AQ tL tD tN AQ)=false:=Bool.eq_false_iff.mpr e30
       cases h
       simp (maxDischargeDepth:=9) only [↓A8,A1,AE,Ap,A6,AA,↓reduceIte,Nat.reduceEqDiff,Nat.reduceLT,Nat.reduceAdd,Nat.reduceBEq,c4,e5,OR,e11,UD,Rr,Wg,X2,Wv,e25,e26f,e27f,YT,e30f]
   ·rw [if_neg e25]at h
    have e25f:(decide (Hu.1=MD.1))=false:=Bool.eq_false_iff.mpr e25
    cases h
    simp (maxDischargeDepth:=9) only [↓A8,A1,AE,Ap,A6,AA,↓reduceIte,Nat.reduceEqDiff,Nat.reduceLT,Nat.reduceAdd,Nat.reduceBEq,c4,e5,OR,e11,UD,Rr,Wg,X2,Wv,e25f]
end Go.Proofs.YtipfckompmhljaaGreat
