/- Whether classes are consistent: lifted. Conditions: none. -/
import Derived.Test.YtjjahjjhohcidaaL6
import Derived.Test.YtjjahjjhohcidaaNis
namespace Go.Proofs.Ytjjahjjhohcidaa
open Go Dv
set_option linter.unusedSimpArgs false
set_option linter.unusedVariables false
set_option maxRecDepth 100000
set_option maxHeartbeats 4000000
noncomputable def Cf(c_:Int):Option (Bool):=
 some (decide (c_<0))
def uk:SC:=
 .seq
 (.ops [
 ⟨(some 2),(.assign (.const (.bool false))),4,none⟩])
 (.seq
 (.ops [
 ⟨(some 3),(.move (.tmp 0)),3,none⟩,
 ⟨(some 4),(.binOp .lss 3 (.tmp 3) (.const (.int .i64 0)) 3),4,none⟩,
 ⟨(some 2),(.assign (.tmp 4)),4,none⟩])
 .ret)
theorem cH:Try.f89.body.map (BZ lends)=some uk:=by kernel_rfl
theorem ul:CD Try.f89 1=true:=by kernel_rfl
theorem c89{a l:List D}{r:D×List D}(h:Bw Y.env uk (Ew AE l.length [ResultVar.tmp 2] r) (entry a l))(ha:a.length=1):Y.call 89 a l=some r:=
 AN (Y:=Y) rfl Try.func89 (ha▸ul) cH h
theorem GG(c_:Int){r:Bool}(h:Cf c_=some r):Y.call 89 [D.int .i64 c_] []=some (D.bool r,[]):=by
 refine c89 ?_ rfl
 unfold uk
 unfold Cf at h
 obtain rfl:=Option.some.inj h
 simp (maxDischargeDepth:=9) only [↓A9,A5,AB,AY,A6,AA,AZ,↓reduceIte,Nat.reduceEqDiff,Nat.reduceLT,Nat.reduceLeDiff,Nat.reduceAdd,Nat.reduceMul,Nat.reduceMod,Nat.reduceDiv,Nat.reducePow,Nat.reduceSub,Nat.reduceBEq,Int.reduceLE,Int.reduceLT,Int.reduceEq,Int.reduceSub,Int.reduceAdd,Int.reduceToNat,Int.reduceNeg]<;>(repeat' apply And.intro)<;>first | rfl | exact⟨_,rfl⟩ | exact⟨_,_,rfl⟩ | simp [A8,A3]
noncomputable def BS(A1:List (List (Int×Int)))(A7:List Int)(A4:List Int)(Bt:List Int)(FU:List (Int×Int))(BD:Int)(F8:Int):Option ((Int)⊕(Unit⊕Unit)):=
 if F8<((A1.getD BD.toNat default).length:Int)then
  ck (0≤F8∧F8.toNat<(A1.getD BD.toNat default).length)<|
  ck (0≤(Bf FU (Bt.getD BD.toNat default)).1∧((Bf FU (Bt.getD BD.toNat default)).1).toNat<A1.length)<|
  ck (0≤F8∧F8.toNat<(A1.getD (((Bf FU (Bt.getD BD.toNat default)).1).toNat) default).length)<|
  if(Az (A1.getD BD.toNat default) F8.toNat)=(Az (A1.getD (((Bf FU (Bt.getD BD.toNat default)).1).toNat) default) F8.toNat)then
   ck (0≤(Ad (A1.getD BD.toNat default) F8.toNat)∧(Ad (A1.getD BD.toNat default) F8.toNat).toNat<Bt.length)<|
   ck (0≤(Ad (A1.getD (((Bf FU (Bt.getD BD.toNat default)).1).toNat) default) F8.toNat)∧(Ad (A1.getD (((Bf FU (Bt.getD BD.toNat default)).1).toNat) default) F8.toNat).toNat<Bt.length)<|
   if(Bt.getD ((Ad (A1.getD BD.toNat default) F8.toNat).toNat) default)=(Bt.getD ((Ad (A1.getD (((Bf FU (Bt.getD BD.toNat default)).1).toNat) default) F8.toNat).toNat) default)then
    some (Sum.inl (IntKind.i64.wrap (F8+1)))
   else
    some (Sum.inr (Sum.inl ()))
  else
   some (Sum.inr (Sum.inl ()))
 else
  some (Sum.inr (Sum.inr ()))
noncomputable def CM(A1:List (List (Int×Int)))(A7:List Int)(A4:List Int)(Bt:List Int)(FU:List (Int×Int))(BD:Int)(v:Int):Option (Unit⊕Unit):=Gc (fun v=>BS A1 A7 A4 Bt FU BD v) v
noncomputable def BT(A1:List (List (Int×Int)))(A7:List Int)(A4:List Int)(Bt:List Int)(FU:List (Int×Int))(BD:Int):Option (((List (Int×Int))×Int)⊕(Unit⊕Unit)):=
 if BD<(Bt.length:Int)then
  ck (0≤BD∧BD.toNat<Bt.length)<|
  if((Bf FU (Bt.getD BD.toNat default)).2)=true then
   ck (0≤(Bf FU (Bt.getD BD.toNat default)).1∧((Bf FU (Bt.getD BD.toNat default)).1).toNat<A1.length)<|
   ck (0≤BD∧BD.toNat<A1.length)<|
   if((A1.getD (((Bf FU (Bt.getD BD.toNat default)).1).toNat) default).length:Int)=((A1.getD BD.toNat default).length:Int)then
    ck (0≤(Bf FU (Bt.getD BD.toNat default)).1∧((Bf FU (Bt.getD BD.toNat default)).1).toNat<A4.length)<|
    ck (0≤BD∧BD.toNat<A4.length)<|
    if(A4.getD (((Bf FU (Bt.getD BD.toNat default)).1).toNat) default)=(A4.getD BD.toNat default)then
     (CM A1 A7 A4 Bt FU BD 0).bind fun EJ=>
     match EJ with
     | .inl q14_=>
      some (Sum.inr (Sum.inl ()))
     | .inr q14_=>
      some (Sum.inl (FU,IntKind.i64.wrap (BD+1)))
    else
     some (Sum.inr (Sum.inl ()))
   else
    some (Sum.inr (Sum.inl ()))
  else
   some (Sum.inl ((KE FU (Bt.getD BD.toNat default) BD),IntKind.i64.wrap (BD+1)))
 else
  some (Sum.inr (Sum.inr ()))
noncomputable def Bm(A1:List (List (Int×Int)))(A7:List Int)(A4:List Int)(Bt:List Int)(v:(List (Int×Int))×Int):Option (Unit⊕Unit):=Gc (fun v=>BT A1 A7 A4 Bt v.1 v.2) v
noncomputable def DQ(A1:List (List (Int×Int)))(A7:List Int)(A4:List Int)(Bt:List Int):Option (Bool):=
 if(Bt.length:Int)=(A1.length:Int)then
  (Ae Bt (fun a0=>Cf a0)).bind fun JO=>
  if JO=true then
   some false
  else
   (Bm A1 A7 A4 Bt (([]:List (Int×Int)),0)).bind fun ZB=>
   match ZB with
   | .inl q5_=>
    some false
   | .inr q5_=>
    some true
 else
  some false
def NC:SC:=
 .seq
 (.ops [
 ⟨(some 75),(.binOp .lss 3 (.tmp 74) (.tmp 73) 3),0,none⟩])
 (.seq
 (.cond (.tmp 75)
 .skip
 (.exit 2))
 (.seq
 (.block 3
 (.seq
 (.ops [
 ⟨(some 76),(.move (.tmp 74)),3,none⟩,
 ⟨(some 77),(.indexAddr 104 (.tmp 72) (.tmp 74)),0,none⟩,
 ⟨(some 78),(.load 106 (.tmp 77)),106,none⟩,
 ⟨(some 11),(.alloc 106),0,none⟩,
 ⟨(some 10),(.assign (.tmp 76)),3,none⟩,
 ⟨none,(.store 106 (.tmp 11) (.tmp 78)),0,none⟩])
 (.seq
 (.ops [
 ⟨(some 79),(.fieldAddr 31 (.tmp 2) 0),0,none⟩,
 ⟨(some 80),(.load 29 (.tmp 79)),29,none⟩,
 ⟨(some 81),(.move (.tmp 8)),3,none⟩,
 ⟨(some 82),(.indexAddr 29 (.tmp 80) (.tmp 81)),0,none⟩,
 ⟨(some 83),(.load 104 (.tmp 82)),104,none⟩,
 ⟨(some 84),(.move (.tmp 10)),3,none⟩,
 ⟨(some 85),(.indexAddr 104 (.tmp 83) (.tmp 84)),0,none⟩,
 ⟨(some 86),(.load 106 (.tmp 85)),106,none⟩,
 ⟨(some 12),(.alloc 106),0,none⟩,
 ⟨none,(.store 106 (.tmp 12) (.tmp 86)),0,none⟩])
 (.seq
 (.draws [
 (⟨[87,11,11],[87,88,89,90,91,92,93,94,95,96,97,98,99,100,101,102,103,104],[87]⟩,⟨(some 87),(.fieldAddr 106 (.tmp 11) 1),0,none⟩),
 (⟨[88,87,11],[87,88,89,90,91,92,93,94,95,96,97,98,99,100,101,102,103,104],[88]⟩,⟨(some 88),(.load 3 (.tmp 87)),3,none⟩),
 (⟨[89,12,12],[87,88,89,90,91,92,93,94,95,96,97,98,99,100,101,102,103,104],[89]⟩,⟨(some 89),(.fieldAddr 106 (.tmp 12) 1),0,none⟩),
 (⟨[90,89,12],[87,88,89,90,91,92,93,94,95,96,97,98,99,100,101,102,103,104],[90]⟩,⟨(some 90),(.load 3 (.tmp 89)),3,none⟩),
 (⟨[91,88,90,11,12],[87,88,89,90,91,92,93,94,95,96,97,98,99,100,101,102,103,104],[91]⟩,⟨(some 91),(.binOp .neq 3 (.tmp 88) (.tmp 90) 3),4,none⟩),
 (⟨[92,91,91],[87,88,89,90,91,92,93,94,95,96,97,98,99,100,101,102,103,104],[92]⟩,⟨(some 92),(.move (.tmp 91)),4,none⟩),
 (⟨[93,1,1,92],[87,88,89,90,91,92,93,94,95,96,97,98,99,100,101,102,103,104],[93]⟩,⟨(some 93),(.move (.tmp 1)),23,(some (some 92,false))⟩),
 (⟨[94,11,11,92],[87,88,89,90,91,92,93,94,95,96,97,98,99,100,101,102,103,104],[94]⟩,⟨(some 94),(.fieldAddr 106 (.tmp 11) 0),0,(some (some 92,false))⟩),
 (⟨[95,94,11,92],[87,88,89,90,91,92,93,94,95,96,97,98,99,100,101,102,103,104],[95]⟩,⟨(some 95),(.load 3 (.tmp 94)),3,(some (some 92,false))⟩),
 (⟨[96,93,95,1,11,92],[87,88,89,90,91,92,93,94,95,96,97,98,99,100,101,102,103,104],[96]⟩,⟨(some 96),(.indexAddr 23 (.tmp 93) (.tmp 95)),0,(some (some 92,false))⟩),
 (⟨[97,96,1,92],[87,88,89,90,91,92,93,94,95,96,97,98,99,100,101,102,103,104],[97]⟩,⟨(some 97),(.load 3 (.tmp 96)),3,(some (some 92,false))⟩),
 (⟨[98,1,1,92],[87,88,89,90,91,92,93,94,95,96,97,98,99,100,101,102,103,104],[98]⟩,⟨(some 98),(.move (.tmp 1)),23,(some (some 92,false))⟩),
 (⟨[99,12,12,92],[87,88,89,90,91,92,93,94,95,96,97,98,99,100,101,102,103,104],[99]⟩,⟨(some 99),(.fieldAddr 106 (.tmp 12) 0),0,(some (some 92,false))⟩),
 (⟨[100,99,12,92],[87,88,89,90,91,92,93,94,95,96,97,98,99,100,101,102,103,104],[100]⟩,⟨(some 100),(.load 3 (.tmp 99)),3,(some (some 92,false))⟩),
 (⟨[101,98,100,1,12,92],[87,88,89,90,91,92,93,94,95,96,97,98,99,100,101,102,103,104],[101]⟩,⟨(some 101),(.indexAddr 23 (.tmp 98) (.tmp 100)),0,(some (some 92,false))⟩),
 (⟨[102,101,1,92],[87,88,89,90,91,92,93,94,95,96,97,98,99,100,101,102,103,104],[102]⟩,⟨(some 102),(.load 3 (.tmp 101)),3,(some (some 92,false))⟩),
 (⟨[103,97,102,1,1,92],[87,88,89,90,91,92,93,94,95,96,97,98,99,100,101,102,103,104],[103]⟩,⟨(some 103),(.binOp .neq 3 (.tmp 97) (.tmp 102) 3),4,(some (some 92,false))⟩),
 (⟨[104,92,103,91,103],[87,88,89,90,91,92,93,94,95,96,97,98,99,100,101,102,103,104],[104]⟩,⟨(some 104),(.pick (.tmp 92) (.const (.bool true)) (.tmp 103)),4,none⟩)])
 (.cond (.tmp 104)
 (.seq
 (.ops [
 ⟨(some 4),(.assign (.const (.bool false))),4,none⟩])
 .ret)
 .skip)))))
 (.ops [
 ⟨(some 105),(.binOp .add 3 (.tmp 74) (.const (.int .i64 1)) 3),3,none⟩,
 ⟨(some 74),(.move (.tmp 105)),3,none⟩])))
def UN:SC:= .loop NC
def ND:SC:=
 .seq
 (.ops [
 ⟨(some 27),(.binOp .lss 3 (.tmp 26) (.tmp 25) 3),0,none⟩])
 (.seq
 (.cond (.tmp 27)
 .skip
 (.exit 0))
 (.seq
 (.block 1
 (.seq
 (.ops [
 ⟨(some 28),(.move (.tmp 26)),3,none⟩,
 ⟨(some 29),(.indexAddr 23 (.tmp 24) (.tmp 26)),0,none⟩,
 ⟨(some 30),(.load 3 (.tmp 29)),3,none⟩,
 ⟨(some 6),(.assign (.tmp 28)),3,none⟩,
 ⟨(some 7),(.assign (.tmp 30)),3,none⟩])
 (.seq
 (.ops [
 ⟨(some 32),(.move (.tmp 5)),111,none⟩,
 ⟨(some 33),(.move (.tmp 7)),3,none⟩,
 ⟨(some 34),(.lookup 111 (.tmp 32) (.tmp 33) true),52,none⟩,
 ⟨(some 31),(.move (.tmp 34)),52,none⟩,
 ⟨(some 35),(.extract (.tmp 31) 0),3,none⟩,
 ⟨(some 36),(.extract (.tmp 31) 1),4,none⟩,
 ⟨(some 8),(.assign (.tmp 35)),3,none⟩,
 ⟨(some 9),(.assign (.tmp 36)),4,none⟩])
 (.seq
 (.seq
 (.ops [
 ⟨(some 37),(.move (.tmp 9)),4,none⟩,
 ⟨(some 38),(.unOp .not 4 (.tmp 37)),4,none⟩])
 (.cond (.tmp 38)
 (.seq
 (.ops [
 ⟨(some 39),(.move (.tmp 5)),111,none⟩,
 ⟨(some 40),(.move (.tmp 7)),3,none⟩,
 ⟨(some 41),(.move (.tmp 6)),3,none⟩,
 ⟨none,(.mapUpdate 111 (.tmp 39) (.tmp 40) (.tmp 41)),0,none⟩])
 (.exit 1))
 .skip))
 (.seq
 (.seq
 (.draws [
 (⟨[42,2,2],[42,43,44,45,46,47,48,49,50,51,52,53,54,55,56,57,58,59,60,61,62,63,64,65,66,67],[42]⟩,⟨(some 42),(.fieldAddr 31 (.tmp 2) 0),0,none⟩),
 (⟨[43,42,2],[42,43,44,45,46,47,48,49,50,51,52,53,54,55,56,57,58,59,60,61,62,63,64,65,66,67],[43]⟩,⟨(some 43),(.load 29 (.tmp 42)),29,none⟩),
 (⟨[44,8,8],[42,43,44,45,46,47,48,49,50,51,52,53,54,55,56,57,58,59,60,61,62,63,64,65,66,67],[44]⟩,⟨(some 44),(.move (.tmp 8)),3,none⟩),
 (⟨[45,43,44,2,8],[42,43,44,45,46,47,48,49,50,51,52,53,54,55,56,57,58,59,60,61,62,63,64,65,66,67],[45]⟩,⟨(some 45),(.indexAddr 29 (.tmp 43) (.tmp 44)),0,none⟩),
 (⟨[46,45,2],[42,43,44,45,46,47,48,49,50,51,52,53,54,55,56,57,58,59,60,61,62,63,64,65,66,67],[46]⟩,⟨(some 46),(.load 104 (.tmp 45)),104,none⟩),
 (⟨[47,46,2],[42,43,44,45,46,47,48,49,50,51,52,53,54,55,56,57,58,59,60,61,62,63,64,65,66,67],[47]⟩,⟨(some 47),(.call ⟨(.builtin .len), #[(.tmp 46)], #[104]⟩),3,none⟩),
 (⟨[48,2,2],[42,43,44,45,46,47,48,49,50,51,52,53,54,55,56,57,58,59,60,61,62,63,64,65,66,67],[48]⟩,⟨(some 48),(.fieldAddr 31 (.tmp 2) 0),0,none⟩),
 (⟨[49,48,2],[42,43,44,45,46,47,48,49,50,51,52,53,54,55,56,57,58,59,60,61,62,63,64,65,66,67],[49]⟩,⟨(some 49),(.load 29 (.tmp 48)),29,none⟩),
 (⟨[50,6,6],[42,43,44,45,46,47,48,49,50,51,52,53,54,55,56,57,58,59,60,61,62,63,64,65,66,67],[50]⟩,⟨(some 50),(.move (.tmp 6)),3,none⟩),
 (⟨[51,49,50,2,6],[42,43,44,45,46,47,48,49,50,51,52,53,54,55,56,57,58,59,60,61,62,63,64,65,66,67],[51]⟩,⟨(some 51),(.indexAddr 29 (.tmp 49) (.tmp 50)),0,none⟩),
 (⟨[52,51,2],[42,43,44,45,46,47,48,49,50,51,52,53,54,55,56,57,58,59,60,61,62,63,64,65,66,67],[52]⟩,⟨(some 52),(.load 104 (.tmp 51)),104,none⟩),
 (⟨[53,52,2],[42,43,44,45,46,47,48,49,50,51,52,53,54,55,56,57,58,59,60,61,62,63,64,65,66,67],[53]⟩,⟨(some 53),(.call ⟨(.builtin .len), #[(.tmp 52)], #[104]⟩),3,none⟩),
 (⟨[54,47,53,47,53],[42,43,44,45,46,47,48,49,50,51,52,53,54,55,56,57,58,59,60,61,62,63,64,65,66,67],[54]⟩,⟨(some 54),(.binOp .neq 3 (.tmp 47) (.tmp 53) 3),4,none⟩),
 (⟨[55,54,54],[42,43,44,45,46,47,48,49,50,51,52,53,54,55,56,57,58,59,60,61,62,63,64,65,66,67],[55]⟩,⟨(some 55),(.move (.tmp 54)),4,none⟩),
 (⟨[56,2,2,55],[42,43,44,45,46,47,48,49,50,51,52,53,54,55,56,57,58,59,60,61,62,63,64,65,66,67],[56]⟩,⟨(some 56),(.fieldAddr 31 (.tmp 2) 2),0,(some (some 55,false))⟩),
 (⟨[57,56,2,55],[42,43,44,45,46,47,48,49,50,51,52,53,54,55,56,57,58,59,60,61,62,63,64,65,66,67],[57]⟩,⟨(some 57),(.load 23 (.tmp 56)),23,(some (some 55,false))⟩),
 (⟨[58,8,8,55],[42,43,44,45,46,47,48,49,50,51,52,53,54,55,56,57,58,59,60,61,62,63,64,65,66,67],[58]⟩,⟨(some 58),(.move (.tmp 8)),3,(some (some 55,false))⟩),
 (⟨[59,57,58,2,8,55],[42,43,44,45,46,47,48,49,50,51,52,53,54,55,56,57,58,59,60,61,62,63,64,65,66,67],[59]⟩,⟨(some 59),(.indexAddr 23 (.tmp 57) (.tmp 58)),0,(some (some 55,false))⟩),
 (⟨[60,59,2,55],[42,43,44,45,46,47,48,49,50,51,52,53,54,55,56,57,58,59,60,61,62,63,64,65,66,67],[60]⟩,⟨(some 60),(.load 3 (.tmp 59)),3,(some (some 55,false))⟩),
 (⟨[61,2,2,55],[42,43,44,45,46,47,48,49,50,51,52,53,54,55,56,57,58,59,60,61,62,63,64,65,66,67],[61]⟩,⟨(some 61),(.fieldAddr 31 (.tmp 2) 2),0,(some (some 55,false))⟩),
 (⟨[62,61,2,55],[42,43,44,45,46,47,48,49,50,51,52,53,54,55,56,57,58,59,60,61,62,63,64,65,66,67],[62]⟩,⟨(some 62),(.load 23 (.tmp 61)),23,(some (some 55,false))⟩),
 (⟨[63,6,6,55],[42,43,44,45,46,47,48,49,50,51,52,53,54,55,56,57,58,59,60,61,62,63,64,65,66,67],[63]⟩,⟨(some 63),(.move (.tmp 6)),3,(some (some 55,false))⟩),
 (⟨[64,62,63,2,6,55],[42,43,44,45,46,47,48,49,50,51,52,53,54,55,56,57,58,59,60,61,62,63,64,65,66,67],[64]⟩,⟨(some 64),(.indexAddr 23 (.tmp 62) (.tmp 63)),0,(some (some 55,false))⟩),
 (⟨[65,64,2,55],[42,43,44,45,46,47,48,49,50,51,52,53,54,55,56,57,58,59,60,61,62,63,64,65,66,67],[65]⟩,⟨(some 65),(.load 3 (.tmp 64)),3,(some (some 55,false))⟩),
 (⟨[66,60,65,2,2,55],[42,43,44,45,46,47,48,49,50,51,52,53,54,55,56,57,58,59,60,61,62,63,64,65,66,67],[66]⟩,⟨(some 66),(.binOp .neq 3 (.tmp 60) (.tmp 65) 3),4,(some (some 55,false))⟩),
 (⟨[67,55,66,54,66],[42,43,44,45,46,47,48,49,50,51,52,53,54,55,56,57,58,59,60,61,62,63,64,65,66,67],[67]⟩,⟨(some 67),(.pick (.tmp 55) (.const (.bool true)) (.tmp 66)),4,none⟩)])
 (.cond (.tmp 67)
 (.seq
 (.ops [
 ⟨(some 4),(.assign (.const (.bool false))),4,none⟩])
 .ret)
 .skip))
 (.seq
 (.ops [
 ⟨(some 68),(.fieldAddr 31 (.tmp 2) 0),0,none⟩,
 ⟨(some 69),(.load 29 (.tmp 68)),29,none⟩,
 ⟨(some 70),(.move (.tmp 6)),3,none⟩,
 ⟨(some 71),(.indexAddr 29 (.tmp 69) (.tmp 70)),0,none⟩,
 ⟨(some 72),(.load 104 (.tmp 71)),104,none⟩,
 ⟨(some 73),(.call ⟨(.builtin .len), #[(.tmp 72)], #[104]⟩),3,none⟩,
 ⟨(some 74),(.move (.const (.int .i64 0))),3,none⟩])
 (.block 2
 UN)))))))
 (.ops [
 ⟨(some 106),(.binOp .add 3 (.tmp 26) (.const (.int .i64 1)) 3),3,none⟩,
 ⟨(some 26),(.move (.tmp 106)),3,none⟩])))
def UO:SC:= .loop ND
def um:SC:=
 .seq
 (.ops [
 ⟨(some 2),(.box 31 (.tmp 0)),0,none⟩,
 ⟨(some 4),(.assign (.const (.bool false))),4,none⟩])
 (.seq
 (.seq
 (.ops [
 ⟨(some 13),(.move (.tmp 1)),23,none⟩,
 ⟨(some 14),(.call ⟨(.builtin .len), #[(.tmp 13)], #[23]⟩),3,none⟩,
 ⟨(some 15),(.fieldAddr 31 (.tmp 2) 0),0,none⟩,
 ⟨(some 16),(.load 29 (.tmp 15)),29,none⟩,
 ⟨(some 17),(.call ⟨(.builtin .len), #[(.tmp 16)], #[29]⟩),3,none⟩,
 ⟨(some 18),(.binOp .neq 3 (.tmp 14) (.tmp 17) 3),4,none⟩,
 ⟨(some 19),(.move (.tmp 18)),4,none⟩,
 ⟨(some 20),(.move (.tmp 1)),23,(some (some 19,false))⟩,
 ⟨(some 21),(.call ⟨(.value (.func 88)), #[(.tmp 20),(.func 89)], #[23,73]⟩),4,(some (some 19,false))⟩,
 ⟨(some 22),(.pick (.tmp 19) (.const (.bool true)) (.tmp 21)),4,none⟩])
 (.cond (.tmp 22)
 (.seq
 (.ops [
 ⟨(some 4),(.assign (.const (.bool false))),4,none⟩])
 .ret)
 .skip))
 (.seq
 (.ops [
 ⟨(some 23),(.makeMap 111 none),111,none⟩,
 ⟨(some 5),(.assign (.tmp 23)),111,none⟩])
 (.seq
 (.seq
 (.ops [
 ⟨(some 24),(.move (.tmp 1)),23,none⟩,
 ⟨(some 25),(.call ⟨(.builtin .len), #[(.tmp 24)], #[23]⟩),3,none⟩,
 ⟨(some 26),(.move (.const (.int .i64 0))),3,none⟩])
 (.block 0
 UO))
 (.seq
 (.ops [
 ⟨(some 4),(.assign (.const (.bool true))),4,none⟩])
 .ret))))
theorem cI:Try.f47.body.map (BZ lends)=some um:=by kernel_rfl
theorem un:CD Try.f47 2=true:=by kernel_rfl
theorem c47{a l:List D}{r:D×List D}(h:Bw Y.env um (Ew AE l.length [ResultVar.tmp 4] r) (entry a l))(ha:a.length=2):Y.call 47 a l=some r:=
 AN (Y:=Y) rfl Try.func47 (ha▸un) cI h
def As(A1:List (List (Int×Int)))(A7:List Int)(A4:List Int)(Bt:List Int)(FU:List (Int×Int))(BD:Int)(F8:Int)(s:St):Prop:=s.v 1=D.sl 3 (A8 (D.int .i64) Bt)∧s.v 2=D.box [D.sl 104 (A8 (fun x=>D.sl 106 (AT .i64 .i64 x)) A1),D.sl 3 (A8 (D.int .i64) A7),D.sl 3 (A8 (D.int .i64) A4)]∧s.v 5=D.mp 3 3 (KF FU)∧s.v 8=D.int .i64 ((Bf FU (Bt.getD BD.toNat default)).1)∧s.v 24=D.sl 3 (A8 (D.int .i64) Bt)∧s.v 25=D.int .i64 (Bt.length:Int)∧s.v 26=D.int .i64 BD∧s.v 72=D.sl 106 (AT .i64 .i64 (A1.getD BD.toNat default))∧s.v 73=D.int .i64 ((A1.getD BD.toNat default).length:Int)∧s.v 74=D.int .i64 F8
def At(A1:List (List (Int×Int)))(A7:List Int)(A4:List Int)(Bt:List Int)(FU:List (Int×Int))(BD:Int)(r:Unit⊕Unit)(ex:Ex)(s:St):Prop:=match r with
 | .inl q=>ex= .ret∧s.v 4=D.bool false
 | .inr q=>ex= .exit 2∧s.v 1=D.sl 3 (A8 (D.int .i64) Bt)∧s.v 2=D.box [D.sl 104 (A8 (fun x=>D.sl 106 (AT .i64 .i64 x)) A1),D.sl 3 (A8 (D.int .i64) A7),D.sl 3 (A8 (D.int .i64) A4)]∧s.v 5=D.mp 3 3 (KF FU)∧s.v 24=D.sl 3 (A8 (D.int .i64) Bt)∧s.v 25=D.int .i64 (Bt.length:Int)∧s.v 26=D.int .i64 BD
theorem Gj(A1:List (List (Int×Int)))(A7:List Int)(A4:List Int)(Bt:List Int)(FU:List (Int×Int))(BD:Int){v:Int}{s:St}{r:Unit⊕Unit}(h:CM A1 A7 A4 Bt FU BD v=some r)(hM:As A1 A7 A4 Bt FU BD v s):Bw Y.env UN (At A1 A7 A4 Bt FU BD r) s:=by
 unfold CM at h
 refine CO (c:=NC) (fun v=>BS A1 A7 A4 Bt FU BD v) (fun v s=>As A1 A7 A4 Bt FU BD v s) (At A1 A7 A4 Bt FU BD) ?_ h hM
 clear h hM s v r
 intro F8 s o hM h
 unfold BS at h
 unfold As at hM
 obtain⟨m0,m1,m2,m3,m4,m5,m6,m7,m8,m9⟩:=hM
 unfold NC
 by_cases e13:F8<((A1.getD BD.toNat default).length:Int)
 ·rw [if_pos e13]at h
  obtain⟨e14,h⟩:=C7 h
  obtain⟨e15,h⟩:=C7 h
  obtain⟨e16,h⟩:=C7 h
  by_cases e17:(Az (A1.getD BD.toNat default) F8.toNat)=(Az (A1.getD (((Bf FU (Bt.getD BD.toNat default)).1).toNat) default) F8.toNat)
  ·rw [if_pos e17]at h
   obtain⟨e18,h⟩:=C7 h
   obtain⟨e19,h⟩:=C7 h
   by_cases e20:(Bt.getD ((Ad (A1.getD BD.toNat default) F8.toNat).toNat) default)=(Bt.getD ((Ad (A1.getD (((Bf FU (Bt.getD BD.toNat default)).1).toNat) default) F8.toNat).toNat) default)
   ·rw [if_pos e20]at h
    obtain rfl:=Option.some.inj h
    simp (maxDischargeDepth:=9) only [↓A9,A5,AB,AY,A6,AA,AZ,↓reduceIte,Nat.reduceEqDiff,Nat.reduceLT,Nat.reduceLeDiff,Nat.reduceAdd,Nat.reduceMul,Nat.reduceMod,Nat.reduceDiv,Nat.reducePow,Nat.reduceSub,Nat.reduceBEq,Int.reduceLE,Int.reduceLT,Int.reduceEq,Int.reduceSub,Int.reduceAdd,Int.reduceToNat,Int.reduceNeg,m0,m1,m2,m3,m4,m5,m6,m7,m8,m9,e13,e14.1,e14.2,e15.1,e15.2,e16.1,e16.2,decide_eq_true e17,e18.1,e18.2,e19.1,e19.2,decide_eq_true e20,As,At,D6,D7,D8]<;>(repeat' apply And.intro)<;>first | rfl | exact⟨_,rfl⟩ | exact⟨_,_,rfl⟩ | simp [A8,A3]
   ·rw [if_neg e20]at h
    obtain rfl:=Option.some.inj h
    simp (maxDischargeDepth:=9) only [↓A9,A5,AB,AY,A6,AA,AZ,↓reduceIte,Nat.reduceEqDiff,Nat.reduceLT,Nat.reduceLeDiff,Nat.reduceAdd,Nat.reduceMul,Nat.reduceMod,Nat.reduceDiv,Nat.reducePow,Nat.reduceSub,Nat.reduceBEq,Int.reduceLE,Int.reduceLT,Int.reduceEq,Int.reduceSub,Int.reduceAdd,Int.reduceToNat,Int.reduceNeg,m0,m1,m2,m3,m4,m5,m6,m7,m8,m9,e13,e14.1,e14.2,e15.1,e15.2,e16.1,e16.2,decide_eq_true e17,e18.1,e18.2,e19.1,e19.2,e20,As,At,D6,D7,D8]<;>(repeat' apply And.intro)<;>first | rfl | exact⟨_,rfl⟩ | exact⟨_,_,rfl⟩ | simp [A8,A3]
  ·rw [if_neg e17]at h
   obtain rfl:=Option.some.inj h
   simp (maxDischargeDepth:=9) only [↓A9,A5,AB,AY,A6,AA,AZ,↓reduceIte,Nat.reduceEqDiff,Nat.reduceLT,Nat.reduceLeDiff,Nat.reduceAdd,Nat.reduceMul,Nat.reduceMod,Nat.reduceDiv,Nat.reducePow,Nat.reduceSub,Nat.reduceBEq,Int.reduceLE,Int.reduceLT,Int.reduceEq,Int.reduceSub,Int.reduceAdd,Int.reduceToNat,Int.reduceNeg,m0,m1,m2,m3,m4,m5,m6,m7,m8,m9,e13,e14.1,e14.2,e15.1,e15.2,e16.1,e16.2,e17,As,At,D6,D7,D8]<;>(repeat' apply And.intro)<;>first | rfl | exact⟨_,rfl⟩ | exact⟨_,_,rfl⟩ | simp [A8,A3]
 ·rw [if_neg e13]at h
  obtain rfl:=Option.some.inj h
  simp (maxDischargeDepth:=9) only [↓A9,A5,AB,AY,A6,AA,AZ,↓reduceIte,Nat.reduceEqDiff,Nat.reduceLT,Nat.reduceLeDiff,Nat.reduceAdd,Nat.reduceMul,Nat.reduceMod,Nat.reduceDiv,Nat.reducePow,Nat.reduceSub,Nat.reduceBEq,Int.reduceLE,Int.reduceLT,Int.reduceEq,Int.reduceSub,Int.reduceAdd,Int.reduceToNat,Int.reduceNeg,m0,m1,m2,m3,m4,m5,m6,m7,m8,m9,e13,As,At,D6,D7,D8]<;>(repeat' apply And.intro)<;>first | rfl | exact⟨_,rfl⟩ | exact⟨_,_,rfl⟩ | simp [A8,A3]
def Ag(A1:List (List (Int×Int)))(A7:List Int)(A4:List Int)(Bt:List Int)(FU:List (Int×Int))(BD:Int)(s:St):Prop:=s.v 1=D.sl 3 (A8 (D.int .i64) Bt)∧s.v 2=D.box [D.sl 104 (A8 (fun x=>D.sl 106 (AT .i64 .i64 x)) A1),D.sl 3 (A8 (D.int .i64) A7),D.sl 3 (A8 (D.int .i64) A4)]∧s.v 5=D.mp 3 3 (KF FU)∧s.v 24=D.sl 3 (A8 (D.int .i64) Bt)∧s.v 25=D.int .i64 (Bt.length:Int)∧s.v 26=D.int .i64 BD
def Ah(A1:List (List (Int×Int)))(A7:List Int)(A4:List Int)(Bt:List Int)(r:Unit⊕Unit)(ex:Ex)(s:St):Prop:=match r with
 | .inl q=>ex= .ret∧s.v 4=D.bool false
 | .inr q=>ex= .exit 0
theorem Gk(A1:List (List (Int×Int)))(A7:List Int)(A4:List Int)(Bt:List Int){v:(List (Int×Int))×Int}{s:St}{r:Unit⊕Unit}(h:Bm A1 A7 A4 Bt v=some r)(hM:Ag A1 A7 A4 Bt v.1 v.2 s):Bw Y.env UO (Ah A1 A7 A4 Bt r) s:=by
 unfold Bm at h
 refine CO (c:=ND) (fun v=>BT A1 A7 A4 Bt v.1 v.2) (fun v s=>Ag A1 A7 A4 Bt v.1 v.2 s) (Ah A1 A7 A4 Bt) ?_ h hM
 clear h hM s v r
 intro v s o hM h
 obtain⟨FU,BD⟩:=v
 dsimp only at h hM
 unfold BT at h
 unfold Ag at hM
 obtain⟨m0,m1,m2,m3,m4,m5⟩:=hM
 unfold ND
 by_cases e4:BD<(Bt.length:Int)
 ·rw [if_pos e4]at h
  obtain⟨e5,h⟩:=C7 h
  by_cases e6:((Bf FU (Bt.getD BD.toNat default)).2)=true
  ·rw [if_pos e6]at h
   obtain⟨e7,h⟩:=C7 h
   obtain⟨e8,h⟩:=C7 h
   by_cases e9:((A1.getD (((Bf FU (Bt.getD BD.toNat default)).1).toNat) default).length:Int)=((A1.getD BD.toNat default).length:Int)
   ·rw [if_pos e9]at h
    obtain⟨e10,h⟩:=C7 h
    obtain⟨e11,h⟩:=C7 h
    by_cases e12:(A4.getD (((Bf FU (Bt.getD BD.toNat default)).1).toNat) default)=(A4.getD BD.toNat default)
    ·rw [if_pos e12]at h
     obtain⟨EJ,hl14,h⟩:=Bg h
     try dsimp only at h
     simp (maxDischargeDepth:=9) only [↓A9,A5,AB,AY,A6,AA,AZ,↓reduceIte,Nat.reduceEqDiff,Nat.reduceLT,Nat.reduceLeDiff,Nat.reduceAdd,Nat.reduceMul,Nat.reduceMod,Nat.reduceDiv,Nat.reducePow,Nat.reduceSub,Nat.reduceBEq,Int.reduceLE,Int.reduceLT,Int.reduceEq,Int.reduceSub,Int.reduceAdd,Int.reduceToNat,Int.reduceNeg,m0,m1,m2,m3,m4,m5,e4,e5.1,e5.2,e6,e7.1,e7.2,e8.1,e8.2,decide_eq_true e9,e10.1,e10.2,e11.1,e11.2,decide_eq_true e12]
     refine Ba (Gj A1 A7 A4 Bt FU BD hl14 ?_) ?_
     ·simp (maxDischargeDepth:=9) only [↓A9,A5,AB,AY,A6,AA,AZ,↓reduceIte,Nat.reduceEqDiff,Nat.reduceLT,Nat.reduceLeDiff,Nat.reduceAdd,Nat.reduceMul,Nat.reduceMod,Nat.reduceDiv,Nat.reducePow,Nat.reduceSub,Nat.reduceBEq,Int.reduceLE,Int.reduceLT,Int.reduceEq,Int.reduceSub,Int.reduceAdd,Int.reduceToNat,Int.reduceNeg,m0,m1,m2,m3,m4,m5,e4,e5.1,e5.2,e6,e7.1,e7.2,e8.1,e8.2,decide_eq_true e9,e10.1,e10.2,e11.1,e11.2,decide_eq_true e12,As]<;>(repeat' apply And.intro)<;>first | rfl | exact⟨_,rfl⟩ | exact⟨_,_,rfl⟩ | simp [A8,A3]
     ·intro ex14 s14 hX14
      rcases EJ with q14_ | q14_
      ·unfold At at hX14
       dsimp only at hX14 h
       obtain⟨rfl,n14_0⟩:=hX14
       obtain rfl:=Option.some.inj h
       simp (maxDischargeDepth:=9) only [↓A9,A5,AB,AY,A6,AA,AZ,↓reduceIte,Nat.reduceEqDiff,Nat.reduceLT,Nat.reduceLeDiff,Nat.reduceAdd,Nat.reduceMul,Nat.reduceMod,Nat.reduceDiv,Nat.reducePow,Nat.reduceSub,Nat.reduceBEq,Int.reduceLE,Int.reduceLT,Int.reduceEq,Int.reduceSub,Int.reduceAdd,Int.reduceToNat,Int.reduceNeg,e4,e5.1,e5.2,e6,e7.1,e7.2,e8.1,e8.2,decide_eq_true e9,e10.1,e10.2,e11.1,e11.2,decide_eq_true e12,n14_0,Ag,Ah,D6,D7,D8]<;>(repeat' apply And.intro)<;>first | rfl | exact⟨_,rfl⟩ | exact⟨_,_,rfl⟩ | simp [A8,A3]
      ·unfold At at hX14
       dsimp only at hX14 h
       obtain⟨rfl,n14_0,n14_1,n14_2,n14_3,n14_4,n14_5⟩:=hX14
       obtain rfl:=Option.some.inj h
       simp (maxDischargeDepth:=9) only [↓A9,A5,AB,AY,A6,AA,AZ,↓reduceIte,Nat.reduceEqDiff,Nat.reduceLT,Nat.reduceLeDiff,Nat.reduceAdd,Nat.reduceMul,Nat.reduceMod,Nat.reduceDiv,Nat.reducePow,Nat.reduceSub,Nat.reduceBEq,Int.reduceLE,Int.reduceLT,Int.reduceEq,Int.reduceSub,Int.reduceAdd,Int.reduceToNat,Int.reduceNeg,e4,e5.1,e5.2,e6,e7.1,e7.2,e8.1,e8.2,decide_eq_true e9,e10.1,e10.2,e11.1,e11.2,decide_eq_true e12,n14_0,n14_1,n14_2,n14_3,n14_4,n14_5,Ag,Ah,D6,D7,D8]<;>(repeat' apply And.intro)<;>first | rfl | exact⟨_,rfl⟩ | exact⟨_,_,rfl⟩ | simp [A8,A3]
    ·rw [if_neg e12]at h
     obtain rfl:=Option.some.inj h
     simp (maxDischargeDepth:=9) only [↓A9,A5,AB,AY,A6,AA,AZ,↓reduceIte,Nat.reduceEqDiff,Nat.reduceLT,Nat.reduceLeDiff,Nat.reduceAdd,Nat.reduceMul,Nat.reduceMod,Nat.reduceDiv,Nat.reducePow,Nat.reduceSub,Nat.reduceBEq,Int.reduceLE,Int.reduceLT,Int.reduceEq,Int.reduceSub,Int.reduceAdd,Int.reduceToNat,Int.reduceNeg,m0,m1,m2,m3,m4,m5,e4,e5.1,e5.2,e6,e7.1,e7.2,e8.1,e8.2,decide_eq_true e9,e10.1,e10.2,e11.1,e11.2,e12,Ag,Ah,D6,D7,D8]<;>(repeat' apply And.intro)<;>first | rfl | exact⟨_,rfl⟩ | exact⟨_,_,rfl⟩ | simp [A8,A3]
   ·rw [if_neg e9]at h
    obtain rfl:=Option.some.inj h
    simp (maxDischargeDepth:=9) only [↓A9,A5,AB,AY,A6,AA,AZ,↓reduceIte,Nat.reduceEqDiff,Nat.reduceLT,Nat.reduceLeDiff,Nat.reduceAdd,Nat.reduceMul,Nat.reduceMod,Nat.reduceDiv,Nat.reducePow,Nat.reduceSub,Nat.reduceBEq,Int.reduceLE,Int.reduceLT,Int.reduceEq,Int.reduceSub,Int.reduceAdd,Int.reduceToNat,Int.reduceNeg,m0,m1,m2,m3,m4,m5,e4,e5.1,e5.2,e6,e7.1,e7.2,e8.1,e8.2,e9,Ag,Ah,D6,D7,D8]<;>(repeat' apply And.intro)<;>first | rfl | exact⟨_,rfl⟩ | exact⟨_,_,rfl⟩ | simp [A8,A3]
  ·rw [if_neg e6]at h
   have e6f:((Bf FU (Bt.getD BD.toNat default)).2)=false:=Bool.eq_false_iff.mpr e6
   obtain rfl:=Option.some.inj h
   simp (maxDischargeDepth:=9) only [↓A9,A5,AB,AY,A6,AA,AZ,↓reduceIte,Nat.reduceEqDiff,Nat.reduceLT,Nat.reduceLeDiff,Nat.reduceAdd,Nat.reduceMul,Nat.reduceMod,Nat.reduceDiv,Nat.reducePow,Nat.reduceSub,Nat.reduceBEq,Int.reduceLE,Int.reduceLT,Int.reduceEq,Int.reduceSub,Int.reduceAdd,Int.reduceToNat,Int.reduceNeg,m0,m1,m2,m3,m4,m5,e4,e5.1,e5.2,e6f,Ag,Ah,D6,D7,D8]<;>(repeat' apply And.intro)<;>first | rfl | exact⟨_,rfl⟩ | exact⟨_,_,rfl⟩ | simp [A8,A3]
 ·rw [if_neg e4]at h
  obtain rfl:=Option.some.inj h
  simp (maxDischargeDepth:=9) only [↓A9,A5,AB,AY,A6,AA,AZ,↓reduceIte,Nat.reduceEqDiff,Nat.reduceLT,Nat.reduceLeDiff,Nat.reduceAdd,Nat.reduceMul,Nat.reduceMod,Nat.reduceDiv,Nat.reducePow,Nat.reduceSub,Nat.reduceBEq,Int.reduceLE,Int.reduceLT,Int.reduceEq,Int.reduceSub,Int.reduceAdd,Int.reduceToNat,Int.reduceNeg,m0,m1,m2,m3,m4,m5,e4,Ag,Ah,D6,D7,D8]<;>(repeat' apply And.intro)<;>first | rfl | exact⟨_,rfl⟩ | exact⟨_,_,rfl⟩ | simp [A8,A3]
theorem H1(A1:List (List (Int×Int)))(A7:List Int)(A4:List Int)(Bt:List Int){r:Bool}(h:DQ A1 A7 A4 Bt=some r):Y.call 47 [D.agg [D.sl 104 (A8 (fun x=>D.sl 106 (AT .i64 .i64 x)) A1),D.sl 3 (A8 (D.int .i64) A7),D.sl 3 (A8 (D.int .i64) A4)],D.sl 3 (A8 (D.int .i64) Bt)] []=some (D.bool r,[]):=by
 refine c47 ?_ rfl
 unfold um
 unfold DQ at h
 by_cases e1:(Bt.length:Int)=(A1.length:Int)
 ·rw [if_pos e1]at h
  obtain⟨JO,hl2,h⟩:=Bg h
  try dsimp only at h
  have c2:=Bz Bt (fun a0=>Cf a0) 89 [] (fun a0 _ hh=>GG a0 hh) bY hl2
  by_cases e3:JO=true
  ·rw [if_pos e3]at h
   obtain rfl:=Option.some.inj h
   simp (maxDischargeDepth:=9) only [↓A9,A5,AB,AY,A6,AA,AZ,↓reduceIte,Nat.reduceEqDiff,Nat.reduceLT,Nat.reduceLeDiff,Nat.reduceAdd,Nat.reduceMul,Nat.reduceMod,Nat.reduceDiv,Nat.reducePow,Nat.reduceSub,Nat.reduceBEq,Int.reduceLE,Int.reduceLT,Int.reduceEq,Int.reduceSub,Int.reduceAdd,Int.reduceToNat,Int.reduceNeg,decide_eq_true e1,c2,e3]<;>(repeat' apply And.intro)<;>first | rfl | exact⟨_,rfl⟩ | exact⟨_,_,rfl⟩ | simp [A8,A3]
  ·rw [if_neg e3]at h
   have e3f:JO=false:=Bool.eq_false_iff.mpr e3
   obtain⟨ZB,hl5,h⟩:=Bg h
   try dsimp only at h
   simp (maxDischargeDepth:=9) only [↓A9,A5,AB,AY,A6,AA,AZ,↓reduceIte,Nat.reduceEqDiff,Nat.reduceLT,Nat.reduceLeDiff,Nat.reduceAdd,Nat.reduceMul,Nat.reduceMod,Nat.reduceDiv,Nat.reducePow,Nat.reduceSub,Nat.reduceBEq,Int.reduceLE,Int.reduceLT,Int.reduceEq,Int.reduceSub,Int.reduceAdd,Int.reduceToNat,Int.reduceNeg,decide_eq_true e1,c2,e3f]
   refine Ba (Gk A1 A7 A4 Bt hl5 ?_) ?_
   ·simp (maxDischargeDepth:=9) only [↓A9,A5,AB,AY,A6,AA,AZ,↓reduceIte,Nat.reduceEqDiff,Nat.reduceLT,Nat.reduceLeDiff,Nat.reduceAdd,Nat.reduceMul,Nat.reduceMod,Nat.reduceDiv,Nat.reducePow,Nat.reduceSub,Nat.reduceBEq,Int.reduceLE,Int.reduceLT,Int.reduceEq,Int.reduceSub,Int.reduceAdd,Int.reduceToNat,Int.reduceNeg,decide_eq_true e1,c2,e3f,Ag]<;>(repeat' apply And.intro)<;>first | rfl | exact⟨_,rfl⟩ | exact⟨_,_,rfl⟩ | simp [A8,A3]
   ·intro ex5 s5 hX5
    rcases ZB with q5_ | q5_
    ·unfold Ah at hX5
     dsimp only at hX5 h
     obtain⟨rfl,n5_0⟩:=hX5
     obtain rfl:=Option.some.inj h
     simp (maxDischargeDepth:=9) only [↓A9,A5,AB,AY,A6,AA,AZ,↓reduceIte,Nat.reduceEqDiff,Nat.reduceLT,Nat.reduceLeDiff,Nat.reduceAdd,Nat.reduceMul,Nat.reduceMod,Nat.reduceDiv,Nat.reducePow,Nat.reduceSub,Nat.reduceBEq,Int.reduceLE,Int.reduceLT,Int.reduceEq,Int.reduceSub,Int.reduceAdd,Int.reduceToNat,Int.reduceNeg,decide_eq_true e1,c2,e3f,n5_0]<;>(repeat' apply And.intro)<;>first | rfl | exact⟨_,rfl⟩ | exact⟨_,_,rfl⟩ | simp [A8,A3]
    ·unfold Ah at hX5
     dsimp only at hX5 h
     obtain rfl:=hX5
     obtain rfl:=Option.some.inj h
     simp (maxDischargeDepth:=9) only [↓A9,A5,AB,AY,A6,AA,AZ,↓reduceIte,Nat.reduceEqDiff,Nat.reduceLT,Nat.reduceLeDiff,Nat.reduceAdd,Nat.reduceMul,Nat.reduceMod,Nat.reduceDiv,Nat.reducePow,Nat.reduceSub,Nat.reduceBEq,Int.reduceLE,Int.reduceLT,Int.reduceEq,Int.reduceSub,Int.reduceAdd,Int.reduceToNat,Int.reduceNeg,decide_eq_true e1,c2,e3f]<;>(repeat' apply And.intro)<;>first | rfl | exact⟨_,rfl⟩ | exact⟨_,_,rfl⟩ | simp [A8,A3]
 ·rw [if_neg e1]at h
  obtain rfl:=Option.some.inj h
  simp (maxDischargeDepth:=9) only [↓A9,A5,AB,AY,A6,AA,AZ,↓reduceIte,Nat.reduceEqDiff,Nat.reduceLT,Nat.reduceLeDiff,Nat.reduceAdd,Nat.reduceMul,Nat.reduceMod,Nat.reduceDiv,Nat.reducePow,Nat.reduceSub,Nat.reduceBEq,Int.reduceLE,Int.reduceLT,Int.reduceEq,Int.reduceSub,Int.reduceAdd,Int.reduceToNat,Int.reduceNeg,e1]<;>(repeat' apply And.intro)<;>first | rfl | exact⟨_,rfl⟩ | exact⟨_,_,rfl⟩ | simp [A8,A3]
noncomputable def DR(AK:List (List (Int×Int)))(Ab:List Int)(AF:List Int)(class_:List Int):Option (Bool×Bool):=
 ck (BP AK)<|
 ck (Ab.length<1099511627776)<|
 ck (AF.length<1099511627776)<|
 if(De AK Ab AF)=true then
  (DQ AK Ab AF class_).bind fun Uc=>
  some (Uc,true)
 else
  some (false,false)
def uo:SC:=
 .seq
 (.ops [
 ⟨(some 2),(.box 31 (.tmp 0)),0,none⟩,
 ⟨(some 4),(.assign (.const (.bool false))),4,none⟩,
 ⟨(some 5),(.assign (.const (.bool false))),4,none⟩])
 (.seq
 (.seq
 (.ops [
 ⟨(some 6),(.load 31 (.tmp 2)),31,none⟩,
 ⟨(some 7),(.call ⟨(.value (.func 46)), #[(.tmp 6)], #[31]⟩),4,none⟩,
 ⟨(some 8),(.unOp .not 4 (.tmp 7)),4,none⟩])
 (.cond (.tmp 8)
 (.seq
 (.ops [
 ⟨(some 4),(.assign (.const (.bool false))),4,none⟩,
 ⟨(some 5),(.assign (.const (.bool false))),4,none⟩])
 .ret)
 .skip))
 (.seq
 (.ops [
 ⟨(some 9),(.load 31 (.tmp 2)),31,none⟩,
 ⟨(some 10),(.move (.tmp 1)),23,none⟩,
 ⟨(some 11),(.call ⟨(.value (.func 47)), #[(.tmp 9),(.tmp 10)], #[31,23]⟩),4,none⟩,
 ⟨(some 4),(.assign (.tmp 11)),4,none⟩,
 ⟨(some 5),(.assign (.const (.bool true))),4,none⟩])
 .ret))
theorem cJ:Try.f14.body.map (BZ lends)=some uo:=by kernel_rfl
theorem uq:CD Try.f14 2=true:=by kernel_rfl
theorem P2{a l:List D}{r:D×List D}(h:Bw Y.env uo (Ew AE l.length [ResultVar.tmp 4,ResultVar.tmp 5] r) (entry a l))(ha:a.length=2):Y.call 14 a l=some r:=
 AN (Y:=Y) rfl Try.func14 (ha▸uq) cJ h
theorem H2(AK:List (List (Int×Int)))(Ab:List Int)(AF:List Int)(class_:List Int){r:Bool×Bool}(h:DR AK Ab AF class_=some r):Y.call 14 [D.agg [D.sl 104 (A8 (fun x=>D.sl 106 (AT .i64 .i64 x)) AK),D.sl 3 (A8 (D.int .i64) Ab),D.sl 3 (A8 (D.int .i64) AF)],D.sl 3 (A8 (D.int .i64) class_)] []=some (D.tup [D.bool r.1,D.bool r.2],[]):=by
 refine P2 ?_ rfl
 unfold uo
 unfold DR at h
 obtain⟨e1,h⟩:=C7 h
 obtain⟨e2,h⟩:=C7 h
 obtain⟨e3,h⟩:=C7 h
 have c4:=Kl AK Ab AF e1 e2 e3
 by_cases e5:(De AK Ab AF)=true
 ·rw [if_pos e5]at h
  obtain⟨Uc,hl6,h⟩:=Bg h
  try dsimp only at h
  have c6:=H1 AK Ab AF class_ hl6
  obtain rfl:=Option.some.inj h
  simp (maxDischargeDepth:=9) only [↓A9,A5,AB,AY,A6,AA,AZ,↓reduceIte,Nat.reduceEqDiff,Nat.reduceLT,Nat.reduceLeDiff,Nat.reduceAdd,Nat.reduceMul,Nat.reduceMod,Nat.reduceDiv,Nat.reducePow,Nat.reduceSub,Nat.reduceBEq,Int.reduceLE,Int.reduceLT,Int.reduceEq,Int.reduceSub,Int.reduceAdd,Int.reduceToNat,Int.reduceNeg,e1,e2,e3,c4,e5,c6]<;>(repeat' apply And.intro)<;>first | rfl | exact⟨_,rfl⟩ | exact⟨_,_,rfl⟩ | simp [A8,A3]
 ·rw [if_neg e5]at h
  have e5f:(De AK Ab AF)=false:=Bool.eq_false_iff.mpr e5
  obtain rfl:=Option.some.inj h
  simp (maxDischargeDepth:=9) only [↓A9,A5,AB,AY,A6,AA,AZ,↓reduceIte,Nat.reduceEqDiff,Nat.reduceLT,Nat.reduceLeDiff,Nat.reduceAdd,Nat.reduceMul,Nat.reduceMod,Nat.reduceDiv,Nat.reducePow,Nat.reduceSub,Nat.reduceBEq,Int.reduceLE,Int.reduceLT,Int.reduceEq,Int.reduceSub,Int.reduceAdd,Int.reduceToNat,Int.reduceNeg,e1,e2,e3,c4,e5f]<;>(repeat' apply And.intro)<;>first | rfl | exact⟨_,rfl⟩ | exact⟨_,_,rfl⟩ | simp [A8,A3]
noncomputable def Cg(A1:List (List (Int×Int)))(A7:List Int)(A4:List Int)(Bt:List Int)(GI:Int)(Gl:Int)(F9:Int):Option ((Int)⊕(Unit⊕Unit)):=
 if F9<((A1.getD GI.toNat default).length:Int)then
  ck (0≤F9∧F9.toNat<(A1.getD GI.toNat default).length)<|
  ck (0≤Gl∧Gl.toNat<A1.length)<|
  ck (0≤F9∧F9.toNat<(A1.getD Gl.toNat default).length)<|
  if(Az (A1.getD GI.toNat default) F9.toNat)=(Az (A1.getD Gl.toNat default) F9.toNat)then
   ck (0≤(Ad (A1.getD GI.toNat default) F9.toNat)∧(Ad (A1.getD GI.toNat default) F9.toNat).toNat<Bt.length)<|
   ck (0≤(Ad (A1.getD Gl.toNat default) F9.toNat)∧(Ad (A1.getD Gl.toNat default) F9.toNat).toNat<Bt.length)<|
   if(Bt.getD ((Ad (A1.getD GI.toNat default) F9.toNat).toNat) default)=(Bt.getD ((Ad (A1.getD Gl.toNat default) F9.toNat).toNat) default)then
    some (Sum.inl (IntKind.i64.wrap (F9+1)))
   else
    some (Sum.inr (Sum.inl ()))
  else
   some (Sum.inr (Sum.inl ()))
 else
  some (Sum.inr (Sum.inr ()))
noncomputable def Eg(A1:List (List (Int×Int)))(A7:List Int)(A4:List Int)(Bt:List Int)(GI:Int)(Gl:Int)(v:Int):Option (Unit⊕Unit):=Gc (fun v=>Cg A1 A7 A4 Bt GI Gl v) v
noncomputable def Fm(A1:List (List (Int×Int)))(A7:List Int)(A4:List Int)(Bt:List Int)(GI:Int)(Gl:Int):Option (Bool):=
 ck (0≤GI∧GI.toNat<A1.length)<|
 ck (0≤Gl∧Gl.toNat<A1.length)<|
 if((A1.getD GI.toNat default).length:Int)=((A1.getD Gl.toNat default).length:Int)then
  ck (0≤GI∧GI.toNat<A4.length)<|
  ck (0≤Gl∧Gl.toNat<A4.length)<|
  if(A4.getD GI.toNat default)=(A4.getD Gl.toNat default)then
   (Eg A1 A7 A4 Bt GI Gl 0).bind fun cK=>
   match cK with
   | .inl q8_=>
    some false
   | .inr q8_=>
    some true
  else
   some false
 else
  some false
def NE:SC:=
 .seq
 (.ops [
 ⟨(some 45),(.binOp .lss 3 (.tmp 44) (.tmp 43) 3),0,none⟩])
 (.seq
 (.cond (.tmp 45)
 .skip
 (.exit 0))
 (.seq
 (.block 1
 (.seq
 (.ops [
 ⟨(some 46),(.move (.tmp 44)),3,none⟩,
 ⟨(some 47),(.indexAddr 104 (.tmp 42) (.tmp 44)),0,none⟩,
 ⟨(some 48),(.load 106 (.tmp 47)),106,none⟩,
 ⟨(some 10),(.alloc 106),0,none⟩,
 ⟨(some 9),(.assign (.tmp 46)),3,none⟩,
 ⟨none,(.store 106 (.tmp 10) (.tmp 48)),0,none⟩])
 (.seq
 (.ops [
 ⟨(some 49),(.fieldAddr 31 (.tmp 4) 0),0,none⟩,
 ⟨(some 50),(.load 29 (.tmp 49)),29,none⟩,
 ⟨(some 51),(.move (.tmp 3)),3,none⟩,
 ⟨(some 52),(.indexAddr 29 (.tmp 50) (.tmp 51)),0,none⟩,
 ⟨(some 53),(.load 104 (.tmp 52)),104,none⟩,
 ⟨(some 54),(.move (.tmp 9)),3,none⟩,
 ⟨(some 55),(.indexAddr 104 (.tmp 53) (.tmp 54)),0,none⟩,
 ⟨(some 56),(.load 106 (.tmp 55)),106,none⟩,
 ⟨(some 11),(.alloc 106),0,none⟩,
 ⟨none,(.store 106 (.tmp 11) (.tmp 56)),0,none⟩])
 (.seq
 (.draws [
 (⟨[57,10,10],[57,58,59,60,61,62,63,64,65,66,67,68,69,70,71,72,73,74],[57]⟩,⟨(some 57),(.fieldAddr 106 (.tmp 10) 1),0,none⟩),
 (⟨[58,57,10],[57,58,59,60,61,62,63,64,65,66,67,68,69,70,71,72,73,74],[58]⟩,⟨(some 58),(.load 3 (.tmp 57)),3,none⟩),
 (⟨[59,11,11],[57,58,59,60,61,62,63,64,65,66,67,68,69,70,71,72,73,74],[59]⟩,⟨(some 59),(.fieldAddr 106 (.tmp 11) 1),0,none⟩),
 (⟨[60,59,11],[57,58,59,60,61,62,63,64,65,66,67,68,69,70,71,72,73,74],[60]⟩,⟨(some 60),(.load 3 (.tmp 59)),3,none⟩),
 (⟨[61,58,60,10,11],[57,58,59,60,61,62,63,64,65,66,67,68,69,70,71,72,73,74],[61]⟩,⟨(some 61),(.binOp .neq 3 (.tmp 58) (.tmp 60) 3),4,none⟩),
 (⟨[62,61,61],[57,58,59,60,61,62,63,64,65,66,67,68,69,70,71,72,73,74],[62]⟩,⟨(some 62),(.move (.tmp 61)),4,none⟩),
 (⟨[63,1,1,62],[57,58,59,60,61,62,63,64,65,66,67,68,69,70,71,72,73,74],[63]⟩,⟨(some 63),(.move (.tmp 1)),23,(some (some 62,false))⟩),
 (⟨[64,10,10,62],[57,58,59,60,61,62,63,64,65,66,67,68,69,70,71,72,73,74],[64]⟩,⟨(some 64),(.fieldAddr 106 (.tmp 10) 0),0,(some (some 62,false))⟩),
 (⟨[65,64,10,62],[57,58,59,60,61,62,63,64,65,66,67,68,69,70,71,72,73,74],[65]⟩,⟨(some 65),(.load 3 (.tmp 64)),3,(some (some 62,false))⟩),
 (⟨[66,63,65,1,10,62],[57,58,59,60,61,62,63,64,65,66,67,68,69,70,71,72,73,74],[66]⟩,⟨(some 66),(.indexAddr 23 (.tmp 63) (.tmp 65)),0,(some (some 62,false))⟩),
 (⟨[67,66,1,62],[57,58,59,60,61,62,63,64,65,66,67,68,69,70,71,72,73,74],[67]⟩,⟨(some 67),(.load 3 (.tmp 66)),3,(some (some 62,false))⟩),
 (⟨[68,1,1,62],[57,58,59,60,61,62,63,64,65,66,67,68,69,70,71,72,73,74],[68]⟩,⟨(some 68),(.move (.tmp 1)),23,(some (some 62,false))⟩),
 (⟨[69,11,11,62],[57,58,59,60,61,62,63,64,65,66,67,68,69,70,71,72,73,74],[69]⟩,⟨(some 69),(.fieldAddr 106 (.tmp 11) 0),0,(some (some 62,false))⟩),
 (⟨[70,69,11,62],[57,58,59,60,61,62,63,64,65,66,67,68,69,70,71,72,73,74],[70]⟩,⟨(some 70),(.load 3 (.tmp 69)),3,(some (some 62,false))⟩),
 (⟨[71,68,70,1,11,62],[57,58,59,60,61,62,63,64,65,66,67,68,69,70,71,72,73,74],[71]⟩,⟨(some 71),(.indexAddr 23 (.tmp 68) (.tmp 70)),0,(some (some 62,false))⟩),
 (⟨[72,71,1,62],[57,58,59,60,61,62,63,64,65,66,67,68,69,70,71,72,73,74],[72]⟩,⟨(some 72),(.load 3 (.tmp 71)),3,(some (some 62,false))⟩),
 (⟨[73,67,72,1,1,62],[57,58,59,60,61,62,63,64,65,66,67,68,69,70,71,72,73,74],[73]⟩,⟨(some 73),(.binOp .neq 3 (.tmp 67) (.tmp 72) 3),4,(some (some 62,false))⟩),
 (⟨[74,62,73,61,73],[57,58,59,60,61,62,63,64,65,66,67,68,69,70,71,72,73,74],[74]⟩,⟨(some 74),(.pick (.tmp 62) (.const (.bool true)) (.tmp 73)),4,none⟩)])
 (.cond (.tmp 74)
 (.seq
 (.ops [
 ⟨(some 8),(.assign (.const (.bool false))),4,none⟩])
 .ret)
 .skip)))))
 (.ops [
 ⟨(some 75),(.binOp .add 3 (.tmp 44) (.const (.int .i64 1)) 3),3,none⟩,
 ⟨(some 44),(.move (.tmp 75)),3,none⟩])))
def UP:SC:= .loop NE
def ur:SC:=
 .seq
 (.ops [
 ⟨(some 4),(.box 31 (.tmp 0)),0,none⟩,
 ⟨(some 8),(.assign (.const (.bool false))),4,none⟩])
 (.seq
 (.seq
 (.draws [
 (⟨[12,4,4],[12,13,14,15,16,17,18,19,20,21,22,23,24,25,26,27,28,29,30,31,32,33,34,35,36,37],[12]⟩,⟨(some 12),(.fieldAddr 31 (.tmp 4) 0),0,none⟩),
 (⟨[13,12,4],[12,13,14,15,16,17,18,19,20,21,22,23,24,25,26,27,28,29,30,31,32,33,34,35,36,37],[13]⟩,⟨(some 13),(.load 29 (.tmp 12)),29,none⟩),
 (⟨[14,2,2],[12,13,14,15,16,17,18,19,20,21,22,23,24,25,26,27,28,29,30,31,32,33,34,35,36,37],[14]⟩,⟨(some 14),(.move (.tmp 2)),3,none⟩),
 (⟨[15,13,14,4,2],[12,13,14,15,16,17,18,19,20,21,22,23,24,25,26,27,28,29,30,31,32,33,34,35,36,37],[15]⟩,⟨(some 15),(.indexAddr 29 (.tmp 13) (.tmp 14)),0,none⟩),
 (⟨[16,15,4],[12,13,14,15,16,17,18,19,20,21,22,23,24,25,26,27,28,29,30,31,32,33,34,35,36,37],[16]⟩,⟨(some 16),(.load 104 (.tmp 15)),104,none⟩),
 (⟨[17,16,4],[12,13,14,15,16,17,18,19,20,21,22,23,24,25,26,27,28,29,30,31,32,33,34,35,36,37],[17]⟩,⟨(some 17),(.call ⟨(.builtin .len), #[(.tmp 16)], #[104]⟩),3,none⟩),
 (⟨[18,4,4],[12,13,14,15,16,17,18,19,20,21,22,23,24,25,26,27,28,29,30,31,32,33,34,35,36,37],[18]⟩,⟨(some 18),(.fieldAddr 31 (.tmp 4) 0),0,none⟩),
 (⟨[19,18,4],[12,13,14,15,16,17,18,19,20,21,22,23,24,25,26,27,28,29,30,31,32,33,34,35,36,37],[19]⟩,⟨(some 19),(.load 29 (.tmp 18)),29,none⟩),
 (⟨[20,3,3],[12,13,14,15,16,17,18,19,20,21,22,23,24,25,26,27,28,29,30,31,32,33,34,35,36,37],[20]⟩,⟨(some 20),(.move (.tmp 3)),3,none⟩),
 (⟨[21,19,20,4,3],[12,13,14,15,16,17,18,19,20,21,22,23,24,25,26,27,28,29,30,31,32,33,34,35,36,37],[21]⟩,⟨(some 21),(.indexAddr 29 (.tmp 19) (.tmp 20)),0,none⟩),
 (⟨[22,21,4],[12,13,14,15,16,17,18,19,20,21,22,23,24,25,26,27,28,29,30,31,32,33,34,35,36,37],[22]⟩,⟨(some 22),(.load 104 (.tmp 21)),104,none⟩),
 (⟨[23,22,4],[12,13,14,15,16,17,18,19,20,21,22,23,24,25,26,27,28,29,30,31,32,33,34,35,36,37],[23]⟩,⟨(some 23),(.call ⟨(.builtin .len), #[(.tmp 22)], #[104]⟩),3,none⟩),
 (⟨[24,17,23,17,23],[12,13,14,15,16,17,18,19,20,21,22,23,24,25,26,27,28,29,30,31,32,33,34,35,36,37],[24]⟩,⟨(some 24),(.binOp .neq 3 (.tmp 17) (.tmp 23) 3),4,none⟩),
 (⟨[25,24,24],[12,13,14,15,16,17,18,19,20,21,22,23,24,25,26,27,28,29,30,31,32,33,34,35,36,37],[25]⟩,⟨(some 25),(.move (.tmp 24)),4,none⟩),
 (⟨[26,4,4,25],[12,13,14,15,16,17,18,19,20,21,22,23,24,25,26,27,28,29,30,31,32,33,34,35,36,37],[26]⟩,⟨(some 26),(.fieldAddr 31 (.tmp 4) 2),0,(some (some 25,false))⟩),
 (⟨[27,26,4,25],[12,13,14,15,16,17,18,19,20,21,22,23,24,25,26,27,28,29,30,31,32,33,34,35,36,37],[27]⟩,⟨(some 27),(.load 23 (.tmp 26)),23,(some (some 25,false))⟩),
 (⟨[28,2,2,25],[12,13,14,15,16,17,18,19,20,21,22,23,24,25,26,27,28,29,30,31,32,33,34,35,36,37],[28]⟩,⟨(some 28),(.move (.tmp 2)),3,(some (some 25,false))⟩),
 (⟨[29,27,28,4,2,25],[12,13,14,15,16,17,18,19,20,21,22,23,24,25,26,27,28,29,30,31,32,33,34,35,36,37],[29]⟩,⟨(some 29),(.indexAddr 23 (.tmp 27) (.tmp 28)),0,(some (some 25,false))⟩),
 (⟨[30,29,4,25],[12,13,14,15,16,17,18,19,20,21,22,23,24,25,26,27,28,29,30,31,32,33,34,35,36,37],[30]⟩,⟨(some 30),(.load 3 (.tmp 29)),3,(some (some 25,false))⟩),
 (⟨[31,4,4,25],[12,13,14,15,16,17,18,19,20,21,22,23,24,25,26,27,28,29,30,31,32,33,34,35,36,37],[31]⟩,⟨(some 31),(.fieldAddr 31 (.tmp 4) 2),0,(some (some 25,false))⟩),
 (⟨[32,31,4,25],[12,13,14,15,16,17,18,19,20,21,22,23,24,25,26,27,28,29,30,31,32,33,34,35,36,37],[32]⟩,⟨(some 32),(.load 23 (.tmp 31)),23,(some (some 25,false))⟩),
 (⟨[33,3,3,25],[12,13,14,15,16,17,18,19,20,21,22,23,24,25,26,27,28,29,30,31,32,33,34,35,36,37],[33]⟩,⟨(some 33),(.move (.tmp 3)),3,(some (some 25,false))⟩),
 (⟨[34,32,33,4,3,25],[12,13,14,15,16,17,18,19,20,21,22,23,24,25,26,27,28,29,30,31,32,33,34,35,36,37],[34]⟩,⟨(some 34),(.indexAddr 23 (.tmp 32) (.tmp 33)),0,(some (some 25,false))⟩),
 (⟨[35,34,4,25],[12,13,14,15,16,17,18,19,20,21,22,23,24,25,26,27,28,29,30,31,32,33,34,35,36,37],[35]⟩,⟨(some 35),(.load 3 (.tmp 34)),3,(some (some 25,false))⟩),
 (⟨[36,30,35,4,4,25],[12,13,14,15,16,17,18,19,20,21,22,23,24,25,26,27,28,29,30,31,32,33,34,35,36,37],[36]⟩,⟨(some 36),(.binOp .neq 3 (.tmp 30) (.tmp 35) 3),4,(some (some 25,false))⟩),
 (⟨[37,25,36,24,36],[12,13,14,15,16,17,18,19,20,21,22,23,24,25,26,27,28,29,30,31,32,33,34,35,36,37],[37]⟩,⟨(some 37),(.pick (.tmp 25) (.const (.bool true)) (.tmp 36)),4,none⟩)])
 (.cond (.tmp 37)
 (.seq
 (.ops [
 ⟨(some 8),(.assign (.const (.bool false))),4,none⟩])
 .ret)
 .skip))
 (.seq
 (.seq
 (.ops [
 ⟨(some 38),(.fieldAddr 31 (.tmp 4) 0),0,none⟩,
 ⟨(some 39),(.load 29 (.tmp 38)),29,none⟩,
 ⟨(some 40),(.move (.tmp 2)),3,none⟩,
 ⟨(some 41),(.indexAddr 29 (.tmp 39) (.tmp 40)),0,none⟩,
 ⟨(some 42),(.load 104 (.tmp 41)),104,none⟩,
 ⟨(some 43),(.call ⟨(.builtin .len), #[(.tmp 42)], #[104]⟩),3,none⟩,
 ⟨(some 44),(.move (.const (.int .i64 0))),3,none⟩])
 (.block 0
 UP))
 (.seq
 (.ops [
 ⟨(some 8),(.assign (.const (.bool true))),4,none⟩])
 .ret)))
theorem cL:Try.f82.body.map (BZ lends)=some ur:=by kernel_rfl
theorem ut:CD Try.f82 4=true:=by kernel_rfl
theorem c82{a l:List D}{r:D×List D}(h:Bw Y.env ur (Ew AE l.length [ResultVar.tmp 8] r) (entry a l))(ha:a.length=4):Y.call 82 a l=some r:=
 AN (Y:=Y) rfl Try.func82 (ha▸ut) cL h
def Bh(A1:List (List (Int×Int)))(A7:List Int)(A4:List Int)(Bt:List Int)(GI:Int)(Gl:Int)(F9:Int)(s:St):Prop:=s.v 1=D.sl 3 (A8 (D.int .i64) Bt)∧s.v 3=D.int .i64 Gl∧s.v 4=D.box [D.sl 104 (A8 (fun x=>D.sl 106 (AT .i64 .i64 x)) A1),D.sl 3 (A8 (D.int .i64) A7),D.sl 3 (A8 (D.int .i64) A4)]∧s.v 42=D.sl 106 (AT .i64 .i64 (A1.getD GI.toNat default))∧s.v 43=D.int .i64 ((A1.getD GI.toNat default).length:Int)∧s.v 44=D.int .i64 F9
def Bi(A1:List (List (Int×Int)))(A7:List Int)(A4:List Int)(Bt:List Int)(GI:Int)(Gl:Int)(r:Unit⊕Unit)(ex:Ex)(s:St):Prop:=match r with
 | .inl q=>ex= .ret∧s.v 8=D.bool false
 | .inr q=>ex= .exit 0
theorem JG(A1:List (List (Int×Int)))(A7:List Int)(A4:List Int)(Bt:List Int)(GI:Int)(Gl:Int){v:Int}{s:St}{r:Unit⊕Unit}(h:Eg A1 A7 A4 Bt GI Gl v=some r)(hM:Bh A1 A7 A4 Bt GI Gl v s):Bw Y.env UP (Bi A1 A7 A4 Bt GI Gl r) s:=by
 unfold Eg at h
 refine CO (c:=NE) (fun v=>Cg A1 A7 A4 Bt GI Gl v) (fun v s=>Bh A1 A7 A4 Bt GI Gl v s) (Bi A1 A7 A4 Bt GI Gl) ?_ h hM
 clear h hM s v r
 intro F9 s o hM h
 unfold Cg at h
 unfold Bh at hM
 obtain⟨m0,m1,m2,m3,m4,m5⟩:=hM
 unfold NE
 by_cases e7:F9<((A1.getD GI.toNat default).length:Int)
 ·rw [if_pos e7]at h
  obtain⟨e8,h⟩:=C7 h
  obtain⟨e9,h⟩:=C7 h
  obtain⟨e10,h⟩:=C7 h
  by_cases e11:(Az (A1.getD GI.toNat default) F9.toNat)=(Az (A1.getD Gl.toNat default) F9.toNat)
  ·rw [if_pos e11]at h
   obtain⟨e12,h⟩:=C7 h
   obtain⟨e13,h⟩:=C7 h
   by_cases e14:(Bt.getD ((Ad (A1.getD GI.toNat default) F9.toNat).toNat) default)=(Bt.getD ((Ad (A1.getD Gl.toNat default) F9.toNat).toNat) default)
   ·rw [if_pos e14]at h
    obtain rfl:=Option.some.inj h
    simp (maxDischargeDepth:=9) only [↓A9,A5,AB,AY,A6,AA,AZ,↓reduceIte,Nat.reduceEqDiff,Nat.reduceLT,Nat.reduceLeDiff,Nat.reduceAdd,Nat.reduceMul,Nat.reduceMod,Nat.reduceDiv,Nat.reducePow,Nat.reduceSub,Nat.reduceBEq,Int.reduceLE,Int.reduceLT,Int.reduceEq,Int.reduceSub,Int.reduceAdd,Int.reduceToNat,Int.reduceNeg,m0,m1,m2,m3,m4,m5,e7,e8.1,e8.2,e9.1,e9.2,e10.1,e10.2,decide_eq_true e11,e12.1,e12.2,e13.1,e13.2,decide_eq_true e14,Bh,Bi,D6,D7,D8]<;>(repeat' apply And.intro)<;>first | rfl | exact⟨_,rfl⟩ | exact⟨_,_,rfl⟩ | simp [A8,A3]
   ·rw [if_neg e14]at h
    obtain rfl:=Option.some.inj h
    simp (maxDischargeDepth:=9) only [↓A9,A5,AB,AY,A6,AA,AZ,↓reduceIte,Nat.reduceEqDiff,Nat.reduceLT,Nat.reduceLeDiff,Nat.reduceAdd,Nat.reduceMul,Nat.reduceMod,Nat.reduceDiv,Nat.reducePow,Nat.reduceSub,Nat.reduceBEq,Int.reduceLE,Int.reduceLT,Int.reduceEq,Int.reduceSub,Int.reduceAdd,Int.reduceToNat,Int.reduceNeg,m0,m1,m2,m3,m4,m5,e7,e8.1,e8.2,e9.1,e9.2,e10.1,e10.2,decide_eq_true e11,e12.1,e12.2,e13.1,e13.2,e14,Bh,Bi,D6,D7,D8]<;>(repeat' apply And.intro)<;>first | rfl | exact⟨_,rfl⟩ | exact⟨_,_,rfl⟩ | simp [A8,A3]
  ·rw [if_neg e11]at h
   obtain rfl:=Option.some.inj h
   simp (maxDischargeDepth:=9) only [↓A9,A5,AB,AY,A6,AA,AZ,↓reduceIte,Nat.reduceEqDiff,Nat.reduceLT,Nat.reduceLeDiff,Nat.reduceAdd,Nat.reduceMul,Nat.reduceMod,Nat.reduceDiv,Nat.reducePow,Nat.reduceSub,Nat.reduceBEq,Int.reduceLE,Int.reduceLT,Int.reduceEq,Int.reduceSub,Int.reduceAdd,Int.reduceToNat,Int.reduceNeg,m0,m1,m2,m3,m4,m5,e7,e8.1,e8.2,e9.1,e9.2,e10.1,e10.2,e11,Bh,Bi,D6,D7,D8]<;>(repeat' apply And.intro)<;>first | rfl | exact⟨_,rfl⟩ | exact⟨_,_,rfl⟩ | simp [A8,A3]
 ·rw [if_neg e7]at h
  obtain rfl:=Option.some.inj h
  simp (maxDischargeDepth:=9) only [↓A9,A5,AB,AY,A6,AA,AZ,↓reduceIte,Nat.reduceEqDiff,Nat.reduceLT,Nat.reduceLeDiff,Nat.reduceAdd,Nat.reduceMul,Nat.reduceMod,Nat.reduceDiv,Nat.reducePow,Nat.reduceSub,Nat.reduceBEq,Int.reduceLE,Int.reduceLT,Int.reduceEq,Int.reduceSub,Int.reduceAdd,Int.reduceToNat,Int.reduceNeg,m0,m1,m2,m3,m4,m5,e7,Bh,Bi,D6,D7,D8]<;>(repeat' apply And.intro)<;>first | rfl | exact⟨_,rfl⟩ | exact⟨_,_,rfl⟩ | simp [A8,A3]
theorem Km(A1:List (List (Int×Int)))(A7:List Int)(A4:List Int)(Bt:List Int)(GI:Int)(Gl:Int){r:Bool}(h:Fm A1 A7 A4 Bt GI Gl=some r):Y.call 82 [D.agg [D.sl 104 (A8 (fun x=>D.sl 106 (AT .i64 .i64 x)) A1),D.sl 3 (A8 (D.int .i64) A7),D.sl 3 (A8 (D.int .i64) A4)],D.sl 3 (A8 (D.int .i64) Bt),D.int .i64 GI,D.int .i64 Gl] []=some (D.bool r,[]):=by
 refine c82 ?_ rfl
 unfold ur
 unfold Fm at h
 obtain⟨e1,h⟩:=C7 h
 obtain⟨e2,h⟩:=C7 h
 by_cases e3:((A1.getD GI.toNat default).length:Int)=((A1.getD Gl.toNat default).length:Int)
 ·rw [if_pos e3]at h
  obtain⟨e4,h⟩:=C7 h
  obtain⟨e5,h⟩:=C7 h
  by_cases e6:(A4.getD GI.toNat default)=(A4.getD Gl.toNat default)
  ·rw [if_pos e6]at h
   obtain⟨cK,hl8,h⟩:=Bg h
   try dsimp only at h
   simp (maxDischargeDepth:=9) only [↓A9,A5,AB,AY,A6,AA,AZ,↓reduceIte,Nat.reduceEqDiff,Nat.reduceLT,Nat.reduceLeDiff,Nat.reduceAdd,Nat.reduceMul,Nat.reduceMod,Nat.reduceDiv,Nat.reducePow,Nat.reduceSub,Nat.reduceBEq,Int.reduceLE,Int.reduceLT,Int.reduceEq,Int.reduceSub,Int.reduceAdd,Int.reduceToNat,Int.reduceNeg,e1.1,e1.2,e2.1,e2.2,decide_eq_true e3,e4.1,e4.2,e5.1,e5.2,decide_eq_true e6]
   refine Ba (JG A1 A7 A4 Bt GI Gl hl8 ?_) ?_
   ·simp (maxDischargeDepth:=9) only [↓A9,A5,AB,AY,A6,AA,AZ,↓reduceIte,Nat.reduceEqDiff,Nat.reduceLT,Nat.reduceLeDiff,Nat.reduceAdd,Nat.reduceMul,Nat.reduceMod,Nat.reduceDiv,Nat.reducePow,Nat.reduceSub,Nat.reduceBEq,Int.reduceLE,Int.reduceLT,Int.reduceEq,Int.reduceSub,Int.reduceAdd,Int.reduceToNat,Int.reduceNeg,e1.1,e1.2,e2.1,e2.2,decide_eq_true e3,e4.1,e4.2,e5.1,e5.2,decide_eq_true e6,Bh]<;>(repeat' apply And.intro)<;>first | rfl | exact⟨_,rfl⟩ | exact⟨_,_,rfl⟩ | simp [A8,A3]
   ·intro ex8 s8 hX8
    rcases cK with q8_ | q8_
    ·unfold Bi at hX8
     dsimp only at hX8 h
     obtain⟨rfl,n8_0⟩:=hX8
     obtain rfl:=Option.some.inj h
     simp (maxDischargeDepth:=9) only [↓A9,A5,AB,AY,A6,AA,AZ,↓reduceIte,Nat.reduceEqDiff,Nat.reduceLT,Nat.reduceLeDiff,Nat.reduceAdd,Nat.reduceMul,Nat.reduceMod,Nat.reduceDiv,Nat.reducePow,Nat.reduceSub,Nat.reduceBEq,Int.reduceLE,Int.reduceLT,Int.reduceEq,Int.reduceSub,Int.reduceAdd,Int.reduceToNat,Int.reduceNeg,e1.1,e1.2,e2.1,e2.2,decide_eq_true e3,e4.1,e4.2,e5.1,e5.2,decide_eq_true e6,n8_0]<;>(repeat' apply And.intro)<;>first | rfl | exact⟨_,rfl⟩ | exact⟨_,_,rfl⟩ | simp [A8,A3]
    ·unfold Bi at hX8
     dsimp only at hX8 h
     obtain rfl:=hX8
     obtain rfl:=Option.some.inj h
     simp (maxDischargeDepth:=9) only [↓A9,A5,AB,AY,A6,AA,AZ,↓reduceIte,Nat.reduceEqDiff,Nat.reduceLT,Nat.reduceLeDiff,Nat.reduceAdd,Nat.reduceMul,Nat.reduceMod,Nat.reduceDiv,Nat.reducePow,Nat.reduceSub,Nat.reduceBEq,Int.reduceLE,Int.reduceLT,Int.reduceEq,Int.reduceSub,Int.reduceAdd,Int.reduceToNat,Int.reduceNeg,e1.1,e1.2,e2.1,e2.2,decide_eq_true e3,e4.1,e4.2,e5.1,e5.2,decide_eq_true e6]<;>(repeat' apply And.intro)<;>first | rfl | exact⟨_,rfl⟩ | exact⟨_,_,rfl⟩ | simp [A8,A3]
  ·rw [if_neg e6]at h
   obtain rfl:=Option.some.inj h
   simp (maxDischargeDepth:=9) only [↓A9,A5,AB,AY,A6,AA,AZ,↓reduceIte,Nat.reduceEqDiff,Nat.reduceLT,Nat.reduceLeDiff,Nat.reduceAdd,Nat.reduceMul,Nat.reduceMod,Nat.reduceDiv,Nat.reducePow,Nat.reduceSub,Nat.reduceBEq,Int.reduceLE,Int.reduceLT,Int.reduceEq,Int.reduceSub,Int.reduceAdd,Int.reduceToNat,Int.reduceNeg,e1.1,e1.2,e2.1,e2.2,decide_eq_true e3,e4.1,e4.2,e5.1,e5.2,e6]<;>(repeat' apply And.intro)<;>first | rfl | exact⟨_,rfl⟩ | exact⟨_,_,rfl⟩ | simp [A8,A3]
 ·rw [if_neg e3]at h
  obtain rfl:=Option.some.inj h
  simp (maxDischargeDepth:=9) only [↓A9,A5,AB,AY,A6,AA,AZ,↓reduceIte,Nat.reduceEqDiff,Nat.reduceLT,Nat.reduceLeDiff,Nat.reduceAdd,Nat.reduceMul,Nat.reduceMod,Nat.reduceDiv,Nat.reducePow,Nat.reduceSub,Nat.reduceBEq,Int.reduceLE,Int.reduceLT,Int.reduceEq,Int.reduceSub,Int.reduceAdd,Int.reduceToNat,Int.reduceNeg,e1.1,e1.2,e2.1,e2.2,e3]<;>(repeat' apply And.intro)<;>first | rfl | exact⟨_,rfl⟩ | exact⟨_,_,rfl⟩ | simp [A8,A3]
noncomputable def BU(AK:List (List (Int×Int)))(Ab:List Int)(AF:List Int)(class_:List Int)(Cu:Int)(IX:Int):Option ((Int)⊕(Unit⊕Unit)):=
 if IX<(((class_.take Cu.toNat).drop 0).length:Int)then
  ck (0≤Cu∧Cu.toNat<class_.length)<|
  ck (0≤IX∧IX.toNat<class_.length)<|
  if(class_.getD Cu.toNat default)=(class_.getD IX.toNat default)then
   (Fm AK Ab AF class_ Cu IX).bind fun Ov=>
   if Ov=true then
    some (Sum.inl (IntKind.i64.wrap (IX+1)))
   else
    some (Sum.inr (Sum.inl ()))
  else
   some (Sum.inl (IntKind.i64.wrap (IX+1)))
 else
  some (Sum.inr (Sum.inr ()))
noncomputable def DD(AK:List (List (Int×Int)))(Ab:List Int)(AF:List Int)(class_:List Int)(Cu:Int)(v:Int):Option (Unit⊕Unit):=Gc (fun v=>BU AK Ab AF class_ Cu v) v
noncomputable def BV(AK:List (List (Int×Int)))(Ab:List Int)(AF:List Int)(class_:List Int)(Cu:Int):Option ((Int)⊕(Unit⊕Unit)):=
 if Cu<(class_.length:Int)then
  ck (0≤Cu∧Cu.toNat<class_.length)<|
  if(class_.getD Cu.toNat default)<0 then
   some (Sum.inr (Sum.inl ()))
  else
   ck (0≤Cu)<|
   ck (Cu.toNat≤class_.length)<|
   (DD AK Ab AF class_ Cu 0).bind fun cK=>
   match cK with
   | .inl q8_=>
    some (Sum.inr (Sum.inl ()))
   | .inr q8_=>
    some (Sum.inl (IntKind.i64.wrap (Cu+1)))
 else
  some (Sum.inr (Sum.inr ()))
noncomputable def DE(AK:List (List (Int×Int)))(Ab:List Int)(AF:List Int)(class_:List Int)(v:Int):Option (Unit⊕Unit):=Gc (fun v=>BV AK Ab AF class_ v) v
noncomputable def DS(AK:List (List (Int×Int)))(Ab:List Int)(AF:List Int)(class_:List Int):Option (Bool):=
 if(class_.length:Int)=(AK.length:Int)then
  (DE AK Ab AF class_ 0).bind fun H0=>
  match H0 with
  | .inl q3_=>
   some false
  | .inr q3_=>
   some true
 else
  some false
def NF:SC:=
 .seq
 (.ops [
 ⟨(some 28),(.binOp .lss 3 (.tmp 27) (.tmp 26) 3),0,none⟩])
 (.seq
 (.cond (.tmp 28)
 .skip
 (.exit 2))
 (.seq
 (.block 3
 (.seq
 (.ops [
 ⟨(some 29),(.move (.tmp 27)),3,none⟩,
 ⟨(some 6),(.assign (.tmp 29)),3,none⟩])
 (.seq
 (.draws [
 (⟨[30,1,1],[30,31,32,33,34,35,36,37,38,39,40,41,42,43,44,45,46],[30]⟩,⟨(some 30),(.move (.tmp 1)),23,none⟩),
 (⟨[31,5,5],[30,31,32,33,34,35,36,37,38,39,40,41,42,43,44,45,46],[31]⟩,⟨(some 31),(.move (.tmp 5)),3,none⟩),
 (⟨[32,30,31,1,5],[30,31,32,33,34,35,36,37,38,39,40,41,42,43,44,45,46],[32]⟩,⟨(some 32),(.indexAddr 23 (.tmp 30) (.tmp 31)),0,none⟩),
 (⟨[33,32,1],[30,31,32,33,34,35,36,37,38,39,40,41,42,43,44,45,46],[33]⟩,⟨(some 33),(.load 3 (.tmp 32)),3,none⟩),
 (⟨[34,1,1],[30,31,32,33,34,35,36,37,38,39,40,41,42,43,44,45,46],[34]⟩,⟨(some 34),(.move (.tmp 1)),23,none⟩),
 (⟨[35,6,6],[30,31,32,33,34,35,36,37,38,39,40,41,42,43,44,45,46],[35]⟩,⟨(some 35),(.move (.tmp 6)),3,none⟩),
 (⟨[36,34,35,1,6],[30,31,32,33,34,35,36,37,38,39,40,41,42,43,44,45,46],[36]⟩,⟨(some 36),(.indexAddr 23 (.tmp 34) (.tmp 35)),0,none⟩),
 (⟨[37,36,1],[30,31,32,33,34,35,36,37,38,39,40,41,42,43,44,45,46],[37]⟩,⟨(some 37),(.load 3 (.tmp 36)),3,none⟩),
 (⟨[38,33,37,1,1],[30,31,32,33,34,35,36,37,38,39,40,41,42,43,44,45,46],[38]⟩,⟨(some 38),(.binOp .eql 3 (.tmp 33) (.tmp 37) 3),4,none⟩),
 (⟨[39,38,38],[30,31,32,33,34,35,36,37,38,39,40,41,42,43,44,45,46],[39]⟩,⟨(some 39),(.move (.tmp 38)),4,none⟩),
 (⟨[40,2,2,39],[30,31,32,33,34,35,36,37,38,39,40,41,42,43,44,45,46],[40]⟩,⟨(some 40),(.load 31 (.tmp 2)),31,(some (some 39,true))⟩),
 (⟨[41,1,1,39],[30,31,32,33,34,35,36,37,38,39,40,41,42,43,44,45,46],[41]⟩,⟨(some 41),(.move (.tmp 1)),23,(some (some 39,true))⟩),
 (⟨[42,5,5,39],[30,31,32,33,34,35,36,37,38,39,40,41,42,43,44,45,46],[42]⟩,⟨(some 42),(.move (.tmp 5)),3,(some (some 39,true))⟩),
 (⟨[43,6,6,39],[30,31,32,33,34,35,36,37,38,39,40,41,42,43,44,45,46],[43]⟩,⟨(some 43),(.move (.tmp 6)),3,(some (some 39,true))⟩),
 (⟨[44,40,41,42,43,2,1,5,6,39],[30,31,32,33,34,35,36,37,38,39,40,41,42,43,44,45,46],[44]⟩,⟨(some 44),(.call ⟨(.value (.func 82)), #[(.tmp 40),(.tmp 41),(.tmp 42),(.tmp 43)], #[31,23,3,3]⟩),4,(some (some 39,true))⟩),
 (⟨[45,44,44,39],[30,31,32,33,34,35,36,37,38,39,40,41,42,43,44,45,46],[45]⟩,⟨(some 45),(.unOp .not 4 (.tmp 44)),4,(some (some 39,true))⟩),
 (⟨[46,39,45,38,45],[30,31,32,33,34,35,36,37,38,39,40,41,42,43,44,45,46],[46]⟩,⟨(some 46),(.pick (.tmp 39) (.tmp 45) (.const (.bool false))),4,none⟩)])
 (.cond (.tmp 46)
 (.seq
 (.ops [
 ⟨(some 4),(.assign (.const (.bool false))),4,none⟩])
 .ret)
 .skip))))
 (.ops [
 ⟨(some 47),(.binOp .add 3 (.tmp 27) (.const (.int .i64 1)) 3),3,none⟩,
 ⟨(some 27),(.move (.tmp 47)),3,none⟩])))
def UQ:SC:= .loop NF
def NG:SC:=
 .seq
 (.ops [
 ⟨(some 16),(.binOp .lss 3 (.tmp 15) (.tmp 14) 3),0,none⟩])
 (.seq
 (.cond (.tmp 16)
 .skip
 (.exit 0))
 (.seq
 (.block 1
 (.seq
 (.ops [
 ⟨(some 17),(.move (.tmp 15)),3,none⟩,
 ⟨(some 5),(.assign (.tmp 17)),3,none⟩])
 (.seq
 (.seq
 (.ops [
 ⟨(some 18),(.move (.tmp 1)),23,none⟩,
 ⟨(some 19),(.move (.tmp 5)),3,none⟩,
 ⟨(some 20),(.indexAddr 23 (.tmp 18) (.tmp 19)),0,none⟩,
 ⟨(some 21),(.load 3 (.tmp 20)),3,none⟩,
 ⟨(some 22),(.binOp .lss 3 (.tmp 21) (.const (.int .i64 0)) 3),4,none⟩])
 (.cond (.tmp 22)
 (.seq
 (.ops [
 ⟨(some 4),(.assign (.const (.bool false))),4,none⟩])
 .ret)
 .skip))
 (.seq
 (.ops [
 ⟨(some 23),(.move (.tmp 1)),23,none⟩,
 ⟨(some 24),(.move (.tmp 5)),3,none⟩,
 ⟨(some 25),(.slice 23 (.tmp 23) none (some (.tmp 24)) none),23,none⟩,
 ⟨(some 26),(.call ⟨(.builtin .len), #[(.tmp 25)], #[23]⟩),3,none⟩,
 ⟨(some 27),(.move (.const (.int .i64 0))),3,none⟩])
 (.block 2
 UQ)))))
 (.ops [
 ⟨(some 48),(.binOp .add 3 (.tmp 15) (.const (.int .i64 1)) 3),3,none⟩,
 ⟨(some 15),(.move (.tmp 48)),3,none⟩])))
def UR:SC:= .loop NG
def uu:SC:=
 .seq
 (.ops [
 ⟨(some 2),(.box 31 (.tmp 0)),0,none⟩,
 ⟨(some 4),(.assign (.const (.bool false))),4,none⟩])
 (.seq
 (.seq
 (.ops [
 ⟨(some 7),(.move (.tmp 1)),23,none⟩,
 ⟨(some 8),(.call ⟨(.builtin .len), #[(.tmp 7)], #[23]⟩),3,none⟩,
 ⟨(some 9),(.fieldAddr 31 (.tmp 2) 0),0,none⟩,
 ⟨(some 10),(.load 29 (.tmp 9)),29,none⟩,
 ⟨(some 11),(.call ⟨(.builtin .len), #[(.tmp 10)], #[29]⟩),3,none⟩,
 ⟨(some 12),(.binOp .neq 3 (.tmp 8) (.tmp 11) 3),4,none⟩])
 (.cond (.tmp 12)
 (.seq
 (.ops [
 ⟨(some 4),(.assign (.const (.bool false))),4,none⟩])
 .ret)
 .skip))
 (.seq
 (.seq
 (.ops [
 ⟨(some 13),(.move (.tmp 1)),23,none⟩,
 ⟨(some 14),(.call ⟨(.builtin .len), #[(.tmp 13)], #[23]⟩),3,none⟩,
 ⟨(some 15),(.move (.const (.int .i64 0))),3,none⟩])
 (.block 0
 UR))
 (.seq
 (.ops [
 ⟨(some 4),(.assign (.const (.bool true))),4,none⟩])
 .ret)))
theorem cM:Try.f44.body.map (BZ lends)=some uu:=by kernel_rfl
theorem uv:CD Try.f44 2=true:=by kernel_rfl
theorem c44{a l:List D}{r:D×List D}(h:Bw Y.env uu (Ew AE l.length [ResultVar.tmp 4] r) (entry a l))(ha:a.length=2):Y.call 44 a l=some r:=
 AN (Y:=Y) rfl Try.func44 (ha▸uv) cM h
def Au(AK:List (List (Int×Int)))(Ab:List Int)(AF:List Int)(class_:List Int)(Cu:Int)(IX:Int)(s:St):Prop:=s.v 1=D.sl 3 (A8 (D.int .i64) class_)∧s.v 2=D.box [D.sl 104 (A8 (fun x=>D.sl 106 (AT .i64 .i64 x)) AK),D.sl 3 (A8 (D.int .i64) Ab),D.sl 3 (A8 (D.int .i64) AF)]∧s.v 5=D.int .i64 Cu∧s.v 14=D.int .i64 (class_.length:Int)∧s.v 15=D.int .i64 Cu∧s.v 26=D.int .i64 (((class_.take Cu.toNat).drop 0).length:Int)∧s.v 27=D.int .i64 IX
def Av(AK:List (List (Int×Int)))(Ab:List Int)(AF:List Int)(class_:List Int)(Cu:Int)(r:Unit⊕Unit)(ex:Ex)(s:St):Prop:=match r with
 | .inl q=>ex= .ret∧s.v 4=D.bool false
 | .inr q=>ex= .exit 2∧s.v 1=D.sl 3 (A8 (D.int .i64) class_)∧s.v 2=D.box [D.sl 104 (A8 (fun x=>D.sl 106 (AT .i64 .i64 x)) AK),D.sl 3 (A8 (D.int .i64) Ab),D.sl 3 (A8 (D.int .i64) AF)]∧s.v 14=D.int .i64 (class_.length:Int)∧s.v 15=D.int .i64 Cu
theorem Gm(AK:List (List (Int×Int)))(Ab:List Int)(AF:List Int)(class_:List Int)(Cu:Int){v:Int}{s:St}{r:Unit⊕Unit}(h:DD AK Ab AF class_ Cu v=some r)(hM:Au AK Ab AF class_ Cu v s):Bw Y.env UQ (Av AK Ab AF class_ Cu r) s:=by
 unfold DD at h
 refine CO (c:=NF) (fun v=>BU AK Ab AF class_ Cu v) (fun v s=>Au AK Ab AF class_ Cu v s) (Av AK Ab AF class_ Cu) ?_ h hM
 clear h hM s v r
 intro IX s o hM h
 unfold BU at h
 unfold Au at hM
 obtain⟨m0,m1,m2,m3,m4,m5,m6⟩:=hM
 unfold NF
 by_cases e7:IX<(((class_.take Cu.toNat).drop 0).length:Int)
 ·rw [if_pos e7]at h
  obtain⟨e8,h⟩:=C7 h
  obtain⟨e9,h⟩:=C7 h
  by_cases e10:(class_.getD Cu.toNat default)=(class_.getD IX.toNat default)
  ·rw [if_pos e10]at h
   obtain⟨Ov,hl11,h⟩:=Bg h
   try dsimp only at h
   have Kr:=Km AK Ab AF class_ Cu IX hl11
   by_cases e12:Ov=true
   ·rw [if_pos e12]at h
    obtain rfl:=Option.some.inj h
    simp (maxDischargeDepth:=9) only [↓A9,A5,AB,AY,A6,AA,AZ,↓reduceIte,Nat.reduceEqDiff,Nat.reduceLT,Nat.reduceLeDiff,Nat.reduceAdd,Nat.reduceMul,Nat.reduceMod,Nat.reduceDiv,Nat.reducePow,Nat.reduceSub,Nat.reduceBEq,Int.reduceLE,Int.reduceLT,Int.reduceEq,Int.reduceSub,Int.reduceAdd,Int.reduceToNat,Int.reduceNeg,m0,m1,m2,m3,m4,m5,m6,e7,e8.1,e8.2,e9.1,e9.2,decide_eq_true e10,Kr,e12,Au,Av,D6,D7,D8]<;>(repeat' apply And.intro)<;>first | rfl | exact⟨_,rfl⟩ | exact⟨_,_,rfl⟩ | simp [A8,A3]
   ·rw [if_neg e12]at h
    have e12f:Ov=false:=Bool.eq_false_iff.mpr e12
    obtain rfl:=Option.some.inj h
    simp (maxDischargeDepth:=9) only [↓A9,A5,AB,AY,A6,AA,AZ,↓reduceIte,Nat.reduceEqDiff,Nat.reduceLT,Nat.reduceLeDiff,Nat.reduceAdd,Nat.reduceMul,Nat.reduceMod,Nat.reduceDiv,Nat.reducePow,Nat.reduceSub,Nat.reduceBEq,Int.reduceLE,Int.reduceLT,Int.reduceEq,Int.reduceSub,Int.reduceAdd,Int.reduceToNat,Int.reduceNeg,m0,m1,m2,m3,m4,m5,m6,e7,e8.1,e8.2,e9.1,e9.2,decide_eq_true e10,Kr,e12f,Au,Av,D6,D7,D8]<;>(repeat' apply And.intro)<;>first | rfl | exact⟨_,rfl⟩ | exact⟨_,_,rfl⟩ | simp [A8,A3]
  ·rw [if_neg e10]at h
   obtain rfl:=Option.some.inj h
   simp (maxDischargeDepth:=9) only [↓A9,A5,AB,AY,A6,AA,AZ,↓reduceIte,Nat.reduceEqDiff,Nat.reduceLT,Nat.reduceLeDiff,Nat.reduceAdd,Nat.reduceMul,Nat.reduceMod,Nat.reduceDiv,Nat.reducePow,Nat.reduceSub,Nat.reduceBEq,Int.reduceLE,Int.reduceLT,Int.reduceEq,Int.reduceSub,Int.reduceAdd,Int.reduceToNat,Int.reduceNeg,m0,m1,m2,m3,m4,m5,m6,e7,e8.1,e8.2,e9.1,e9.2,e10,Au,Av,D6,D7,D8]<;>(repeat' apply And.intro)<;>first | rfl | exact⟨_,rfl⟩ | exact⟨_,_,rfl⟩ | simp [A8,A3]
 ·rw [if_neg e7]at h
  obtain rfl:=Option.some.inj h
  simp (maxDischargeDepth:=9) only [↓A9,A5,AB,AY,A6,AA,AZ,↓reduceIte,Nat.reduceEqDiff,Nat.reduceLT,Nat.reduceLeDiff,Nat.reduceAdd,Nat.reduceMul,Nat.reduceMod,Nat.reduceDiv,Nat.reducePow,Nat.reduceSub,Nat.reduceBEq,Int.reduceLE,Int.reduceLT,Int.reduceEq,Int.reduceSub,Int.reduceAdd,Int.reduceToNat,Int.reduceNeg,m0,m1,m2,m3,m4,m5,m6,e7,Au,Av,D6,D7,D8]<;>(repeat' apply And.intro)<;>first | rfl | exact⟨_,rfl⟩ | exact⟨_,_,rfl⟩ | simp [A8,A3]
def Aw(AK:List (List (Int×Int)))(Ab:List Int)(AF:List Int)(class_:List Int)(Cu:Int)(s:St):Prop:=s.v 1=D.sl 3 (A8 (D.int .i64) class_)∧s.v 2=D.box [D.sl 104 (A8 (fun x=>D.sl 106 (AT .i64 .i64 x)) AK),D.sl 3 (A8 (D.int .i64) Ab),D.sl 3 (A8 (D.int .i64) AF)]∧s.v 14=D.int .i64 (class_.length:Int)∧s.v 15=D.int .i64 Cu
def Ax(AK:List (List (Int×Int)))(Ab:List Int)(AF:List Int)(class_:List Int)(r:Unit⊕Unit)(ex:Ex)(s:St):Prop:=match r with
 | .inl q=>ex= .ret∧s.v 4=D.bool false
 | .inr q=>ex= .exit 0
theorem Gn(AK:List (List (Int×Int)))(Ab:List Int)(AF:List Int)(class_:List Int){v:Int}{s:St}{r:Unit⊕Unit}(h:DE AK Ab AF class_ v=some r)(hM:Aw AK Ab AF class_ v s):Bw Y.env UR (Ax AK Ab AF class_ r) s:=by
 unfold DE at h
 refine CO (c:=NG) (fun v=>BV AK Ab AF class_ v) (fun v s=>Aw AK Ab AF class_ v s) (Ax AK Ab AF class_) ?_ h hM
 clear h hM s v r
 intro Cu s o hM h
 unfold BV at h
 unfold Aw at hM
 obtain⟨m0,m1,m2,m3⟩:=hM
 unfold NG
 by_cases e2:Cu<(class_.length:Int)
 ·rw [if_pos e2]at h
  obtain⟨e3,h⟩:=C7 h
  by_cases e4:(class_.getD Cu.toNat default)<0
  ·rw [if_pos e4]at h
   obtain rfl:=Option.some.inj h
   simp (maxDischargeDepth:=9) only [↓A9,A5,AB,AY,A6,AA,AZ,↓reduceIte,Nat.reduceEqDiff,Nat.reduceLT,Nat.reduceLeDiff,Nat.reduceAdd,Nat.reduceMul,Nat.reduceMod,Nat.reduceDiv,Nat.reducePow,Nat.reduceSub,Nat.reduceBEq,Int.reduceLE,Int.reduceLT,Int.reduceEq,Int.reduceSub,Int.reduceAdd,Int.reduceToNat,Int.reduceNeg,m0,m1,m2,m3,e2,e3.1,e3.2,e4,Aw,Ax,D6,D7,D8]<;>(repeat' apply And.intro)<;>first | rfl | exact⟨_,rfl⟩ | exact⟨_,_,rfl⟩ | simp [A8,A3]
  ·rw [if_neg e4]at h
   obtain⟨e5,h⟩:=C7 h
   obtain⟨e6,h⟩:=C7 h
   obtain⟨cK,hl8,h⟩:=Bg h
   try dsimp only at h
   simp (maxDischargeDepth:=9) only [↓A9,A5,AB,AY,A6,AA,AZ,↓reduceIte,Nat.reduceEqDiff,Nat.reduceLT,Nat.reduceLeDiff,Nat.reduceAdd,Nat.reduceMul,Nat.reduceMod,Nat.reduceDiv,Nat.reducePow,Nat.reduceSub,Nat.reduceBEq,Int.reduceLE,Int.reduceLT,Int.reduceEq,Int.reduceSub,Int.reduceAdd,Int.reduceToNat,Int.reduceNeg,m0,m1,m2,m3,e2,e3.1,e3.2,e4,e5,e6]
   refine Ba (Gm AK Ab AF class_ Cu hl8 ?_) ?_
   ·simp (maxDischargeDepth:=9) only [↓A9,A5,AB,AY,A6,AA,AZ,↓reduceIte,Nat.reduceEqDiff,Nat.reduceLT,Nat.reduceLeDiff,Nat.reduceAdd,Nat.reduceMul,Nat.reduceMod,Nat.reduceDiv,Nat.reducePow,Nat.reduceSub,Nat.reduceBEq,Int.reduceLE,Int.reduceLT,Int.reduceEq,Int.reduceSub,Int.reduceAdd,Int.reduceToNat,Int.reduceNeg,m0,m1,m2,m3,e2,e3.1,e3.2,e4,e5,e6,Au]<;>(repeat' apply And.intro)<;>first | rfl | exact⟨_,rfl⟩ | exact⟨_,_,rfl⟩ | simp [A8,A3]
   ·intro ex8 s8 hX8
    rcases cK with q8_ | q8_
    ·unfold Av at hX8
     dsimp only at hX8 h
     obtain⟨rfl,n8_0⟩:=hX8
     obtain rfl:=Option.some.inj h
     simp (maxDischargeDepth:=9) only [↓A9,A5,AB,AY,A6,AA,AZ,↓reduceIte,Nat.reduceEqDiff,Nat.reduceLT,Nat.reduceLeDiff,Nat.reduceAdd,Nat.reduceMul,Nat.reduceMod,Nat.reduceDiv,Nat.reducePow,Nat.reduceSub,Nat.reduceBEq,Int.reduceLE,Int.reduceLT,Int.reduceEq,Int.reduceSub,Int.reduceAdd,Int.reduceToNat,Int.reduceNeg,e2,e3.1,e3.2,e4,e5,e6,n8_0,Aw,Ax,D6,D7,D8]<;>(repeat' apply And.intro)<;>first | rfl | exact⟨_,rfl⟩ | exact⟨_,_,rfl⟩ | simp [A8,A3]
    ·unfold Av at hX8
     dsimp only at hX8 h
     obtain⟨rfl,n8_0,n8_1,n8_2,n8_3⟩:=hX8
     obtain rfl:=Option.some.inj h
     simp (maxDischargeDepth:=9) only [↓A9,A5,AB,AY,A6,AA,AZ,↓reduceIte,Nat.reduceEqDiff,Nat.reduceLT,Nat.reduceLeDiff,Nat.reduceAdd,Nat.reduceMul,Nat.reduceMod,Nat.reduceDiv,Nat.reducePow,Nat.reduceSub,Nat.reduceBEq,Int.reduceLE,Int.reduceLT,Int.reduceEq,Int.reduceSub,Int.reduceAdd,Int.reduceToNat,Int.reduceNeg,e2,e3.1,e3.2,e4,e5,e6,n8_0,n8_1,n8_2,n8_3,Aw,Ax,D6,D7,D8]<;>(repeat' apply And.intro)<;>first | rfl | exact⟨_,rfl⟩ | exact⟨_,_,rfl⟩ | simp [A8,A3]
 ·rw [if_neg e2]at h
  obtain rfl:=Option.some.inj h
  simp (maxDischargeDepth:=9) only [↓A9,A5,AB,AY,A6,AA,AZ,↓reduceIte,Nat.reduceEqDiff,Nat.reduceLT,Nat.reduceLeDiff,Nat.reduceAdd,Nat.reduceMul,Nat.reduceMod,Nat.reduceDiv,Nat.reducePow,Nat.reduceSub,Nat.reduceBEq,Int.reduceLE,Int.reduceLT,Int.reduceEq,Int.reduceSub,Int.reduceAdd,Int.reduceToNat,Int.reduceNeg,m0,m1,m2,m3,e2,Aw,Ax,D6,D7,D8]<;>(repeat' apply And.intro)<;>first | rfl | exact⟨_,rfl⟩ | exact⟨_,_,rfl⟩ | simp [A8,A3]
theorem H3(AK:List (List (Int×Int)))(Ab:List Int)(AF:List Int)(class_:List Int){r:Bool}(h:DS AK Ab AF class_=some r):Y.call 44 [D.agg [D.sl 104 (A8 (fun x=>D.sl 106 (AT .i64 .i64 x)) AK),D.sl 3 (A8 (D.int .i64) Ab),D.sl 3 (A8 (D.int .i64) AF)],D.sl 3 (A8 (D.int .i64) class_)] []=some (D.bool r,[]):=by
 refine c44 ?_ rfl
 unfold uu
 unfold DS at h
 by_cases e1:(class_.length:Int)=(AK.length:Int)
 ·rw [if_pos e1]at h
  obtain⟨H0,hl3,h⟩:=Bg h
  try dsimp only at h
  simp (maxDischargeDepth:=9) only [↓A9,A5,AB,AY,A6,AA,AZ,↓reduceIte,Nat.reduceEqDiff,Nat.reduceLT,Nat.reduceLeDiff,Nat.reduceAdd,Nat.reduceMul,Nat.reduceMod,Nat.reduceDiv,Nat.reducePow,Nat.reduceSub,Nat.reduceBEq,Int.reduceLE,Int.reduceLT,Int.reduceEq,Int.reduceSub,Int.reduceAdd,Int.reduceToNat,Int.reduceNeg,decide_eq_true e1]
  refine Ba (Gn AK Ab AF class_ hl3 ?_) ?_
  ·simp (maxDischargeDepth:=9) only [↓A9,A5,AB,AY,A6,AA,AZ,↓reduceIte,Nat.reduceEqDiff,Nat.reduceLT,Nat.reduceLeDiff,Nat.reduceAdd,Nat.reduceMul,Nat.reduceMod,Nat.reduceDiv,Nat.reducePow,Nat.reduceSub,Nat.reduceBEq,Int.reduceLE,Int.reduceLT,Int.reduceEq,Int.reduceSub,Int.reduceAdd,Int.reduceToNat,Int.reduceNeg,decide_eq_true e1,Aw]<;>(repeat' apply And.intro)<;>first | rfl | exact⟨_,rfl⟩ | exact⟨_,_,rfl⟩ | simp [A8,A3]
  ·intro ex3 s3 hX3
   rcases H0 with q3_ | q3_
   ·unfold Ax at hX3
    dsimp only at hX3 h
    obtain⟨rfl,n3_0⟩:=hX3
    obtain rfl:=Option.some.inj h
    simp (maxDischargeDepth:=9) only [↓A9,A5,AB,AY,A6,AA,AZ,↓reduceIte,Nat.reduceEqDiff,Nat.reduceLT,Nat.reduceLeDiff,Nat.reduceAdd,Nat.reduceMul,Nat.reduceMod,Nat.reduceDiv,Nat.reducePow,Nat.reduceSub,Nat.reduceBEq,Int.reduceLE,Int.reduceLT,Int.reduceEq,Int.reduceSub,Int.reduceAdd,Int.reduceToNat,Int.reduceNeg,decide_eq_true e1,n3_0]<;>(repeat' apply And.intro)<;>first | rfl | exact⟨_,rfl⟩ | exact⟨_,_,rfl⟩ | simp [A8,A3]
   ·unfold Ax at hX3
    dsimp only at hX3 h
    obtain rfl:=hX3
    obtain rfl:=Option.some.inj h
    simp (maxDischargeDepth:=9) only [↓A9,A5,AB,AY,A6,AA,AZ,↓reduceIte,Nat.reduceEqDiff,Nat.reduceLT,Nat.reduceLeDiff,Nat.reduceAdd,Nat.reduceMul,Nat.reduceMod,Nat.reduceDiv,Nat.reducePow,Nat.reduceSub,Nat.reduceBEq,Int.reduceLE,Int.reduceLT,Int.reduceEq,Int.reduceSub,Int.reduceAdd,Int.reduceToNat,Int.reduceNeg,decide_eq_true e1]<;>(repeat' apply And.intro)<;>first | rfl | exact⟨_,rfl⟩ | exact⟨_,_,rfl⟩ | simp [A8,A3]
 ·rw [if_neg e1]at h
  obtain rfl:=Option.some.inj h
  simp (maxDischargeDepth:=9) only [↓A9,A5,AB,AY,A6,AA,AZ,↓reduceIte,Nat.reduceEqDiff,Nat.reduceLT,Nat.reduceLeDiff,Nat.reduceAdd,Nat.reduceMul,Nat.reduceMod,Nat.reduceDiv,Nat.reducePow,Nat.reduceSub,Nat.reduceBEq,Int.reduceLE,Int.reduceLT,Int.reduceEq,Int.reduceSub,Int.reduceAdd,Int.reduceToNat,Int.reduceNeg,e1]<;>(repeat' apply And.intro)<;>first | rfl | exact⟨_,rfl⟩ | exact⟨_,_,rfl⟩ | simp [A8,A3]
noncomputable def DT(AK:List (List (Int×Int)))(Ab:List Int)(AF:List Int)(class_:List Int):Option (Bool×Bool):=
 ck (BP AK)<|
 ck (Ab.length<1099511627776)<|
 ck (AF.length<1099511627776)<|
 if(De AK Ab AF)=true then
  (DS AK Ab AF class_).bind fun Uc=>
  some (Uc,true)
 else
  some (false,false)
def uw:SC:=
 .seq
 (.ops [
 ⟨(some 2),(.box 31 (.tmp 0)),0,none⟩,
 ⟨(some 4),(.assign (.const (.bool false))),4,none⟩,
 ⟨(some 5),(.assign (.const (.bool false))),4,none⟩])
 (.seq
 (.seq
 (.ops [
 ⟨(some 6),(.load 31 (.tmp 2)),31,none⟩,
 ⟨(some 7),(.call ⟨(.value (.func 43)), #[(.tmp 6)], #[31]⟩),4,none⟩,
 ⟨(some 8),(.unOp .not 4 (.tmp 7)),4,none⟩])
 (.cond (.tmp 8)
 (.seq
 (.ops [
 ⟨(some 4),(.assign (.const (.bool false))),4,none⟩,
 ⟨(some 5),(.assign (.const (.bool false))),4,none⟩])
 .ret)
 .skip))
 (.seq
 (.ops [
 ⟨(some 9),(.load 31 (.tmp 2)),31,none⟩,
 ⟨(some 10),(.move (.tmp 1)),23,none⟩,
 ⟨(some 11),(.call ⟨(.value (.func 44)), #[(.tmp 9),(.tmp 10)], #[31,23]⟩),4,none⟩,
 ⟨(some 4),(.assign (.tmp 11)),4,none⟩,
 ⟨(some 5),(.assign (.const (.bool true))),4,none⟩])
 .ret))
theorem cN:Try.f11.body.map (BZ lends)=some uw:=by kernel_rfl
theorem ux:CD Try.f11 2=true:=by kernel_rfl
theorem Kr{a l:List D}{r:D×List D}(h:Bw Y.env uw (Ew AE l.length [ResultVar.tmp 4,ResultVar.tmp 5] r) (entry a l))(ha:a.length=2):Y.call 11 a l=some r:=
 AN (Y:=Y) rfl Try.func11 (ha▸ux) cN h
theorem H4(AK:List (List (Int×Int)))(Ab:List Int)(AF:List Int)(class_:List Int){r:Bool×Bool}(h:DT AK Ab AF class_=some r):Y.call 11 [D.agg [D.sl 104 (A8 (fun x=>D.sl 106 (AT .i64 .i64 x)) AK),D.sl 3 (A8 (D.int .i64) Ab),D.sl 3 (A8 (D.int .i64) AF)],D.sl 3 (A8 (D.int .i64) class_)] []=some (D.tup [D.bool r.1,D.bool r.2],[]):=by
 refine Kr ?_ rfl
 unfold uw
 unfold DT at h
 obtain⟨e1,h⟩:=C7 h
 obtain⟨e2,h⟩:=C7 h
 obtain⟨e3,h⟩:=C7 h
 have c4:=Ox AK Ab AF e1 e2 e3
 by_cases e5:(De AK Ab AF)=true
 ·rw [if_pos e5]at h
  obtain⟨Uc,hl6,h⟩:=Bg h
  try dsimp only at h
  have c6:=H3 AK Ab AF class_ hl6
  obtain rfl:=Option.some.inj h
  simp (maxDischargeDepth:=9) only [↓A9,A5,AB,AY,A6,AA,AZ,↓reduceIte,Nat.reduceEqDiff,Nat.reduceLT,Nat.reduceLeDiff,Nat.reduceAdd,Nat.reduceMul,Nat.reduceMod,Nat.reduceDiv,Nat.reducePow,Nat.reduceSub,Nat.reduceBEq,Int.reduceLE,Int.reduceLT,Int.reduceEq,Int.reduceSub,Int.reduceAdd,Int.reduceToNat,Int.reduceNeg,e1,e2,e3,c4,e5,c6]<;>(repeat' apply And.intro)<;>first | rfl | exact⟨_,rfl⟩ | exact⟨_,_,rfl⟩ | simp [A8,A3]
 ·rw [if_neg e5]at h
  have e5f:(De AK Ab AF)=false:=Bool.eq_false_iff.mpr e5
  obtain rfl:=Option.some.inj h
  simp (maxDischargeDepth:=9) only [↓A9,A5,AB,AY,A6,AA,AZ,↓reduceIte,Nat.reduceEqDiff,Nat.reduceLT,Nat.reduceLeDiff,Nat.reduceAdd,Nat.reduceMul,Nat.reduceMod,Nat.reduceDiv,Nat.reducePow,Nat.reduceSub,Nat.reduceBEq,Int.reduceLE,Int.reduceLT,Int.reduceEq,Int.reduceSub,Int.reduceAdd,Int.reduceToNat,Int.reduceNeg,e1,e2,e3,c4,e5f]<;>(repeat' apply And.intro)<;>first | rfl | exact⟨_,rfl⟩ | exact⟨_,_,rfl⟩ | simp [A8,A3]
end Go.Proofs.Ytjjahjjhohcidaa
