/- Functions of the program as plain functions, and what they compute. Conditions: those in each lemma. -/
import Derived.Test.YtclkfhhdikfcpaaL6
import Derived.Test.YtclkfhhdikfcpaaSrt
import Derived.Test.YtclkfhhdikfcpaaZer
import Derived.Test.YtclkfhhdikfcpaaDt
open Dv.D renaming int → bh,sl → ca,own → cg,bool → cf,box → ct,cptr → cv,agg → cj
open Nat renaming reduceEqDiff → bk,reduceLT → bl,reduceLeDiff → bm,reduceAdd → bo,reduceMul → bp,reduceMod → br,reduceDiv → bt,reducePow → bw,reduceSub → bx,reduceBEq → bO
open Int renaming reduceLE → b3,reduceLT → b4,reduceEq → b5,reduceSub → b6,reduceAdd → b7,reduceToNat → b8,reduceNeg → b9,pow_nonneg → cw
open Go.IntKind renaming i64 → cb,u64 → cq
open Inhabited renaming default → bj
open Sum renaming inl → cd,inr → cc
open List renaming range → an,replicate → ao,length_range → cy,filter_append → cC,length_filter_le → cD,length_eraseIdx_of_lt → cE
open Go.ResultVar renaming tmp → ci
open Bool renaming true_and → cx,not_false → cA
noncomputable section
namespace Go.Proofs.Ytclkfhhdikfcpaa
open Go Dv
set_option linter.unusedSimpArgs false
set_option linter.unusedVariables false
set_option maxRecDepth 100000
set_option maxHeartbeats 4000000
def Gh(set_:Int)(out:AU)(a:Int):Option ((AU×Int)⊕(AU)):= ck (¬a<0)<| if(set_.fdiv (2 ^ (min a.toNat (cb.bits))))=0 then some (cc out) else if(H7 .and .i64 (set_.fdiv (2 ^ (min a.toNat (cb.bits)))) 1)=1 then ck (out.length+1<1099511627776)<| some (cd ((out++[a]),cb.wrap (a+1))) else some (cd (out,cb.wrap (a+1)))
def Jp(set_:Int)(v:AU×Int):Option (AU):=JZ (fun v=>Gh set_ v.1 v.2) v
def Io(set_:Int):Option (AU):= (Jp set_ ([],0)).bind fun AV=> some AV
def YU:SC:= .seq (.seq (.ops [oM 5 0 3,oM 6 4 3,oB 7 .shr 3 (tK 5) (tK 6) 3 3,oB 8 .neq 3 (tK 7) (iK 0) 3 4]) (.cond (tK 8) .skip (.exit 0))) (.seq (.block 1 (.seq (.ops [oM 11 0 3,oM 12 4 3,oB 13 .shr 3 (tK 11) (tK 12) 3 3,oB 14 .and 3 (tK 13) (iK 1) 3 3,oB 15 .eql 3 (tK 14) (iK 1) 3 4]) (.cond (tK 15) (.ops [oM 16 3 26,oM 17 4 3,oX 18 (.buildSlice 26 1 #[(0,(tK 17))]) 26,oX 19 (.call ⟨(.builtin .append), #[(tK 16),(tK 18)], #[26,26]⟩) 26,oA 3 19 26]) .skip))) (.ops [oM 9 4 3,oB 10 .add 3 (tK 9) (iK 1) 3 3,oA 4 10 3]))
def nJ:SC:= .loop YU
def k53:SC:= .seq (.ops [oX 2 Iy 26]) (.seq (.ops [oX 3 Iy 26]) (.seq (.seq (.ops [oX 4 (.assign (iK 0)) 3]) (.block 0 nJ)) (.seq (.ops [oM 20 3 26,oA 2 20 26]) .ret)))
theorem A1w:Try.f53.body.map (Bt lends)=some k53:=by kernel_rfl
theorem ADz:CW Try.f53 1=true:=by kernel_rfl
theorem c53{a l:List D}{r:D×List D}(h:CU Y.env k53 (Gq AZ l.length [ci 2] r) (entry a l))(ha:a.length=1):Y.call 53 a l=some r:=
 AY (Y:=Y) rfl Try.func53 (ha▸ADz) A1w h
def EG(set_:Int)(out:AU)(a:Int)(s:St):Prop:=s.v 0=bh .i64 set_∧s.v 3=cg 3 (AP (bh .i64) out)∧s.v 4=bh .i64 a
def F4(set_:Int)(r:AU)(ex:Ex)(s:St):Prop:=ex= .exit 0∧s.v 3=cg 3 (AP (bh .i64) r)
theorem RF(set_:Int){v:AU×Int}{s:St}{r:AU}(h:Jp set_ v=some r)(hM:EG set_ v.1 v.2 s):CU Y.env nJ (F4 set_ r) s:=by
 unfold Jp at h;refine CF (c:=YU) (fun v=>Gh set_ v.1 v.2) (fun v s=>EG set_ v.1 v.2 s) (F4 set_) ?_ h hM;clear h hM s v r;intro v s o hM h;obtain⟨out,a⟩:=v;dsimp only at h hM;unfold Gh at h;unfold EG at hM;obtain⟨m0,m1,m2⟩:=hM;unfold YU;obtain⟨e1,h⟩:=Cb h;by_cases e2:(set_.fdiv (2 ^ (min a.toNat (cb.bits))))=0
 ·rw [if_pos e2]at h
  obtain rfl:=Option.some.inj h
  simp (maxDischargeDepth:=9) only [↓AQ,AR,Aj,↓reduceIte,bk,bl,bm,bo,bp,br,bt,bw,bx,bO,b3,b4,b5,b6,b7,b8,b9,m0,m1,m2,e1,decide_eq_true e2,EG,F4,Cx,Cy,Cz]<;>(repeat' apply A7)<;>first|rfl|exact⟨_,rfl⟩|exact⟨_,_,rfl⟩|simp [AP,AC]
 ·rw [if_neg e2]at h;by_cases e3:(H7 .and .i64 (set_.fdiv (2 ^ (min a.toNat (cb.bits)))) 1)=1
  ·rw [if_pos e3]at h;obtain⟨e4,h⟩:=Cb h
   obtain rfl:=Option.some.inj h
   simp (maxDischargeDepth:=9) only [↓AQ,AR,Aj,↓reduceIte,bk,bl,bm,bo,bp,br,bt,bw,bx,bO,b3,b4,b5,b6,b7,b8,b9,m0,m1,m2,e1,e2,decide_eq_true e3,e4,EG,F4,Cx,Cy,Cz]<;>(repeat' apply A7)<;>first|rfl|exact⟨_,rfl⟩|exact⟨_,_,rfl⟩|simp [AP,AC]
  ·rw [if_neg e3]at h
   obtain rfl:=Option.some.inj h
   simp (maxDischargeDepth:=9) only [↓AQ,AR,Aj,↓reduceIte,bk,bl,bm,bo,bp,br,bt,bw,bx,bO,b3,b4,b5,b6,b7,b8,b9,m0,m1,m2,e1,e2,e3,EG,F4,Cx,Cy,Cz]<;>(repeat' apply A7)<;>first|rfl|exact⟨_,rfl⟩|exact⟨_,_,rfl⟩|simp [AP,AC]
theorem KG(set_:Int){r:AU}(h:Io set_=some r):Y.call 53 [bh .i64 set_] []=some (cg 3 (AP (bh .i64) r),[]):=by
 refine c53 ?_ rfl;unfold k53;unfold Io at h;obtain⟨AV,hl4,h⟩:=Ao h;try dsimp only at h
 simp (maxDischargeDepth:=9) only [↓AQ,AR,Aj,↓reduceIte,bk,bl,bm,bo,bp,br,bt,bw,bx,bO,b3,b4,b5,b6,b7,b8,b9];refine Bc (RF set_ hl4 ?_) ?_
 ·simp (maxDischargeDepth:=9) only [↓AQ,AR,Aj,↓reduceIte,bk,bl,bm,bo,bp,br,bt,bw,bx,bO,b3,b4,b5,b6,b7,b8,b9,EG]<;>(repeat' apply A7)<;>first|rfl|exact⟨_,rfl⟩|exact⟨_,_,rfl⟩|simp [AP,AC]
 ·intro ex4 s4 hX4;unfold F4 at hX4;obtain⟨rfl,n4_0⟩:=hX4
  obtain rfl:=Option.some.inj h
  simp (maxDischargeDepth:=9) only [↓AQ,AR,Aj,↓reduceIte,bk,bl,bm,bo,bp,br,bt,bw,bx,bO,b3,b4,b5,b6,b7,b8,b9,n4_0]<;>(repeat' apply A7)<;>first|rfl|exact⟨_,rfl⟩|exact⟨_,_,rfl⟩|simp [AP,AC]
def KQ(AA:Int)(AB:Int)(AJ:AX)(AL:AX)(x_:AU)(y:AU):Option (Bool):= (MH AA AB AJ AL x_ y).bind fun aY=> some (!aY.2)
def k99:SC:= .seq (.ops [oX 3 (.box 29 (tK 0)) 0,oX 6 CX 4]) (.seq (.ops [oL 10 29 3 29,oM 11 1 26,oM 12 2 26,oC 13 146 [(tK 10),(tK 11),(tK 12)] [29,26,26] 27,oM 9 13 27,oE 14 9 0 26,oE 15 9 1 4,oA 7 14 26,oA 8 15 4]) (.seq (.ops [oM 16 8 4,oX 17 (.unOp .not 4 (tK 16)) 4,oA 6 17 4]) .ret))
theorem A1x:Try.f99.body.map (Bt lends)=some k99:=by kernel_rfl
theorem AE1:CW Try.f99 3=true:=by kernel_rfl
theorem c99{a l:List D}{r:D×List D}(h:CU Y.env k99 (Gq AZ l.length [ci 6] r) (entry a l))(ha:a.length=3):Y.call 99 a l=some r:=
 AY (Y:=Y) rfl Try.func99 (ha▸AE1) A1x h
theorem QT(AA:Int)(AB:Int)(AJ:AX)(AL:AX)(x_:AU)(y:AU){r:Bool}(h:KQ AA AB AJ AL x_ y=some r):Y.call 99 [cj [bh .i64 AA,bh .i64 AB,ca 26 (AP CO AJ),ca 26 (AP CO AL)],ca 3 (AP (bh .i64) x_),ca 3 (AP (bh .i64) y)] []=some (cf r,[]):=by
 refine c99 ?_ rfl;unfold k99;unfold KQ at h;obtain⟨aY,hl1,h⟩:=Ao h;try dsimp only at h
 have c1:=V9 AA AB AJ AL x_ y hl1
 obtain rfl:=Option.some.inj h
 simp (maxDischargeDepth:=9) only [↓AQ,AR,Aj,↓reduceIte,bk,bl,bm,bo,bp,br,bt,bw,bx,bO,b3,b4,b5,b6,b7,b8,b9,c1]<;>(repeat' apply A7)<;>first|rfl|exact⟨_,rfl⟩|exact⟨_,_,rfl⟩|simp [AP,AC]
def Gv(AA:Int)(AB:Int)(AJ:AX)(AL:AX)(set_:Int)(out:Int)(MC:Int):Option ((Int×Int)⊕(Int)):= if MC<AA then (Io set_).bind fun Uz=> (KQ AA AB AJ AL Uz [MC]).bind fun YV=> if YV=true then ck (¬MC<0)<| some (cd (H7 .or .i64 out (cb.wrap (1*2 ^ (min MC.toNat (cb.bits)))),cb.wrap (MC+1))) else some (cd (out,cb.wrap (MC+1))) else some (cc out)
def LW(AA:Int)(AB:Int)(AJ:AX)(AL:AX)(set_:Int)(v:Int×Int):Option (Int):=JZ (fun v=>Gv AA AB AJ AL set_ v.1 v.2) v
def Ny(AA:Int)(AB:Int)(AJ:AX)(AL:AX)(set_:Int):Option (Int):= (LW AA AB AJ AL set_ (0,0)).bind fun AV=> some AV
abbrev jZ:List Nat:=[12,13,14,15,16,15,6,17]
def YW:SC:= .seq (.ops [oB 10 .lss 3 (tK 9) (tK 8) 3 4]) (.seq (.cond (tK 10) .skip (.exit 0)) (.seq (.block 1 (.seq (.ops [oM 11 9 3,oA 6 11 3]) (.seq (.draws [(⟨[12,2,2],jZ,[12]⟩,oL 12 29 2 29),(⟨[13,1,1],jZ,[13]⟩,oM 13 1 3),(⟨[14,13,1],jZ,[14]⟩,oC 14 53 [(tK 13)] [3] 26),(⟨[15,6,6],jZ,[15]⟩,oM 15 6 3),(⟨[16,15,6],jZ,[16,15,6]⟩,oX 16 (.buildSlice 26 1 #[(0,(tK 15))]) 26),(⟨[17,12,14,16,2,14,16],jZ,[17]⟩,oC 17 99 [(tK 12),(tK 14),(tK 16)] [29,26,26] 4)]) (.cond (tK 17) (.ops [oM 18 5 3,oM 19 6 3,oB 20 .shl 3 (iK 1) (tK 19) 3 3,oB 21 .or 3 (tK 18) (tK 20) 3 3,oA 5 21 3]) .skip)))) (.ops [oB 22 .add 3 (tK 9) (iK 1) 3 3,oM 9 22 3])))
def nK:SC:= .loop YW
def k54:SC:= .seq (.ops [oX 2 (.box 29 (tK 0)) 0,oX 4 (.assign (iK 0)) 3]) (.seq (.ops [oX 5 (.assign (iK 0)) 3]) (.seq (.seq (.ops [oF 7 29 2 0,oL 8 3 7 3,oX 9 (.move (iK 0)) 3]) (.block 0 nK)) (.seq (.ops [oM 23 5 3,oA 4 23 3]) .ret)))
theorem A1y:Try.f54.body.map (Bt lends)=some k54:=by kernel_rfl
theorem AE3:CW Try.f54 2=true:=by kernel_rfl
theorem c54{a l:List D}{r:D×List D}(h:CU Y.env k54 (Gq AZ l.length [ci 4] r) (entry a l))(ha:a.length=2):Y.call 54 a l=some r:=
 AY (Y:=Y) rfl Try.func54 (ha▸AE3) A1y h
def FT(AA:Int)(AB:Int)(AJ:AX)(AL:AX)(set_:Int)(out:Int)(MC:Int)(s:St):Prop:=s.v 1=bh .i64 set_∧s.v 2=ct [bh .i64 AA,bh .i64 AB,ca 26 (AP CO AJ),ca 26 (AP CO AL)]∧s.v 5=bh .i64 out∧s.v 8=bh .i64 AA∧s.v 9=bh .i64 MC
def Gw(AA:Int)(AB:Int)(AJ:AX)(AL:AX)(set_:Int)(r:Int)(ex:Ex)(s:St):Prop:=ex= .exit 0∧s.v 5=bh .i64 r
theorem VC(AA:Int)(AB:Int)(AJ:AX)(AL:AX)(set_:Int){v:Int×Int}{s:St}{r:Int}(h:LW AA AB AJ AL set_ v=some r)(hM:FT AA AB AJ AL set_ v.1 v.2 s):CU Y.env nK (Gw AA AB AJ AL set_ r) s:=by
 unfold LW at h;refine CF (c:=YW) (fun v=>Gv AA AB AJ AL set_ v.1 v.2) (fun v s=>FT AA AB AJ AL set_ v.1 v.2 s) (Gw AA AB AJ AL set_) ?_ h hM;clear h hM s v r;intro v s o hM h;obtain⟨out,MC⟩:=v;dsimp only at h hM;unfold Gv at h;unfold FT at hM;obtain⟨m0,m1,m2,m3,m4⟩:=hM;unfold YW;by_cases e1:MC<AA
 ·rw [if_pos e1]at h;obtain⟨Uz,hl2,h⟩:=Ao h;try dsimp only at h
  have c2:=KG set_ hl2;obtain⟨YV,hl3,h⟩:=Ao h;try dsimp only at h
  have c3:=QT AA AB AJ AL Uz [MC] hl3;simp only [DT,JC,Ff,Ia,La,L9,Je]at c3;by_cases e4:YV=true
  ·rw [if_pos e4]at h;obtain⟨e5,h⟩:=Cb h
   obtain rfl:=Option.some.inj h
   simp (maxDischargeDepth:=9) only [↓AQ,AR,Aj,↓reduceIte,bk,bl,bm,bo,bp,br,bt,bw,bx,bO,b3,b4,b5,b6,b7,b8,b9,m0,m1,m2,m3,m4,e1,c2,c3,e4,e5,FT,Gw,Cx,Cy,Cz]<;>(repeat' apply A7)<;>first|rfl|exact⟨_,rfl⟩|exact⟨_,_,rfl⟩|simp [AP,AC]
  ·rw [if_neg e4]at h;have e4f:YV=false:=Iw.mpr e4
   obtain rfl:=Option.some.inj h
   simp (maxDischargeDepth:=9) only [↓AQ,AR,Aj,↓reduceIte,bk,bl,bm,bo,bp,br,bt,bw,bx,bO,b3,b4,b5,b6,b7,b8,b9,m0,m1,m2,m3,m4,e1,c2,c3,e4f,FT,Gw,Cx,Cy,Cz]<;>(repeat' apply A7)<;>first|rfl|exact⟨_,rfl⟩|exact⟨_,_,rfl⟩|simp [AP,AC]
 ·rw [if_neg e1]at h
  obtain rfl:=Option.some.inj h
  simp (maxDischargeDepth:=9) only [↓AQ,AR,Aj,↓reduceIte,bk,bl,bm,bo,bp,br,bt,bw,bx,bO,b3,b4,b5,b6,b7,b8,b9,m0,m1,m2,m3,m4,e1,FT,Gw,Cx,Cy,Cz]<;>(repeat' apply A7)<;>first|rfl|exact⟨_,rfl⟩|exact⟨_,_,rfl⟩|simp [AP,AC]
theorem WN(AA:Int)(AB:Int)(AJ:AX)(AL:AX)(set_:Int){r:Int}(h:Ny AA AB AJ AL set_=some r):Y.call 54 [cj [bh .i64 AA,bh .i64 AB,ca 26 (AP CO AJ),ca 26 (AP CO AL)],bh .i64 set_] []=some (bh .i64 r,[]):=by
 refine c54 ?_ rfl;unfold k54;unfold Ny at h;obtain⟨AV,hl2,h⟩:=Ao h;try dsimp only at h
 simp (maxDischargeDepth:=9) only [↓AQ,AR,Aj,↓reduceIte,bk,bl,bm,bo,bp,br,bt,bw,bx,bO,b3,b4,b5,b6,b7,b8,b9];refine Bc (VC AA AB AJ AL set_ hl2 ?_) ?_
 ·simp (maxDischargeDepth:=9) only [↓AQ,AR,Aj,↓reduceIte,bk,bl,bm,bo,bp,br,bt,bw,bx,bO,b3,b4,b5,b6,b7,b8,b9,FT]<;>(repeat' apply A7)<;>first|rfl|exact⟨_,rfl⟩|exact⟨_,_,rfl⟩|simp [AP,AC]
 ·intro ex2 s2 hX2;unfold Gw at hX2;obtain⟨rfl,n2_0⟩:=hX2
  obtain rfl:=Option.some.inj h
  simp (maxDischargeDepth:=9) only [↓AQ,AR,Aj,↓reduceIte,bk,bl,bm,bo,bp,br,bt,bw,bx,bO,b3,b4,b5,b6,b7,b8,b9,n2_0]<;>(repeat' apply A7)<;>first|rfl|exact⟨_,rfl⟩|exact⟨_,_,rfl⟩|simp [AP,AC]
def Ag(slices:List AX)(size:Int)(CZ:Int):Option ((Int×Int)⊕(Int)):= if CZ<(slices.length:Int)then ck (0≤CZ∧CZ.toNat<slices.length)<| if(cb.wrap (size+((slices.getD CZ.toNat bj).length:Int)))<0 then none else some (cd (cb.wrap (size+((slices.getD CZ.toNat bj).length:Int)),cb.wrap (CZ+1))) else some (cc size)
def CK(slices:List AX)(v:Int×Int):Option (Int):=JZ (fun v=>Ag slices v.1 v.2) v
def Ah(slices:List AX)(newslice:AX)(WO:Int):Option ((AX×Int)⊕(AX)):= if WO<(slices.length:Int)then ck (0≤WO∧WO.toNat<slices.length)<| ck (newslice.length+(slices.getD WO.toNat bj).length<1099511627776)<| some (cd ((newslice++(slices.getD WO.toNat bj)),cb.wrap (WO+1))) else some (cc newslice)
def CL(slices:List AX)(v:AX×Int):Option (AX):=JZ (fun v=>Ah slices v.1 v.2) v
def Ch(slices:List AX):Option (AX):= (CK slices (0,0)).bind fun AV=> ck (0≤AV∧AV<1099511627776)<| (CL slices ([],0)).bind fun Ev=> some Ev
def YX:SC:= .seq (.ops [oB 12 .lss 3 (tK 11) (tK 10) 3 0]) (.seq (.cond (tK 12) .skip (.exit 0)) (.seq (.block 1 (.seq (.ops [oI 13 115 9 11,oL 14 22 13 22,oA 5 14 22]) (.seq (.ops [oM 15 3 3,oM 16 5 22,oN 17 16 22,oB 18 .add 3 (tK 15) (tK 17) 3 3,oA 3 18 3]) (.seq (.ops [oM 19 3 3,oB 20 .lss 3 (tK 19) (iK 0) 3 4]) (.cond (tK 20) (.ops [oX 21 (.makeInterface 9 (.const (.string {data:= #[108,101,110,32,111,117,116,32,111,102,32,114,97,110,103,101]}))) 20,⟨none,(.panic (tK 21)),0,none⟩]) .skip))))) (.ops [oB 22 .add 3 (tK 11) (iK 1) 3 3,oM 11 22 3])))
def nL:SC:= .loop YX
def YY:SC:= .seq (.ops [oB 28 .lss 3 (tK 27) (tK 26) 3 0]) (.seq (.cond (tK 28) .skip (.exit 2)) (.seq (.block 3 (.seq (.ops [oI 29 115 25 27,oL 30 22 29 22,oA 8 30 22]) (.ops [oM 31 6 22,oM 32 8 22,oX 33 (.call ⟨(.builtin .append), #[(tK 31),(tK 32)], #[22,22]⟩) 22,oA 6 33 22]))) (.ops [oB 34 .add 3 (tK 27) (iK 1) 3 3,oM 27 34 3])))
def nM:SC:= .loop YY
def k55:SC:= .seq (.ops [oX 2 Iy 22]) (.seq (.ops [oX 3 (.assign (iK 0)) 3]) (.seq (.seq (.ops [oM 9 0 115,oN 10 9 115,oX 11 (.move (iK 0)) 3]) (.block 0 nL)) (.seq (.ops [oM 23 3 3,oC 24 100 [(.const (.slice none 0 0)),(tK 23)] [22,3] 900013,oA 6 24 22]) (.seq (.seq (.ops [oM 25 0 115,oN 26 25 115,oX 27 (.move (iK 0)) 3]) (.block 2 nM)) (.seq (.ops [oM 35 6 22,oA 2 35 22]) .ret)))))
theorem A1z:Try.f55.body.map (Bt lends)=some k55:=by kernel_rfl
theorem AE5:CW Try.f55 1=true:=by kernel_rfl
theorem c55{a l:List D}{r:D×List D}(h:CU Y.env k55 (Gq AZ l.length [ci 2] r) (entry a l))(ha:a.length=1):Y.call 55 a l=some r:=
 AY (Y:=Y) rfl Try.func55 (ha▸AE5) A1z h
def Bg(slices:List AX)(size:Int)(CZ:Int)(s:St):Prop:=s.v 0=ca 22 (AP (fun x=>ca 26 (AP CO x)) slices)∧s.v 3=bh .i64 size∧s.v 9=ca 22 (AP (fun x=>ca 26 (AP CO x)) slices)∧s.v 10=bh .i64 (slices.length:Int)∧s.v 11=bh .i64 CZ
def Bv(slices:List AX)(r:Int)(ex:Ex)(s:St):Prop:=ex= .exit 0∧s.v 0=ca 22 (AP (fun x=>ca 26 (AP CO x)) slices)∧s.v 3=bh .i64 r
theorem JM(slices:List AX){v:Int×Int}{s:St}{r:Int}(h:CK slices v=some r)(hM:Bg slices v.1 v.2 s):CU Y.env nL (Bv slices r) s:=by
 unfold CK at h;refine CF (c:=YX) (fun v=>Ag slices v.1 v.2) (fun v s=>Bg slices v.1 v.2 s) (Bv slices) ?_ h hM;clear h hM s v r;intro v s o hM h;obtain⟨size,CZ⟩:=v;dsimp only at h hM;unfold Ag at h;unfold Bg at hM;obtain⟨m0,m1,m2,m3,m4⟩:=hM;unfold YX;by_cases e1:CZ<(slices.length:Int)
 ·rw [if_pos e1]at h;obtain⟨e2,h⟩:=Cb h;by_cases e3:(cb.wrap (size+((slices.getD CZ.toNat bj).length:Int)))<0
  ·rw [if_pos e3]at h;cases h
  ·rw [if_neg e3]at h
   obtain rfl:=Option.some.inj h
   simp (maxDischargeDepth:=9) only [↓AQ,AR,Aj,↓reduceIte,bk,bl,bm,bo,bp,br,bt,bw,bx,bO,b3,b4,b5,b6,b7,b8,b9,m0,m1,m2,m3,m4,e1,e2.1,e2.2,e3,Bg,Bv,Cx,Cy,Cz]<;>(repeat' apply A7)<;>first|rfl|exact⟨_,rfl⟩|exact⟨_,_,rfl⟩|simp [AP,AC]
 ·rw [if_neg e1]at h
  obtain rfl:=Option.some.inj h
  simp (maxDischargeDepth:=9) only [↓AQ,AR,Aj,↓reduceIte,bk,bl,bm,bo,bp,br,bt,bw,bx,bO,b3,b4,b5,b6,b7,b8,b9,m0,m1,m2,m3,m4,e1,Bg,Bv,Cx,Cy,Cz]<;>(repeat' apply A7)<;>first|rfl|exact⟨_,rfl⟩|exact⟨_,_,rfl⟩|simp [AP,AC]
def Bh(slices:List AX)(newslice:AX)(WO:Int)(s:St):Prop:=s.v 6=cg 26 (AP CO newslice)∧s.v 25=ca 22 (AP (fun x=>ca 26 (AP CO x)) slices)∧s.v 26=bh .i64 (slices.length:Int)∧s.v 27=bh .i64 WO
def Bw(slices:List AX)(r:AX)(ex:Ex)(s:St):Prop:=ex= .exit 2∧s.v 6=cg 26 (AP CO r)
theorem JN(slices:List AX){v:AX×Int}{s:St}{r:AX}(h:CL slices v=some r)(hM:Bh slices v.1 v.2 s):CU Y.env nM (Bw slices r) s:=by
 unfold CL at h;refine CF (c:=YY) (fun v=>Ah slices v.1 v.2) (fun v s=>Bh slices v.1 v.2 s) (Bw slices) ?_ h hM;clear h hM s v r;intro v s o hM h;obtain⟨newslice,WO⟩:=v;dsimp only at h hM;unfold Ah at h;unfold Bh at hM;obtain⟨m0,m1,m2,m3⟩:=hM;unfold YY;by_cases e5:WO<(slices.length:Int)
 ·rw [if_pos e5]at h;obtain⟨e6,h⟩:=Cb h;obtain⟨e7,h⟩:=Cb h
  obtain rfl:=Option.some.inj h
  simp (maxDischargeDepth:=9) only [↓AQ,AR,Aj,↓reduceIte,bk,bl,bm,bo,bp,br,bt,bw,bx,bO,b3,b4,b5,b6,b7,b8,b9,m0,m1,m2,m3,e5,e6.1,e6.2,e7,Bh,Bw,Cx,Cy,Cz]<;>(repeat' apply A7)<;>first|rfl|exact⟨_,rfl⟩|exact⟨_,_,rfl⟩|simp [AP,AC]
 ·rw [if_neg e5]at h
  obtain rfl:=Option.some.inj h
  simp (maxDischargeDepth:=9) only [↓AQ,AR,Aj,↓reduceIte,bk,bl,bm,bo,bp,br,bt,bw,bx,bO,b3,b4,b5,b6,b7,b8,b9,m0,m1,m2,m3,e5,Bh,Bw,Cx,Cy,Cz]<;>(repeat' apply A7)<;>first|rfl|exact⟨_,rfl⟩|exact⟨_,_,rfl⟩|simp [AP,AC]
theorem Cf(slices:List AX){r:AX}(h:Ch slices=some r):Y.call 55 [ca 22 (AP (fun x=>ca 26 (AP CO x)) slices)] []=some (cg 26 (AP CO r),[]):=by
 refine c55 ?_ rfl;unfold k55;unfold Ch at h;obtain⟨AV,hl2,h⟩:=Ao h;try dsimp only at h
 simp (maxDischargeDepth:=9) only [↓AQ,AR,Aj,↓reduceIte,bk,bl,bm,bo,bp,br,bt,bw,bx,bO,b3,b4,b5,b6,b7,b8,b9];refine Bc (JM slices hl2 ?_) ?_
 ·simp (maxDischargeDepth:=9) only [↓AQ,AR,Aj,↓reduceIte,bk,bl,bm,bo,bp,br,bt,bw,bx,bO,b3,b4,b5,b6,b7,b8,b9,Bg]<;>(repeat' apply A7)<;>first|rfl|exact⟨_,rfl⟩|exact⟨_,_,rfl⟩|simp [AP,AC]
 ·intro ex2 s2 hX2;unfold Bv at hX2;obtain⟨rfl,n2_0,n2_1⟩:=hX2;obtain⟨e3,h⟩:=Cb h;have c4:=mY AV e3;obtain⟨Ev,hl6,h⟩:=Ao h;try dsimp only at h
  simp (maxDischargeDepth:=9) only [↓AQ,AR,Aj,↓reduceIte,bk,bl,bm,bo,bp,br,bt,bw,bx,bO,b3,b4,b5,b6,b7,b8,b9,n2_0,n2_1,e3.1,e3.2,c4];refine Bc (JN slices hl6 ?_) ?_
  ·simp (maxDischargeDepth:=9) only [↓AQ,AR,Aj,↓reduceIte,bk,bl,bm,bo,bp,br,bt,bw,bx,bO,b3,b4,b5,b6,b7,b8,b9,n2_0,n2_1,e3.1,e3.2,c4,Bh]<;>(repeat' apply A7)<;>first|rfl|exact⟨_,rfl⟩|exact⟨_,_,rfl⟩|simp [AP,AC]
  ·intro ex6 s6 hX6;unfold Bw at hX6;obtain⟨rfl,n6_0⟩:=hX6
   obtain rfl:=Option.some.inj h
   simp (maxDischargeDepth:=9) only [↓AQ,AR,Aj,↓reduceIte,bk,bl,bm,bo,bp,br,bt,bw,bx,bO,b3,b4,b5,b6,b7,b8,b9,e3.1,e3.2,c4,n6_0]<;>(repeat' apply A7)<;>first|rfl|exact⟨_,rfl⟩|exact⟨_,_,rfl⟩|simp [AP,AC]
def Dx(rec_:Int→AU→AX→Option (Bool×AU))(k:Int)(c0_:AX)(YZ:Int)(t100000_0:AU):Option ((Int×AU)⊕((AU)⊕(AU))):= if YZ<((c0_.getD k.toNat bj).length:Int)then ck (0≤YZ∧YZ.toNat<(c0_.getD k.toNat bj).length)<| ck (0≤k∧k.toNat<t100000_0.length)<| (rec_ (cb.wrap (k+1)) (t100000_0.set k.toNat ((c0_.getD k.toNat bj).getD YZ.toNat bj)) c0_).bind fun ja=> if ja.1=true then some (cc (cd ja.2)) else some (cd (cb.wrap (YZ+1),ja.2)) else some (cc (cc t100000_0))
def GZ(rec_:Int→AU→AX→Option (Bool×AU))(k:Int)(c0_:AX)(v:Int×AU):Option ((AU)⊕(AU)):=JZ (fun v=>Dx rec_ k c0_ v.1 v.2) v
def DW(rec_:Int→AU→AX→Option (Bool×AU))(k:Int)(o0_:AU)(c0_:AX)(c1_:AU→Option Bool):Option (Bool×AU):=
 if k=(c0_.length:Int)then
  (c1_ o0_).bind fun Sb=>
  some (Sb,o0_)
 else
  ck (0≤k∧k.toNat<c0_.length)<|
  (GZ rec_ k c0_ (0,o0_)).bind fun AV=>
  match AV with
  | .inl q1000_=>
   some (true,q1000_)
  | .inr q1000_=>
   some (false,q1000_)
def Bq(c1_:AU→Option Bool):Nat→Int→AU→AX→Option (Bool×AU) |0=>fun _ _ _=>none |n+1=>fun k o0_ c0_=>DW (Bq c1_ n) k o0_ c0_ c1_
def KH(k:Int)(o0_:AU)(c0_:AX)(c1_:AU→Option Bool):Option (Bool×AU):=Bq c1_ 1000000 k o0_ c0_
def VD:SC:= .seq (.ops [oB 22 .lss 3 (tK 21) (tK 20) 3 0]) (.seq (.cond (tK 22) .skip (.exit 0)) (.seq (.block 1 (.seq (.ops [oI 23 26 19 21,oL 24 3 23 3,oA 8 24 3]) (.seq (.ops [oL 25 26 3 26,oM 26 0 3,oM 27 8 3,oI 28 26 25 26,oS 3 28 27]) (.seq (.ops [oL 29 87 4 87,oM 30 0 3,oB 31 .add 3 (tK 30) (iK 1) 3 3,oX 32 (.call ⟨(.value (tK 29)), #[(tK 31)], #[3]⟩) 4]) (.cond (tK 32) (.seq (.ops [oX 6 (.assign H6) 4]) .ret) .skip))))) (.ops [oB 33 .add 3 (tK 21) (iK 1) 3 3,oM 21 33 3])))
def gF:SC:= .loop VD
def A20:SC:= .seq (.ops [oX 6 CX 4]) (.seq (.seq (.ops [oM 9 0 3,oL 10 22 1 22,oN 11 10 22,oB 12 .eql 3 (tK 9) (tK 11) 3 4]) (.cond (tK 12) (.seq (.ops [oL 13 96 2 96,oL 14 26 3 26,oX 15 (.call ⟨(.value (tK 13)), #[(tK 14)], #[26]⟩) 4,oA 6 15 4]) .ret) .skip)) (.seq (.seq (.ops [oL 16 22 1 22,oM 17 0 3,oI 18 22 16 17,oL 19 26 18 26,oN 20 19 26,oX 21 (.move (iK 0)) 3]) (.block 0 gF)) (.seq (.ops [oX 6 CX 4]) .ret)))
theorem rH:Try.f149.body.map (Bt lends)=some A20:=by kernel_rfl
theorem A8k:CW Try.f149 5=true:=by kernel_rfl
theorem AE6{a l:List D}{r:D×List D}(h:CU Y.env A20 (Gq AZ l.length [ci 6] r) (entry a l))(ha:a.length=5):Y.call 149 a l=some r:=
 AY (Y:=Y) rfl Try.func149 (ha▸A8k) rH h
def Ci(rec_:Int→AU→AX→Option (Bool×AU))(k:Int)(c0_:AX)(c1__f:FuncId)(c1__c:List D)(YZ:Int)(t100000_0:AU)(s:St):Prop:=s.v 0=bh .i64 k∧(∃w_,s.v 3=D.vw [100000] (s.k 100000) w_)∧(∃w_,s.v 4=D.ocl true 149 [cv [ca 26 (AP CO c0_)],cv [D.clo c1__f c1__c],D.vw [100000] (s.k 100000) w_,D.undef])∧s.v 19=ca 3 (AP (bh .i64) (c0_.getD k.toNat bj))∧s.v 20=bh .i64 ((c0_.getD k.toNat bj).length:Int)∧s.v 21=bh .i64 YZ∧s.v 100000=ct [cg 3 (AP (bh .i64) t100000_0)]
def Cj(rec_:Int→AU→AX→Option (Bool×AU))(k:Int)(c0_:AX)(c1__f:FuncId)(c1__c:List D)(r:(AU)⊕(AU))(ex:Ex)(s:St):Prop:=match r with
 | .inl q=>ex= .ret∧s.v 6=cf true∧s.v 100000=ct [cg 3 (AP (bh .i64) q)]
 | .inr q=>ex= .exit 0∧s.v 100000=ct [cg 3 (AP (bh .i64) q)]
theorem NA(rec_:Int→AU→AX→Option (Bool×AU))(k:Int)(c0_:AX)(c1__f:FuncId)(c1__c:List D)(rec_h: ∀(k:Int) (o0_:AU) (c0_:AX) (r:Bool×AU),rec_ k o0_ c0_=some r→Y.call 149 [bh .i64 k,cv [ca 26 (AP CO c0_)],cv [D.clo c1__f c1__c],D.vw [100000] 0 0,D.ocl true 149 [cv [ca 26 (AP CO c0_)],cv [D.clo c1__f c1__c],D.vw [100000] 0 0,D.undef]] [ct [cg 3 (AP (bh .i64) o0_)]]=some (cf r.1,[ct [cg 3 (AP (bh .i64) r.2)]])){v:Int×AU}{s:St}{r:(AU)⊕(AU)}(h:GZ rec_ k c0_ v=some r)(hM:Ci rec_ k c0_ c1__f c1__c v.1 v.2 s):CU Y.env gF (Cj rec_ k c0_ c1__f c1__c r) s:=by
 unfold GZ at h;refine CF (c:=VD) (fun v=>Dx rec_ k c0_ v.1 v.2) (fun v s=>Ci rec_ k c0_ c1__f c1__c v.1 v.2 s) (Cj rec_ k c0_ c1__f c1__c) ?_ h hM;clear h hM s v r;intro v s o hM h;obtain⟨YZ,t100000_0⟩:=v;dsimp only at h hM;unfold Dx at h;unfold Ci at hM;obtain⟨m0,⟨w1_,m1⟩,⟨w2_,m2⟩,m3,m4,m5,m6⟩:=hM;unfold VD;by_cases e3:YZ<((c0_.getD k.toNat bj).length:Int)
 ·rw [if_pos e3]at h;obtain⟨e4,h⟩:=Cb h;obtain⟨e5,h⟩:=Cb h;obtain⟨ja,hl6,h⟩:=Ao h;try dsimp only at h
  have c6:=rec_h _ _ _ _ hl6;by_cases e7:ja.1=true
  ·rw [if_pos e7]at h
   obtain rfl:=Option.some.inj h
   simp (maxDischargeDepth:=9) only [↓AQ,AR,Aj,↓reduceIte,bk,bl,bm,bo,bp,br,bt,bw,bx,bO,b3,b4,b5,b6,b7,b8,b9,m0,m1,m2,m3,m4,m5,m6,e3,e4.1,e4.2,e5.1,e5.2,c6,e7,Ci,Cj,Cx,Cy,Cz]<;>(repeat' apply A7)<;>first|rfl|exact⟨_,rfl⟩|exact⟨_,_,rfl⟩|simp [AP,AC]
  ·rw [if_neg e7]at h;have e7f:ja.1=false:=Iw.mpr e7
   obtain rfl:=Option.some.inj h
   simp (maxDischargeDepth:=9) only [↓AQ,AR,Aj,↓reduceIte,bk,bl,bm,bo,bp,br,bt,bw,bx,bO,b3,b4,b5,b6,b7,b8,b9,m0,m1,m2,m3,m4,m5,m6,e3,e4.1,e4.2,e5.1,e5.2,c6,e7f,Ci,Cj,Cx,Cy,Cz]<;>(repeat' apply A7)<;>first|rfl|exact⟨_,rfl⟩|exact⟨_,_,rfl⟩|simp [AP,AC]
 ·rw [if_neg e3]at h
  obtain rfl:=Option.some.inj h
  simp (maxDischargeDepth:=9) only [↓AQ,AR,Aj,↓reduceIte,bk,bl,bm,bo,bp,br,bt,bw,bx,bO,b3,b4,b5,b6,b7,b8,b9,m0,m1,m2,m3,m4,m5,m6,e3,Ci,Cj,Cx,Cy,Cz]<;>(repeat' apply A7)<;>first|rfl|exact⟨_,rfl⟩|exact⟨_,_,rfl⟩|simp [AP,AC]
theorem Ml(rec_:Int→AU→AX→Option (Bool×AU))(k:Int)(o0_:AU)(c0_:AX)(c1_:AU→Option Bool)(c1__f:FuncId)(c1__c:List D)(rec_h: ∀(k:Int) (o0_:AU) (c0_:AX) (r:Bool×AU),rec_ k o0_ c0_=some r→Y.call 149 [bh .i64 k,cv [ca 26 (AP CO c0_)],cv [D.clo c1__f c1__c],D.vw [100000] 0 0,D.ocl true 149 [cv [ca 26 (AP CO c0_)],cv [D.clo c1__f c1__c],D.vw [100000] 0 0,D.undef]] [ct [cg 3 (AP (bh .i64) o0_)]]=some (cf r.1,[ct [cg 3 (AP (bh .i64) r.2)]]))(c1__h: ∀(a0:AU) (r:Bool),c1_ a0=some r→Y.call c1__f (ca 3 (AP (bh .i64) a0)::c1__c) []=some (cf r,[]))(c1__l:lends c1__f=false){r:Bool×AU}(h:DW rec_ k o0_ c0_ c1_=some r):Y.call 149 [bh .i64 k,cv [ca 26 (AP CO c0_)],cv [D.clo c1__f c1__c],D.vw [100000] 0 0,D.ocl true 149 [cv [ca 26 (AP CO c0_)],cv [D.clo c1__f c1__c],D.vw [100000] 0 0,D.undef]] [ct [cg 3 (AP (bh .i64) o0_)]]=some (cf r.1,[ct [cg 3 (AP (bh .i64) r.2)]]):=by
 refine AE6 ?_ rfl;unfold A20;unfold DW at h;by_cases e1:k=(c0_.length:Int)
 ·rw [if_pos e1]at h;obtain⟨Sb,hl2,h⟩:=Ao h;try dsimp only at h
  have c2:=c1__h _ _ hl2
  obtain rfl:=Option.some.inj h
  simp (maxDischargeDepth:=9) only [↓AQ,AR,Aj,↓reduceIte,bk,bl,bm,bo,bp,br,bt,bw,bx,bO,b3,b4,b5,b6,b7,b8,b9,c1__l,decide_eq_true e1,c2]<;>(repeat' apply A7)<;>first|rfl|exact⟨_,rfl⟩|exact⟨_,_,rfl⟩|simp [AP,AC]
 ·rw [if_neg e1]at h;obtain⟨e2,h⟩:=Cb h;obtain⟨AV,hl4,h⟩:=Ao h;try dsimp only at h
  simp (maxDischargeDepth:=9) only [↓AQ,AR,Aj,↓reduceIte,bk,bl,bm,bo,bp,br,bt,bw,bx,bO,b3,b4,b5,b6,b7,b8,b9,c1__l,e1,e2.1,e2.2];refine Bc (NA rec_ k c0_ c1__f c1__c rec_h hl4 ?_) ?_
  ·simp (maxDischargeDepth:=9) only [↓AQ,AR,Aj,↓reduceIte,bk,bl,bm,bo,bp,br,bt,bw,bx,bO,b3,b4,b5,b6,b7,b8,b9,c1__l,e1,e2.1,e2.2,Ci]<;>(repeat' apply A7)<;>first|rfl|exact⟨_,rfl⟩|exact⟨_,_,rfl⟩|simp [AP,AC]
  ·intro ex4 s4 hX4;rcases AV with q1000_|q1000_
   ·unfold Cj at hX4;dsimp only at hX4 h;obtain⟨rfl,n4_0,n4_1⟩:=hX4
    obtain rfl:=Option.some.inj h
    simp (maxDischargeDepth:=9) only [↓AQ,AR,Aj,↓reduceIte,bk,bl,bm,bo,bp,br,bt,bw,bx,bO,b3,b4,b5,b6,b7,b8,b9,c1__l,e1,e2.1,e2.2,n4_0,n4_1]<;>(repeat' apply A7)<;>first|rfl|exact⟨_,rfl⟩|exact⟨_,_,rfl⟩|simp [AP,AC]
   ·unfold Cj at hX4;dsimp only at hX4 h;obtain⟨rfl,n4_0⟩:=hX4
    obtain rfl:=Option.some.inj h
    simp (maxDischargeDepth:=9) only [↓AQ,AR,Aj,↓reduceIte,bk,bl,bm,bo,bp,br,bt,bw,bx,bO,b3,b4,b5,b6,b7,b8,b9,c1__l,e1,e2.1,e2.2,n4_0]<;>(repeat' apply A7)<;>first|rfl|exact⟨_,rfl⟩|exact⟨_,_,rfl⟩|simp [AP,AC]
theorem Mm(c1_:AU→Option Bool)(c1__f:FuncId)(c1__c:List D)(c1__h: ∀(a0:AU) (r:Bool),c1_ a0=some r→Y.call c1__f (ca 3 (AP (bh .i64) a0)::c1__c) []=some (cf r,[]))(c1__l:lends c1__f=false)(n:Nat): ∀(k:Int) (o0_:AU) (c0_:AX) (r:Bool×AU),Bq c1_ n k o0_ c0_=some r→Y.call 149 [bh .i64 k,cv [ca 26 (AP CO c0_)],cv [D.clo c1__f c1__c],D.vw [100000] 0 0,D.ocl true 149 [cv [ca 26 (AP CO c0_)],cv [D.clo c1__f c1__c],D.vw [100000] 0 0,D.undef]] [ct [cg 3 (AP (bh .i64) o0_)]]=some (cf r.1,[ct [cg 3 (AP (bh .i64) r.2)]]):=by
 induction n with
 |zero=>intro k o0_ c0_ r h;exact absurd h (by rw [Bq];exact fun e=>by cases e)
 |succ n ih=>intro k o0_ c0_ r h;rw [Bq]at h;exact Ml (Bq c1_ n) k o0_ c0_ c1_ c1__f c1__c ih c1__h c1__l h
theorem Nz(k:Int)(o0_:AU)(c0_:AX)(c1_:AU→Option Bool)(c1__f:FuncId)(c1__c:List D)(c1__h: ∀(a0:AU) (r:Bool),c1_ a0=some r→Y.call c1__f (ca 3 (AP (bh .i64) a0)::c1__c) []=some (cf r,[]))(c1__l:lends c1__f=false){r:Bool×AU}(h:KH k o0_ c0_ c1_=some r):Y.call 149 [bh .i64 k,cv [ca 26 (AP CO c0_)],cv [D.clo c1__f c1__c],D.vw [100000] 0 0,D.ocl true 149 [cv [ca 26 (AP CO c0_)],cv [D.clo c1__f c1__c],D.vw [100000] 0 0,D.undef]] [ct [cg 3 (AP (bh .i64) o0_)]]=some (cf r.1,[ct [cg 3 (AP (bh .i64) r.2)]]):=Mm c1_ c1__f c1__c c1__h c1__l 1000000 k o0_ c0_ r h
def IW(lists:AX)(good:AU→Option Bool):Option (AU×Bool):= ck (0≤(lists.length:Int)∧(lists.length:Int)<1099511627776)<| (KH (0:Int) (ao lists.length 0) lists good).bind fun aY=> if aY.1=true then some (aY.2,true) else some ([],false)
def A21:SC:= .seq (.ops [oX 2 (.box 22 (tK 0)) 0,oX 3 (.box 96 (tK 1)) 0,oX 4 Iy 26,oX 5 CX 4]) (.seq (.ops [oL 8 22 2 22,oN 9 8 22,oX 10 (.makeSlice 26 (tK 9) (tK 9)) 26,oX 6 (.alloc 26) 0,oS 26 6 10]) (.seq (.ops [oX 7 (.alloc 87) 0]) (.seq (.ops [oX 11 (.makeFunc (Fn.func 149) #[] #[(tK 2),(tK 3),(tK 6),(tK 7)]) 3000012,⟨none,(.store 87 (tK 7) (tK 11)),900010,none⟩]) (.seq (.seq (.ops [oL 12 87 7 87,oX 13 (.call ⟨(.value (tK 12)), #[(iK 0)], #[3]⟩) 4,oX 14 (.unOp .not 4 (tK 13)) 4]) (.cond (tK 14) (.seq (.ops [oX 4 Iy 26,oX 5 CX 4]) .ret) .skip)) (.seq (.ops [oL 15 26 6 26,oA 4 15 26,oX 5 (.assign H6) 4]) .ret)))))
theorem rJ:Try.f102.body.map (Bt lends)=some A21:=by kernel_rfl
theorem A8l:CW Try.f102 2=true:=by kernel_rfl
theorem AE7{a l:List D}{r:D×List D}(h:CU Y.env A21 (Gq AZ l.length [ci 4,ci 5] r) (entry a l))(ha:a.length=2):Y.call 102 a l=some r:=
 AY (Y:=Y) rfl Try.func102 (ha▸A8l) rJ h
theorem PP(lists:AX)(good:AU→Option Bool)(good_f:FuncId)(good_c:List D)(good_h: ∀(a0:AU) (r:Bool),good a0=some r→Y.call good_f (ca 3 (AP (bh .i64) a0)::good_c) []=some (cf r,[]))(good_l:lends good_f=false){r:AU×Bool}(h:IW lists good=some r):Y.call 102 [ca 26 (AP CO lists),D.clo good_f good_c] []=some (D.tup [cg 3 (AP (bh .i64) r.1),cf r.2],[]):=by
 refine AE7 ?_ rfl;unfold A21;unfold IW at h;obtain⟨e1,h⟩:=Cb h;obtain⟨aY,hl2,h⟩:=Ao h;try dsimp only at h
 have c2:=Nz (0:Int) (ao lists.length 0) lists good good_f good_c good_h good_l hl2;by_cases e3:aY.1=true
 ·rw [if_pos e3]at h
  obtain rfl:=Option.some.inj h
  simp (maxDischargeDepth:=9) only [↓AQ,AR,Aj,↓reduceIte,bk,bl,bm,bo,bp,br,bt,bw,bx,bO,b3,b4,b5,b6,b7,b8,b9,good_l,e1.1,e1.2,c2,e3]<;>(repeat' apply A7)<;>first|rfl|exact⟨_,rfl⟩|exact⟨_,_,rfl⟩|simp [AP,AC]
 ·rw [if_neg e3]at h;have e3f:aY.1=false:=Iw.mpr e3
  obtain rfl:=Option.some.inj h
  simp (maxDischargeDepth:=9) only [↓AQ,AR,Aj,↓reduceIte,bk,bl,bm,bo,bp,br,bt,bw,bx,bO,b3,b4,b5,b6,b7,b8,b9,good_l,e1.1,e1.2,c2,e3f]<;>(repeat' apply A7)<;>first|rfl|exact⟨_,rfl⟩|exact⟨_,_,rfl⟩|simp [AP,AC]
def JO(AA:Int)(AB:Int)(AJ:AX)(AL:AX)(labels:AU):Option (Bool):= ck (BR AJ)<| ck (labels.length<1099511627776)<| ck (PO AJ=true)<| some (AJ.contains (KM labels))
def A22:SC:= .seq (.ops [oX 2 (.box 29 (tK 0)) 0,oX 4 CX 4]) (.seq (.ops [oF 5 29 2 2,oL 6 22 5 22,oM 7 1 26,oC 8 137 [(tK 6),(tK 7)] [22,26] 4,oA 4 8 4]) .ret)
theorem rM:Try.f104.body.map (Bt lends)=some A22:=by kernel_rfl
theorem A8m:CW Try.f104 2=true:=by kernel_rfl
theorem AE8{a l:List D}{r:D×List D}(h:CU Y.env A22 (Gq AZ l.length [ci 4] r) (entry a l))(ha:a.length=2):Y.call 104 a l=some r:=
 AY (Y:=Y) rfl Try.func104 (ha▸A8m) rM h
theorem Oc(AA:Int)(AB:Int)(AJ:AX)(AL:AX)(labels:AU){r:Bool}(h:JO AA AB AJ AL labels=some r):Y.call 104 [cj [bh .i64 AA,bh .i64 AB,ca 26 (AP CO AJ),ca 26 (AP CO AL)],ca 3 (AP (bh .i64) labels)] []=some (cf r,[]):=by
 refine AE8 ?_ rfl;unfold A22;unfold JO at h;obtain⟨e1,h⟩:=Cb h;obtain⟨e2,h⟩:=Cb h;obtain⟨e3,h⟩:=Cb h;have c4:=Jb AJ labels e1 e2 e3
 obtain rfl:=Option.some.inj h
 simp (maxDischargeDepth:=9) only [↓AQ,AR,Aj,↓reduceIte,bk,bl,bm,bo,bp,br,bt,bw,bx,bO,b3,b4,b5,b6,b7,b8,b9,e1,e2,e3,c4]<;>(repeat' apply A7)<;>first|rfl|exact⟨_,rfl⟩|exact⟨_,_,rfl⟩|simp [AP,AC]
def Cq(labels:AU)(c0__0:Int)(c0__1:Int)(c0__2:AX)(c0__3:AX):Option (Bool):= (JO c0__0 c0__1 c0__2 c0__3 labels).bind fun r6_=> some r6_
def A23:SC:= .seq (.ops [oX 3 CX 4]) (.seq (.ops [oL 4 29 1 29,oM 5 0 26,oC 6 104 [(tK 4),(tK 5)] [29,26] 4,oA 3 6 4]) .ret)
theorem rO:Try.f103.body.map (Bt lends)=some A23:=by kernel_rfl
theorem A8n:CW Try.f103 2=true:=by kernel_rfl
theorem AE9{a l:List D}{r:D×List D}(h:CU Y.env A23 (Gq AZ l.length [ci 3] r) (entry a l))(ha:a.length=2):Y.call 103 a l=some r:=
 AY (Y:=Y) rfl Try.func103 (ha▸A8n) rO h
theorem KR(labels:AU)(c0__0:Int)(c0__1:Int)(c0__2:AX)(c0__3:AX){r:Bool}(h:Cq labels c0__0 c0__1 c0__2 c0__3=some r):Y.call 103 [ca 3 (AP (bh .i64) labels),cv [bh .i64 c0__0,bh .i64 c0__1,ca 26 (AP CO c0__2),ca 26 (AP CO c0__3)]] []=some (cf r,[]):=by
 refine AE9 ?_ rfl;unfold A23;unfold Cq at h;obtain⟨r6_,hl1,h⟩:=Ao h;try dsimp only at h
 have c1:=Oc c0__0 c0__1 c0__2 c0__3 labels hl1
 obtain rfl:=Option.some.inj h
 simp (maxDischargeDepth:=9) only [↓AQ,AR,Aj,↓reduceIte,bk,bl,bm,bo,bp,br,bt,bw,bx,bO,b3,b4,b5,b6,b7,b8,b9,c1]<;>(repeat' apply A7)<;>first|rfl|exact⟨_,rfl⟩|exact⟨_,_,rfl⟩|simp [AP,AC]
def DI(AA:Int)(AB:Int)(AJ:AX)(AL:AX)(lists:AX):Option (AU×Bool):= (IW lists (fun a0=>Cq a0 AA AB AJ AL)).bind fun zU=> some (zU.1,zU.2)
def k57:SC:= .seq (.ops [oX 2 (.box 29 (tK 0)) 0,oX 4 Iy 26,oX 5 CX 4]) (.seq (.ops [oM 6 1 22,oX 7 (.makeFunc (Fn.func 103) #[] #[(tK 2)]) 96,oC 8 102 [(tK 6),(tK 7)] [22,96] 27,oE 9 8 0 26,oE 10 8 1 4,oA 4 9 26,oA 5 10 4]) .ret)
theorem A24:Try.f57.body.map (Bt lends)=some k57:=by kernel_rfl
theorem AEB:CW Try.f57 2=true:=by kernel_rfl
theorem c57{a l:List D}{r:D×List D}(h:CU Y.env k57 (Gq AZ l.length [ci 4,ci 5] r) (entry a l))(ha:a.length=2):Y.call 57 a l=some r:=
 AY (Y:=Y) rfl Try.func57 (ha▸AEB) A24 h
theorem Be(AA:Int)(AB:Int)(AJ:AX)(AL:AX)(lists:AX){r:AU×Bool}(h:DI AA AB AJ AL lists=some r):Y.call 57 [cj [bh .i64 AA,bh .i64 AB,ca 26 (AP CO AJ),ca 26 (AP CO AL)],ca 26 (AP CO lists)] []=some (D.tup [cg 3 (AP (bh .i64) r.1),cf r.2],[]):=by
 refine c57 ?_ rfl;unfold k57;unfold DI at h;obtain⟨zU,hl1,h⟩:=Ao h;try dsimp only at h
 have c1:=PP lists (fun a0=>Cq a0 AA AB AJ AL) 103 [cv [bh .i64 AA,bh .i64 AB,ca 26 (AP CO AJ),ca 26 (AP CO AL)]] (fun a0 _ hh=>KR a0 AA AB AJ AL hh) mP hl1
 obtain rfl:=Option.some.inj h
 simp (maxDischargeDepth:=9) only [↓AQ,AR,Aj,↓reduceIte,bk,bl,bm,bo,bp,br,bt,bw,bx,bO,b3,b4,b5,b6,b7,b8,b9,c1]<;>(repeat' apply A7)<;>first|rfl|exact⟨_,rfl⟩|exact⟨_,_,rfl⟩|simp [AP,AC]
def EM(AA:Int)(AB:Int)(AJ:AX)(AL:AX)(set_:Int)(KI:AU)(JH:AU)(good:Bool)(j:Int):Option ((Bool×Int)⊕(Bool)):= if j≤AB then if good=true then (CB [KI] j).bind fun aZ=> (CB [JH] (cb.wrap (AB-j))).bind fun QL=> (Ch [aZ,QL]).bind fun Lg=> (DI AA AB AJ AL Lg).bind fun Mo=> some (cd (Mo.2,cb.wrap (j+1))) else some (cc good) else some (cc good)
def E8(AA:Int)(AB:Int)(AJ:AX)(AL:AX)(set_:Int)(KI:AU)(JH:AU)(v:Bool×Int):Option (Bool):=JZ (fun v=>EM AA AB AJ AL set_ KI JH v.1 v.2) v
def Da(AA:Int)(AB:Int)(AJ:AX)(AL:AX)(set_:Int):Option ((Int)⊕((AU×AU)⊕Unit)):= ck (¬AA<0)<| if set_<(cb.wrap (1*2 ^ (min AA.toNat (cb.bits))))then (Io set_).bind fun KI=> (Ny AA AB AJ AL set_).bind fun Im=> (Io Im).bind fun JH=> (E8 AA AB AJ AL set_ KI JH (true,0)).bind fun AV=> if AV=true then some (cc (cd (KI,JH))) else some (cd (cb.wrap (set_+1))) else some (cc (cc ()))
def E9(AA:Int)(AB:Int)(AJ:AX)(AL:AX)(v:Int):Option ((AU×AU)⊕Unit):=JZ (fun v=>Da AA AB AJ AL v) v
def Hg(AA:Int)(AB:Int)(AJ:AX)(AL:AX):Option (AU×AU×Bool):=
 ck (BR AJ)<|
 ck (BR AL)<|
 if(Il AA AB AJ AL)=true then
  (E9 AA AB AJ AL 1).bind fun Ev=>
  match Ev with
  | .inl q1001_=>
   some (q1001_.1,q1001_.2,true)
  | .inr q1001_=>
   some ([],[],false)
 else
  some ([],[],false)
abbrev QU:List Nat:=[36,37,36,6,38,39,37,38,40,41,40,7,42,43,44,45,46,41,45,47,39,46,39,46,48,47,10,48,48]
def Ya:SC:= .seq (.seq (.ops [oM 27 9 3,oF 28 29 1 1,oL 29 3 28 3,oB 30 .leq 3 (tK 27) (tK 29) 3 4,oM 31 30 4,⟨(some 32),(.move (tK 8)),4,(some (some 31,true))⟩,oX 33 (.pick (tK 31) (tK 32) OZ) 4]) (.cond (tK 33) .skip (.exit 2))) (.seq (.block 3 (.loan [36,37,38,39,40,41,42,43,44,45,46,47,48,10,50,51,52,49,53,54,8] 8 (.draws [(⟨[36,6,6],QU,[36]⟩,oM 36 6 26),(⟨[37,36,6],QU,[37,36,6]⟩,oX 37 (.buildSlice 22 1 #[(0,(tK 36))]) 22),(⟨[38,9,9],QU,[38]⟩,oM 38 9 3),(⟨[39,37,38,37,9],QU,[39,37,38]⟩,oC 39 56 [(tK 37),(tK 38)] [22,3] 22),(⟨[40,7,7],QU,[40]⟩,oM 40 7 26),(⟨[41,40,7],QU,[41,40,7]⟩,oX 41 (.buildSlice 22 1 #[(0,(tK 40))]) 22),(⟨[42,1,1],QU,[42]⟩,oF 42 29 1 1),(⟨[43,42,1],QU,[43]⟩,oL 43 3 42 3),(⟨[44,9,9],QU,[44]⟩,oM 44 9 3),(⟨[45,43,44,1,9],QU,[45]⟩,oB 45 .sub 3 (tK 43) (tK 44) 3 3),(⟨[46,41,45,41,45],QU,[46,41,45]⟩,oC 46 56 [(tK 41),(tK 45)] [22,3] 22),(⟨[47,39,46,39,46],QU,[47,39,46,39,46]⟩,oX 47 (.buildSlice 115 2 #[(0,(tK 39)),(1,(tK 46))]) 115),(⟨[48,47,47],QU,[48,47]⟩,oC 48 55 [(tK 47)] [115] 22),(⟨[10,48,48],QU,[10,48,48]⟩,oA 10 48 22)]) (.ops [oL 50 29 1 29,oM 51 10 22,oC 52 57 [(tK 50),(tK 51)] [29,22] 27,oM 49 52 27,oE 53 49 0 26,oE 54 49 1 4,oA 8 54 4])))
 (.ops [oM 34 9 3,oB 35 .add 3 (tK 34) (iK 1) 3 3,oA 9 35 3]))
def nN:SC:= .loop Ya
abbrev aa:List Nat:=[21,22,23,24,25,26,6,22,22,7,26,26]
def Yb:SC:= .seq (.seq (.ops [oM 14 5 3,oF 15 29 1 0,oL 16 3 15 3,oB 17 .shl 3 (iK 1) (tK 16) 3 3,oB 18 .lss 3 (tK 14) (tK 17) 3 4]) (.cond (tK 18) .skip (.exit 0))) (.seq (.block 1 (.seq (.draws [(⟨[21,5,5],aa,[21]⟩,oM 21 5 3),(⟨[22,21,5],aa,[22]⟩,oC 22 53 [(tK 21)] [3] 26),(⟨[23,1,1],aa,[23]⟩,oL 23 29 1 29),(⟨[24,5,5],aa,[24]⟩,oM 24 5 3),(⟨[25,23,24,1,5],aa,[25]⟩,oC 25 54 [(tK 23),(tK 24)] [29,3] 3),(⟨[26,25,25],aa,[26]⟩,oC 26 53 [(tK 25)] [3] 26),(⟨[6,22,22],aa,[6,22,22]⟩,oA 6 22 26),(⟨[7,26,26],aa,[7,26,26]⟩,oA 7 26 26)]) (.seq (.ops [oX 8 (.assign H6) 4]) (.seq (.seq (.ops [oX 9 (.assign (iK 0)) 3]) (.block 2 nN)) (.seq (.ops [oM 55 8 4]) (.cond (tK 55) (.seq (.ops [oM 56 6 26,oM 57 7 26,oA 2 56 26,oA 3 57 26,oX 4 (.assign H6) 4]) .ret) .skip)))))) (.ops [oM 19 5 3,oB 20 .add 3 (tK 19) (iK 1) 3 3,oA 5 20 3]))
def nO:SC:= .loop Yb
def k20:SC:= .seq (.ops [oX 1 (.box 29 (tK 0)) 0,oX 2 Iy 26,oX 3 Iy 26,oX 4 CX 4]) (.seq (.seq (.ops [oL 11 29 1 29,oC 12 52 [(tK 11)] [29] 4,oX 13 (.unOp .not 4 (tK 12)) 4]) (.cond (tK 13) (.seq (.ops [oX 2 Iy 26,oX 3 Iy 26,oX 4 CX 4]) .ret) .skip)) (.seq (.seq (.ops [oX 5 (.assign (iK 1)) 3]) (.block 0 nO)) (.seq (.ops [oX 2 Iy 26,oX 3 Iy 26,oX 4 CX 4]) .ret)))
theorem A25:Try.f20.body.map (Bt lends)=some k20:=by kernel_rfl
theorem AED:CW Try.f20 1=true:=by kernel_rfl
theorem eP{a l:List D}{r:D×List D}(h:CU Y.env k20 (Gq AZ l.length [ci 2,ci 3,ci 4] r) (entry a l))(ha:a.length=1):Y.call 20 a l=some r:=
 AY (Y:=Y) rfl Try.func20 (ha▸AED) A25 h
def BC(AA:Int)(AB:Int)(AJ:AX)(AL:AX)(set_:Int)(KI:AU)(JH:AU)(good:Bool)(j:Int)(s:St):Prop:=s.v 1=ct [bh .i64 AA,bh .i64 AB,ca 26 (AP CO AJ),ca 26 (AP CO AL)]∧s.v 5=bh .i64 set_∧s.v 6=cg 3 (AP (bh .i64) KI)∧s.v 7=cg 3 (AP (bh .i64) JH)∧s.v 8=cf good∧s.v 9=bh .i64 j
def BK(AA:Int)(AB:Int)(AJ:AX)(AL:AX)(set_:Int)(KI:AU)(JH:AU)(r:Bool)(ex:Ex)(s:St):Prop:=ex= .exit 2∧s.v 1=ct [bh .i64 AA,bh .i64 AB,ca 26 (AP CO AJ),ca 26 (AP CO AL)]∧s.v 5=bh .i64 set_∧s.v 6=cg 3 (AP (bh .i64) KI)∧s.v 7=cg 3 (AP (bh .i64) JH)∧s.v 8=cf r
theorem O0(AA:Int)(AB:Int)(AJ:AX)(AL:AX)(set_:Int)(KI:AU)(JH:AU){v:Bool×Int}{s:St}{r:Bool}(h:E8 AA AB AJ AL set_ KI JH v=some r)(hM:BC AA AB AJ AL set_ KI JH v.1 v.2 s):CU Y.env nN (BK AA AB AJ AL set_ KI JH r) s:=by
 unfold E8 at h;refine CF (c:=Ya) (fun v=>EM AA AB AJ AL set_ KI JH v.1 v.2) (fun v s=>BC AA AB AJ AL set_ KI JH v.1 v.2 s) (BK AA AB AJ AL set_ KI JH) ?_ h hM;clear h hM s v r;intro v s o hM h;obtain⟨good,j⟩:=v;dsimp only at h hM;unfold EM at h;unfold BC at hM;obtain⟨m0,m1,m2,m3,m4,m5⟩:=hM;unfold Ya;by_cases e10:j≤AB
 ·rw [if_pos e10]at h;by_cases e11:good=true
  ·rw [if_pos e11]at h;obtain⟨aZ,hl12,h⟩:=Ao h;try dsimp only at h
   have aM:=Df [KI] j hl12;simp only [DT,JC,Ff,Ia,La,L9,Je]at aM;by_cases e13:(aZ.any fun x=>(!x.isEmpty))=true
   ·skip
    obtain⟨QL,hl14,h⟩:=Ao h;try dsimp only at h
    have av:=Df [JH] (cb.wrap (AB-j)) hl14;simp only [DT,JC,Ff,Ia,La,L9,Je]at av;by_cases e15:(QL.any fun x=>(!x.isEmpty))=true
    ·skip
     obtain⟨Lg,hl16,h⟩:=Ao h;try dsimp only at h
     have NC:=Cf [aZ,QL] hl16;simp only [DT,JC,Ff,Ia,La,L9,Je]at NC;by_cases e17:(Lg.any fun x=>(!x.isEmpty))=true
     ·skip
      obtain⟨Mo,hl18,h⟩:=Ao h;try dsimp only at h
      have aL:=Be AA AB AJ AL Lg hl18
      obtain rfl:=Option.some.inj h
      simp (maxDischargeDepth:=9) only [↓AQ,AR,Aj,↓reduceIte,bk,bl,bm,bo,bp,br,bt,bw,bx,bO,b3,b4,b5,b6,b7,b8,b9,m0,m1,m2,m3,m4,m5,e10,e11,aM,e13,av,e15,NC,e17,aL,BC,BK,Cx,Cy,Cz]<;>(repeat' apply A7)<;>first|rfl|exact⟨_,rfl⟩|exact⟨_,_,rfl⟩|simp [AP,AC]
     ·skip
      have e17f:(Lg.any fun x=>(!x.isEmpty))=false:=Iw.mpr e17;obtain⟨Mo,hl18,h⟩:=Ao h;try dsimp only at h
      have aL:=Be AA AB AJ AL Lg hl18
      obtain rfl:=Option.some.inj h
      simp (maxDischargeDepth:=9) only [↓AQ,AR,Aj,↓reduceIte,bk,bl,bm,bo,bp,br,bt,bw,bx,bO,b3,b4,b5,b6,b7,b8,b9,m0,m1,m2,m3,m4,m5,e10,e11,aM,e13,av,e15,NC,e17f,aL,BC,BK,Cx,Cy,Cz]<;>(repeat' apply A7)<;>first|rfl|exact⟨_,rfl⟩|exact⟨_,_,rfl⟩|simp [AP,AC]
    ·skip
     have e15f:(QL.any fun x=>(!x.isEmpty))=false:=Iw.mpr e15;obtain⟨Lg,hl16,h⟩:=Ao h;try dsimp only at h
     have NC:=Cf [aZ,QL] hl16;simp only [DT,JC,Ff,Ia,La,L9,Je]at NC;by_cases e17:(Lg.any fun x=>(!x.isEmpty))=true
     ·skip
      obtain⟨Mo,hl18,h⟩:=Ao h;try dsimp only at h
      have aL:=Be AA AB AJ AL Lg hl18
      obtain rfl:=Option.some.inj h
      simp (maxDischargeDepth:=9) only [↓AQ,AR,Aj,↓reduceIte,bk,bl,bm,bo,bp,br,bt,bw,bx,bO,b3,b4,b5,b6,b7,b8,b9,m0,m1,m2,m3,m4,m5,e10,e11,aM,e13,av,e15f,NC,e17,aL,BC,BK,Cx,Cy,Cz]<;>(repeat' apply A7)<;>first|rfl|exact⟨_,rfl⟩|exact⟨_,_,rfl⟩|simp [AP,AC]
     ·skip
      have e17f:(Lg.any fun x=>(!x.isEmpty))=false:=Iw.mpr e17;obtain⟨Mo,hl18,h⟩:=Ao h;try dsimp only at h
      have aL:=Be AA AB AJ AL Lg hl18
      obtain rfl:=Option.some.inj h
      simp (maxDischargeDepth:=9) only [↓AQ,AR,Aj,↓reduceIte,bk,bl,bm,bo,bp,br,bt,bw,bx,bO,b3,b4,b5,b6,b7,b8,b9,m0,m1,m2,m3,m4,m5,e10,e11,aM,e13,av,e15f,NC,e17f,aL,BC,BK,Cx,Cy,Cz]<;>(repeat' apply A7)<;>first|rfl|exact⟨_,rfl⟩|exact⟨_,_,rfl⟩|simp [AP,AC]
   ·skip
    have e13f:(aZ.any fun x=>(!x.isEmpty))=false:=Iw.mpr e13;obtain⟨QL,hl14,h⟩:=Ao h;try dsimp only at h
    have av:=Df [JH] (cb.wrap (AB-j)) hl14;simp only [DT,JC,Ff,Ia,La,L9,Je]at av;by_cases e15:(QL.any fun x=>(!x.isEmpty))=true
    ·skip
     obtain⟨Lg,hl16,h⟩:=Ao h;try dsimp only at h
     have NC:=Cf [aZ,QL] hl16;simp only [DT,JC,Ff,Ia,La,L9,Je]at NC;by_cases e17:(Lg.any fun x=>(!x.isEmpty))=true
     ·skip
      obtain⟨Mo,hl18,h⟩:=Ao h;try dsimp only at h
      have aL:=Be AA AB AJ AL Lg hl18
      obtain rfl:=Option.some.inj h
      simp (maxDischargeDepth:=9) only [↓AQ,AR,Aj,↓reduceIte,bk,bl,bm,bo,bp,br,bt,bw,bx,bO,b3,b4,b5,b6,b7,b8,b9,m0,m1,m2,m3,m4,m5,e10,e11,aM,e13f,av,e15,NC,e17,aL,BC,BK,Cx,Cy,Cz]<;>(repeat' apply A7)<;>first|rfl|exact⟨_,rfl⟩|exact⟨_,_,rfl⟩|simp [AP,AC]
     ·skip
      have e17f:(Lg.any fun x=>(!x.isEmpty))=false:=Iw.mpr e17;obtain⟨Mo,hl18,h⟩:=Ao h;try dsimp only at h
      have aL:=Be AA AB AJ AL Lg hl18
      obtain rfl:=Option.some.inj h
      simp (maxDischargeDepth:=9) only [↓AQ,AR,Aj,↓reduceIte,bk,bl,bm,bo,bp,br,bt,bw,bx,bO,b3,b4,b5,b6,b7,b8,b9,m0,m1,m2,m3,m4,m5,e10,e11,aM,e13f,av,e15,NC,e17f,aL,BC,BK,Cx,Cy,Cz]<;>(repeat' apply A7)<;>first|rfl|exact⟨_,rfl⟩|exact⟨_,_,rfl⟩|simp [AP,AC]
    ·skip
     have e15f:(QL.any fun x=>(!x.isEmpty))=false:=Iw.mpr e15;obtain⟨Lg,hl16,h⟩:=Ao h;try dsimp only at h
     have NC:=Cf [aZ,QL] hl16;simp only [DT,JC,Ff,Ia,La,L9,Je]at NC;by_cases e17:(Lg.any fun x=>(!x.isEmpty))=true
     ·skip
      obtain⟨Mo,hl18,h⟩:=Ao h;try dsimp only at h
      have aL:=Be AA AB AJ AL Lg hl18
      obtain rfl:=Option.some.inj h
      simp (maxDischargeDepth:=9) only [↓AQ,AR,Aj,↓reduceIte,bk,bl,bm,bo,bp,br,bt,bw,bx,bO,b3,b4,b5,b6,b7,b8,b9,m0,m1,m2,m3,m4,m5,e10,e11,aM,e13f,av,e15f,NC,e17,aL,BC,BK,Cx,Cy,Cz]<;>(repeat' apply A7)<;>first|rfl|exact⟨_,rfl⟩|exact⟨_,_,rfl⟩|simp [AP,AC]
     ·skip
      have e17f:(Lg.any fun x=>(!x.isEmpty))=false:=Iw.mpr e17;obtain⟨Mo,hl18,h⟩:=Ao h;try dsimp only at h
      have aL:=Be AA AB AJ AL Lg hl18
      obtain rfl:=Option.some.inj h
      simp (maxDischargeDepth:=9) only [↓AQ,AR,Aj,↓reduceIte,bk,bl,bm,bo,bp,br,bt,bw,bx,bO,b3,b4,b5,b6,b7,b8,b9,m0,m1,m2,m3,m4,m5,e10,e11,aM,e13f,av,e15f,NC,e17f,aL,BC,BK,Cx,Cy,Cz]<;>(repeat' apply A7)<;>first|rfl|exact⟨_,rfl⟩|exact⟨_,_,rfl⟩|simp [AP,AC]
  ·rw [if_neg e11]at h;have e11f:good=false:=Iw.mpr e11
   obtain rfl:=Option.some.inj h
   simp (maxDischargeDepth:=9) only [↓AQ,AR,Aj,↓reduceIte,bk,bl,bm,bo,bp,br,bt,bw,bx,bO,b3,b4,b5,b6,b7,b8,b9,m0,m1,m2,m3,m4,m5,e10,e11f,BC,BK,Cx,Cy,Cz]<;>(repeat' apply A7)<;>first|rfl|exact⟨_,rfl⟩|exact⟨_,_,rfl⟩|simp [AP,AC]
 ·rw [if_neg e10]at h
  obtain rfl:=Option.some.inj h
  simp (maxDischargeDepth:=9) only [↓AQ,AR,Aj,↓reduceIte,bk,bl,bm,bo,bp,br,bt,bw,bx,bO,b3,b4,b5,b6,b7,b8,b9,m0,m1,m2,m3,m4,m5,e10,BC,BK,Cx,Cy,Cz]<;>(repeat' apply A7)<;>first|rfl|exact⟨_,rfl⟩|exact⟨_,_,rfl⟩|simp [AP,AC]
def Cs(AA:Int)(AB:Int)(AJ:AX)(AL:AX)(set_:Int)(s:St):Prop:=s.v 1=ct [bh .i64 AA,bh .i64 AB,ca 26 (AP CO AJ),ca 26 (AP CO AL)]∧s.v 5=bh .i64 set_
def Ct(AA:Int)(AB:Int)(AJ:AX)(AL:AX)(r:(AU×AU)⊕Unit)(ex:Ex)(s:St):Prop:=match r with
 | .inl q=>ex= .ret∧s.v 2=cg 3 (AP (bh .i64) q.1)∧s.v 3=cg 3 (AP (bh .i64) q.2)∧s.v 4=cf true
 | .inr q=>ex= .exit 0
theorem O1(AA:Int)(AB:Int)(AJ:AX)(AL:AX){v:Int}{s:St}{r:(AU×AU)⊕Unit}(h:E9 AA AB AJ AL v=some r)(hM:Cs AA AB AJ AL v s):CU Y.env nO (Ct AA AB AJ AL r) s:=by
 unfold E9 at h;refine CF (c:=Yb) (fun v=>Da AA AB AJ AL v) (fun v s=>Cs AA AB AJ AL v s) (Ct AA AB AJ AL) ?_ h hM;clear h hM s v r;intro set_ s o hM h;unfold Da at h;unfold Cs at hM;obtain⟨m0,m1⟩:=hM;unfold Yb;obtain⟨e5,h⟩:=Cb h;by_cases e6:set_<(cb.wrap (1*2 ^ (min AA.toNat (cb.bits))))
 ·rw [if_pos e6]at h;obtain⟨KI,hl7,h⟩:=Ao h;try dsimp only at h
  have c7:=KG set_ hl7;obtain⟨Im,hl8,h⟩:=Ao h;try dsimp only at h
  have c8:=WN AA AB AJ AL set_ hl8;obtain⟨JH,hl9,h⟩:=Ao h;try dsimp only at h
  have c9:=KG Im hl9;obtain⟨AV,hl11,h⟩:=Ao h;try dsimp only at h
  simp (maxDischargeDepth:=9) only [↓AQ,AR,Aj,↓reduceIte,bk,bl,bm,bo,bp,br,bt,bw,bx,bO,b3,b4,b5,b6,b7,b8,b9,m0,m1,e5,e6,c7,c8,c9];refine Bc (O0 AA AB AJ AL set_ KI JH hl11 ?_) ?_
  ·simp (maxDischargeDepth:=9) only [↓AQ,AR,Aj,↓reduceIte,bk,bl,bm,bo,bp,br,bt,bw,bx,bO,b3,b4,b5,b6,b7,b8,b9,m0,m1,e5,e6,c7,c8,c9,BC]<;>(repeat' apply A7)<;>first|rfl|exact⟨_,rfl⟩|exact⟨_,_,rfl⟩|simp [AP,AC]
  ·intro ex11 s11 hX11;unfold BK at hX11;obtain⟨rfl,n11_0,n11_1,n11_2,n11_3,n11_4⟩:=hX11;by_cases e12:AV=true
   ·rw [if_pos e12]at h
    obtain rfl:=Option.some.inj h
    simp (maxDischargeDepth:=9) only [↓AQ,AR,Aj,↓reduceIte,bk,bl,bm,bo,bp,br,bt,bw,bx,bO,b3,b4,b5,b6,b7,b8,b9,e5,e6,c7,c8,c9,n11_0,n11_1,n11_2,n11_3,n11_4,e12,Cs,Ct,Cx,Cy,Cz]<;>(repeat' apply A7)<;>first|rfl|exact⟨_,rfl⟩|exact⟨_,_,rfl⟩|simp [AP,AC]
   ·rw [if_neg e12]at h;have e12f:AV=false:=Iw.mpr e12
    obtain rfl:=Option.some.inj h
    simp (maxDischargeDepth:=9) only [↓AQ,AR,Aj,↓reduceIte,bk,bl,bm,bo,bp,br,bt,bw,bx,bO,b3,b4,b5,b6,b7,b8,b9,e5,e6,c7,c8,c9,n11_0,n11_1,n11_2,n11_3,n11_4,e12f,Cs,Ct,Cx,Cy,Cz]<;>(repeat' apply A7)<;>first|rfl|exact⟨_,rfl⟩|exact⟨_,_,rfl⟩|simp [AP,AC]
 ·rw [if_neg e6]at h
  obtain rfl:=Option.some.inj h
  simp (maxDischargeDepth:=9) only [↓AQ,AR,Aj,↓reduceIte,bk,bl,bm,bo,bp,br,bt,bw,bx,bO,b3,b4,b5,b6,b7,b8,b9,m0,m1,e5,e6,Cs,Ct,Cx,Cy,Cz]<;>(repeat' apply A7)<;>first|rfl|exact⟨_,rfl⟩|exact⟨_,_,rfl⟩|simp [AP,AC]
theorem Od(AA:Int)(AB:Int)(AJ:AX)(AL:AX){r:AU×AU×Bool}(h:Hg AA AB AJ AL=some r):Y.call 20 [cj [bh .i64 AA,bh .i64 AB,ca 26 (AP CO AJ),ca 26 (AP CO AL)]] []=some (D.tup [cg 3 (AP (bh .i64) r.1),cg 3 (AP (bh .i64) r.2.1),cf r.2.2],[]):=by
 refine eP ?_ rfl;unfold k20;unfold Hg at h;obtain⟨e1,h⟩:=Cb h;obtain⟨e2,h⟩:=Cb h;have c3:=Ur AA AB AJ AL e1 e2;by_cases e4:(Il AA AB AJ AL)=true
 ·rw [if_pos e4]at h;obtain⟨Ev,hl7,h⟩:=Ao h;try dsimp only at h
  simp (maxDischargeDepth:=9) only [↓AQ,AR,Aj,↓reduceIte,bk,bl,bm,bo,bp,br,bt,bw,bx,bO,b3,b4,b5,b6,b7,b8,b9,e1,e2,c3,e4];refine Bc (O1 AA AB AJ AL hl7 ?_) ?_
  ·simp (maxDischargeDepth:=9) only [↓AQ,AR,Aj,↓reduceIte,bk,bl,bm,bo,bp,br,bt,bw,bx,bO,b3,b4,b5,b6,b7,b8,b9,e1,e2,c3,e4,Cs]<;>(repeat' apply A7)<;>first|rfl|exact⟨_,rfl⟩|exact⟨_,_,rfl⟩|simp [AP,AC]
  ·intro ex7 s7 hX7;rcases Ev with q1001_|q1001_
   ·unfold Ct at hX7;dsimp only at hX7 h;obtain⟨rfl,n7_0,n7_1,n7_2⟩:=hX7
    obtain rfl:=Option.some.inj h
    simp (maxDischargeDepth:=9) only [↓AQ,AR,Aj,↓reduceIte,bk,bl,bm,bo,bp,br,bt,bw,bx,bO,b3,b4,b5,b6,b7,b8,b9,e1,e2,c3,e4,n7_0,n7_1,n7_2]<;>(repeat' apply A7)<;>first|rfl|exact⟨_,rfl⟩|exact⟨_,_,rfl⟩|simp [AP,AC]
   ·unfold Ct at hX7;dsimp only at hX7 h
    obtain rfl:=hX7
    obtain rfl:=Option.some.inj h
    simp (maxDischargeDepth:=9) only [↓AQ,AR,Aj,↓reduceIte,bk,bl,bm,bo,bp,br,bt,bw,bx,bO,b3,b4,b5,b6,b7,b8,b9,e1,e2,c3,e4]<;>(repeat' apply A7)<;>first|rfl|exact⟨_,rfl⟩|exact⟨_,_,rfl⟩|simp [AP,AC]
 ·rw [if_neg e4]at h;have e4f:(Il AA AB AJ AL)=false:=Iw.mpr e4
  obtain rfl:=Option.some.inj h
  simp (maxDischargeDepth:=9) only [↓AQ,AR,Aj,↓reduceIte,bk,bl,bm,bo,bp,br,bt,bw,bx,bO,b3,b4,b5,b6,b7,b8,b9,e1,e2,c3,e4f]<;>(repeat' apply A7)<;>first|rfl|exact⟨_,rfl⟩|exact⟨_,_,rfl⟩|simp [AP,AC]
def I8(n_1:Int)(i1:Int):Option ((Int×Int)⊕(Int)):= if 0<i1 then some (cd (cb.wrap (n_1.tdiv 2),cb.wrap (i1-1))) else some (cc n_1)
def Kv(v:Int×Int):Option (Int):=JZ (fun v=>I8 v.1 v.2) v
def T9(n_:Int)(i:Int):Option (Int):= (Kv (n_,i)).bind fun AV=> some (AV.tmod 2)
def VE:SC:= .seq (.seq (.ops [oM 5 1 3,oB 6 .gtr 3 (tK 5) (iK 0) 3 4]) (.cond (tK 6) .skip (.exit 0))) (.seq (.block 1 (.ops [oM 9 0 3,oB 10 .quo 3 (tK 9) (iK 2) 3 3,oA 0 10 3])) (.ops [oM 7 1 3,oB 8 .sub 3 (tK 7) (iK 1) 3 3,oA 1 8 3]))
def gG:SC:= .loop VE
def A26:SC:= .seq (.ops [oX 4 (.assign (iK 0)) 3]) (.seq (.block 0 gG) (.seq (.ops [oM 11 0 3,oB 12 .rem 3 (tK 11) (iK 2) 3 3,oA 4 12 3]) .ret))
theorem rP:Try.f166.body.map (Bt lends)=some A26:=by kernel_rfl
theorem A8o:CW Try.f166 2=true:=by kernel_rfl
theorem AEE{a l:List D}{r:D×List D}(h:CU Y.env A26 (Gq AZ l.length [ci 4] r) (entry a l))(ha:a.length=2):Y.call 166 a l=some r:=
 AY (Y:=Y) rfl Try.func166 (ha▸A8o) rP h
def I9(n_1:Int)(i1:Int)(s:St):Prop:=s.v 0=bh .i64 n_1∧s.v 1=bh .i64 i1
def JP(r:Int)(ex:Ex)(s:St):Prop:=ex= .exit 0∧s.v 0=bh .i64 r
theorem WP{v:Int×Int}{s:St}{r:Int}(h:Kv v=some r)(hM:I9 v.1 v.2 s):CU Y.env gG (JP r) s:=by
 unfold Kv at h;refine CF (c:=VE) (fun v=>I8 v.1 v.2) (fun v s=>I9 v.1 v.2 s) (JP) ?_ h hM;clear h hM s v r;intro v s o hM h;obtain⟨n_1,i1⟩:=v;dsimp only at h hM;unfold I8 at h;unfold I9 at hM;obtain⟨m0,m1⟩:=hM;unfold VE;by_cases e1:0<i1
 ·rw [if_pos e1]at h
  obtain rfl:=Option.some.inj h
  simp (maxDischargeDepth:=9) only [↓AQ,AR,Aj,↓reduceIte,bk,bl,bm,bo,bp,br,bt,bw,bx,bO,b3,b4,b5,b6,b7,b8,b9,m0,m1,e1,I9,JP,Cx,Cy,Cz]<;>(repeat' apply A7)<;>first|rfl|exact⟨_,rfl⟩|exact⟨_,_,rfl⟩|simp [AP,AC]
 ·rw [if_neg e1]at h
  obtain rfl:=Option.some.inj h
  simp (maxDischargeDepth:=9) only [↓AQ,AR,Aj,↓reduceIte,bk,bl,bm,bo,bp,br,bt,bw,bx,bO,b3,b4,b5,b6,b7,b8,b9,m0,m1,e1,I9,JP,Cx,Cy,Cz]<;>(repeat' apply A7)<;>first|rfl|exact⟨_,rfl⟩|exact⟨_,_,rfl⟩|simp [AP,AC]
theorem Yc(n_:Int)(i:Int){r:Int}(h:T9 n_ i=some r):Y.call 166 [bh .i64 n_,bh .i64 i] []=some (bh .i64 r,[]):=by
 refine AEE ?_ rfl;unfold A26;unfold T9 at h;obtain⟨AV,hl2,h⟩:=Ao h;try dsimp only at h
 simp (maxDischargeDepth:=9) only [↓AQ,AR,Aj,↓reduceIte,bk,bl,bm,bo,bp,br,bt,bw,bx,bO,b3,b4,b5,b6,b7,b8,b9];refine Bc (WP hl2 ?_) ?_
 ·simp (maxDischargeDepth:=9) only [↓AQ,AR,Aj,↓reduceIte,bk,bl,bm,bo,bp,br,bt,bw,bx,bO,b3,b4,b5,b6,b7,b8,b9,I9]<;>(repeat' apply A7)<;>first|rfl|exact⟨_,rfl⟩|exact⟨_,_,rfl⟩|simp [AP,AC]
 ·intro ex2 s2 hX2;unfold JP at hX2;obtain⟨rfl,n2_0⟩:=hX2
  obtain rfl:=Option.some.inj h
  simp (maxDischargeDepth:=9) only [↓AQ,AR,Aj,↓reduceIte,bk,bl,bm,bo,bp,br,bt,bw,bx,bO,b3,b4,b5,b6,b7,b8,b9,n2_0]<;>(repeat' apply A7)<;>first|rfl|exact⟨_,rfl⟩|exact⟨_,_,rfl⟩|simp [AP,AC]
def Mq(mask:Int)(a:Int):Option (Bool):= (T9 mask a).bind fun r7_=> some (decide (r7_=1))
def A27:SC:= .seq (.ops [oX 4 CX 4]) (.seq (.ops [oM 5 0 3,oM 6 1 3,oC 7 166 [(tK 5),(tK 6)] [3,3] 3,oB 8 .eql 3 (tK 7) (iK 1) 3 4,oA 4 8 4]) .ret)
theorem rQ:Try.f139.body.map (Bt lends)=some A27:=by kernel_rfl
theorem A8p:CW Try.f139 2=true:=by kernel_rfl
theorem AEF{a l:List D}{r:D×List D}(h:CU Y.env A27 (Gq AZ l.length [ci 4] r) (entry a l))(ha:a.length=2):Y.call 139 a l=some r:=
 AY (Y:=Y) rfl Try.func139 (ha▸A8p) rQ h
theorem O3(mask:Int)(a:Int){r:Bool}(h:Mq mask a=some r):Y.call 139 [bh .i64 mask,bh .i64 a] []=some (cf r,[]):=by
 refine AEF ?_ rfl;unfold A27;unfold Mq at h;obtain⟨r7_,hl1,h⟩:=Ao h;try dsimp only at h
 have c1:=Yc mask a hl1
 obtain rfl:=Option.some.inj h
 simp (maxDischargeDepth:=9) only [↓AQ,AR,Aj,↓reduceIte,bk,bl,bm,bo,bp,br,bt,bw,bx,bO,b3,b4,b5,b6,b7,b8,b9,c1]<;>(repeat' apply A7)<;>first|rfl|exact⟨_,rfl⟩|exact⟨_,_,rfl⟩|simp [AP,AC]
def F5(AA:Int)(AB:Int)(AJ:AX)(AL:AX)(mask:Int)(out:AU)(a:Int):Option ((AU×Int)⊕(AU)):= if a<AA then (Mq mask a).bind fun Sb=> if Sb=true then ck (out.length+1<1099511627776)<| some (cd ((out++[a]),cb.wrap (a+1))) else some (cd (out,cb.wrap (a+1))) else some (cc out)
def Jq(AA:Int)(AB:Int)(AJ:AX)(AL:AX)(mask:Int)(v:AU×Int):Option (AU):=JZ (fun v=>F5 AA AB AJ AL mask v.1 v.2) v
def Kw(AA:Int)(AB:Int)(AJ:AX)(AL:AX)(mask:Int):Option (AU):= (Jq AA AB AJ AL mask ([],0)).bind fun AV=> some AV
def Yd:SC:= .seq (.seq (.ops [oM 7 6 3,oF 8 29 2 0,oL 9 3 8 3,oB 10 .lss 3 (tK 7) (tK 9) 3 4]) (.cond (tK 10) .skip (.exit 0))) (.seq (.block 1 (.seq (.ops [oM 13 1 3,oM 14 6 3,oC 15 139 [(tK 13),(tK 14)] [3,3] 4]) (.cond (tK 15) (.ops [oM 16 5 26,oM 17 6 3,oX 18 (.buildSlice 26 1 #[(0,(tK 17))]) 26,oX 19 (.call ⟨(.builtin .append), #[(tK 16),(tK 18)], #[26,26]⟩) 26,oA 5 19 26]) .skip))) (.ops [oM 11 6 3,oB 12 .add 3 (tK 11) (iK 1) 3 3,oA 6 12 3]))
def nP:SC:= .loop Yd
def k94:SC:= .seq (.ops [oX 2 (.box 29 (tK 0)) 0,oX 4 Iy 26]) (.seq (.ops [oX 5 Iy 26]) (.seq (.seq (.ops [oX 6 (.assign (iK 0)) 3]) (.block 0 nP)) (.seq (.ops [oM 20 5 26,oA 4 20 26]) .ret)))
theorem A28:Try.f94.body.map (Bt lends)=some k94:=by kernel_rfl
theorem AEH:CW Try.f94 2=true:=by kernel_rfl
theorem c94{a l:List D}{r:D×List D}(h:CU Y.env k94 (Gq AZ l.length [ci 4] r) (entry a l))(ha:a.length=2):Y.call 94 a l=some r:=
 AY (Y:=Y) rfl Try.func94 (ha▸AEH) A28 h
def EH(AA:Int)(AB:Int)(AJ:AX)(AL:AX)(mask:Int)(out:AU)(a:Int)(s:St):Prop:=s.v 1=bh .i64 mask∧s.v 2=ct [bh .i64 AA,bh .i64 AB,ca 26 (AP CO AJ),ca 26 (AP CO AL)]∧s.v 5=cg 3 (AP (bh .i64) out)∧s.v 6=bh .i64 a
def F6(AA:Int)(AB:Int)(AJ:AX)(AL:AX)(mask:Int)(r:AU)(ex:Ex)(s:St):Prop:=ex= .exit 0∧s.v 5=cg 3 (AP (bh .i64) r)
theorem RG(AA:Int)(AB:Int)(AJ:AX)(AL:AX)(mask:Int){v:AU×Int}{s:St}{r:AU}(h:Jq AA AB AJ AL mask v=some r)(hM:EH AA AB AJ AL mask v.1 v.2 s):CU Y.env nP (F6 AA AB AJ AL mask r) s:=by
 unfold Jq at h;refine CF (c:=Yd) (fun v=>F5 AA AB AJ AL mask v.1 v.2) (fun v s=>EH AA AB AJ AL mask v.1 v.2 s) (F6 AA AB AJ AL mask) ?_ h hM;clear h hM s v r;intro v s o hM h;obtain⟨out,a⟩:=v;dsimp only at h hM;unfold F5 at h;unfold EH at hM;obtain⟨m0,m1,m2,m3⟩:=hM;unfold Yd;by_cases e1:a<AA
 ·rw [if_pos e1]at h;obtain⟨Sb,hl2,h⟩:=Ao h;try dsimp only at h
  have c2:=O3 mask a hl2;by_cases e3:Sb=true
  ·rw [if_pos e3]at h;obtain⟨e4,h⟩:=Cb h
   obtain rfl:=Option.some.inj h
   simp (maxDischargeDepth:=9) only [↓AQ,AR,Aj,↓reduceIte,bk,bl,bm,bo,bp,br,bt,bw,bx,bO,b3,b4,b5,b6,b7,b8,b9,m0,m1,m2,m3,e1,c2,e3,e4,EH,F6,Cx,Cy,Cz]<;>(repeat' apply A7)<;>first|rfl|exact⟨_,rfl⟩|exact⟨_,_,rfl⟩|simp [AP,AC]
  ·rw [if_neg e3]at h;have e3f:Sb=false:=Iw.mpr e3
   obtain rfl:=Option.some.inj h
   simp (maxDischargeDepth:=9) only [↓AQ,AR,Aj,↓reduceIte,bk,bl,bm,bo,bp,br,bt,bw,bx,bO,b3,b4,b5,b6,b7,b8,b9,m0,m1,m2,m3,e1,c2,e3f,EH,F6,Cx,Cy,Cz]<;>(repeat' apply A7)<;>first|rfl|exact⟨_,rfl⟩|exact⟨_,_,rfl⟩|simp [AP,AC]
 ·rw [if_neg e1]at h
  obtain rfl:=Option.some.inj h
  simp (maxDischargeDepth:=9) only [↓AQ,AR,Aj,↓reduceIte,bk,bl,bm,bo,bp,br,bt,bw,bx,bO,b3,b4,b5,b6,b7,b8,b9,m0,m1,m2,m3,e1,EH,F6,Cx,Cy,Cz]<;>(repeat' apply A7)<;>first|rfl|exact⟨_,rfl⟩|exact⟨_,_,rfl⟩|simp [AP,AC]
theorem Sg(AA:Int)(AB:Int)(AJ:AX)(AL:AX)(mask:Int){r:AU}(h:Kw AA AB AJ AL mask=some r):Y.call 94 [cj [bh .i64 AA,bh .i64 AB,ca 26 (AP CO AJ),ca 26 (AP CO AL)],bh .i64 mask] []=some (cg 3 (AP (bh .i64) r),[]):=by
 refine c94 ?_ rfl;unfold k94;unfold Kw at h;obtain⟨AV,hl2,h⟩:=Ao h;try dsimp only at h
 simp (maxDischargeDepth:=9) only [↓AQ,AR,Aj,↓reduceIte,bk,bl,bm,bo,bp,br,bt,bw,bx,bO,b3,b4,b5,b6,b7,b8,b9];refine Bc (RG AA AB AJ AL mask hl2 ?_) ?_
 ·simp (maxDischargeDepth:=9) only [↓AQ,AR,Aj,↓reduceIte,bk,bl,bm,bo,bp,br,bt,bw,bx,bO,b3,b4,b5,b6,b7,b8,b9,EH]<;>(repeat' apply A7)<;>first|rfl|exact⟨_,rfl⟩|exact⟨_,_,rfl⟩|simp [AP,AC]
 ·intro ex2 s2 hX2;unfold F6 at hX2;obtain⟨rfl,n2_0⟩:=hX2
  obtain rfl:=Option.some.inj h
  simp (maxDischargeDepth:=9) only [↓AQ,AR,Aj,↓reduceIte,bk,bl,bm,bo,bp,br,bt,bw,bx,bO,b3,b4,b5,b6,b7,b8,b9,n2_0]<;>(repeat' apply A7)<;>first|rfl|exact⟨_,rfl⟩|exact⟨_,_,rfl⟩|simp [AP,AC]
def OV(AA:Int)(AB:Int)(AJ:AX)(AL:AX)(x_:AU)(y:AU):Option (Bool):= (QS AA AB AJ AL x_ y).bind fun Uz=> some (!Uz.2.2)
def A29:SC:= .seq (.ops [oX 3 (.box 29 (tK 0)) 0,oX 6 CX 4]) (.seq (.ops [oL 11 29 3 29,oM 12 1 26,oM 13 2 26,oC 14 167 [(tK 11),(tK 12),(tK 13)] [29,26,26] 100,oM 10 14 100,oE 15 10 0 3,oE 16 10 1 3,oE 17 10 2 4,oA 7 15 3,oA 8 16 3,oA 9 17 4]) (.seq (.ops [oM 18 9 4,oX 19 (.unOp .not 4 (tK 18)) 4,oA 6 19 4]) .ret))
theorem rR:Try.f140.body.map (Bt lends)=some A29:=by kernel_rfl
theorem A8q:CW Try.f140 3=true:=by kernel_rfl
theorem AEI{a l:List D}{r:D×List D}(h:CU Y.env A29 (Gq AZ l.length [ci 6] r) (entry a l))(ha:a.length=3):Y.call 140 a l=some r:=
 AY (Y:=Y) rfl Try.func140 (ha▸A8q) rR h
theorem VF(AA:Int)(AB:Int)(AJ:AX)(AL:AX)(x_:AU)(y:AU){r:Bool}(h:OV AA AB AJ AL x_ y=some r):Y.call 140 [cj [bh .i64 AA,bh .i64 AB,ca 26 (AP CO AJ),ca 26 (AP CO AL)],ca 3 (AP (bh .i64) x_),ca 3 (AP (bh .i64) y)] []=some (cf r,[]):=by
 refine AEI ?_ rfl;unfold A29;unfold OV at h;obtain⟨Uz,hl1,h⟩:=Ao h;try dsimp only at h
 have c1:=YT AA AB AJ AL x_ y hl1
 obtain rfl:=Option.some.inj h
 simp (maxDischargeDepth:=9) only [↓AQ,AR,Aj,↓reduceIte,bk,bl,bm,bo,bp,br,bt,bw,bx,bO,b3,b4,b5,b6,b7,b8,b9,c1]<;>(repeat' apply A7)<;>first|rfl|exact⟨_,rfl⟩|exact⟨_,_,rfl⟩|simp [AP,AC]
def F7(AA:Int)(AB:Int)(AJ:AX)(AL:AX)(out:AU)(in_:AU)(b:Int):Option ((AU×Int)⊕(AU)):= if b<AA then (OV AA AB AJ AL out [b]).bind fun YV=> if YV=true then ck (in_.length+1<1099511627776)<| some (cd ((in_++[b]),cb.wrap (b+1))) else some (cd (in_,cb.wrap (b+1))) else some (cc in_)
def Jr(AA:Int)(AB:Int)(AJ:AX)(AL:AX)(out:AU)(v:AU×Int):Option (AU):=JZ (fun v=>F7 AA AB AJ AL out v.1 v.2) v
def Ky(AA:Int)(AB:Int)(AJ:AX)(AL:AX)(out:AU):Option (AU):= (Jr AA AB AJ AL out ([],0)).bind fun AV=> some AV
def Ye:SC:= .seq (.seq (.ops [oM 7 6 3,oF 8 29 2 0,oL 9 3 8 3,oB 10 .lss 3 (tK 7) (tK 9) 3 4]) (.cond (tK 10) .skip (.exit 0))) (.seq (.block 1 (.seq (.ops [oL 13 29 2 29,oM 14 1 26,oM 15 6 3,oX 16 (.buildSlice 26 1 #[(0,(tK 15))]) 26,oC 17 140 [(tK 13),(tK 14),(tK 16)] [29,26,26] 4]) (.cond (tK 17) (.ops [oM 18 5 26,oM 19 6 3,oX 20 (.buildSlice 26 1 #[(0,(tK 19))]) 26,oX 21 (.call ⟨(.builtin .append), #[(tK 18),(tK 20)], #[26,26]⟩) 26,oA 5 21 26]) .skip))) (.ops [oM 11 6 3,oB 12 .add 3 (tK 11) (iK 1) 3 3,oA 6 12 3]))
def nQ:SC:= .loop Ye
def k95:SC:= .seq (.ops [oX 2 (.box 29 (tK 0)) 0,oX 4 Iy 26]) (.seq (.ops [oX 5 Iy 26]) (.seq (.seq (.ops [oX 6 (.assign (iK 0)) 3]) (.block 0 nQ)) (.seq (.ops [oM 22 5 26,oA 4 22 26]) .ret)))
theorem A2A:Try.f95.body.map (Bt lends)=some k95:=by kernel_rfl
theorem AEK:CW Try.f95 2=true:=by kernel_rfl
theorem c95{a l:List D}{r:D×List D}(h:CU Y.env k95 (Gq AZ l.length [ci 4] r) (entry a l))(ha:a.length=2):Y.call 95 a l=some r:=
 AY (Y:=Y) rfl Try.func95 (ha▸AEK) A2A h
def EI(AA:Int)(AB:Int)(AJ:AX)(AL:AX)(out:AU)(in_:AU)(b:Int)(s:St):Prop:=s.v 1=ca 3 (AP (bh .i64) out)∧s.v 2=ct [bh .i64 AA,bh .i64 AB,ca 26 (AP CO AJ),ca 26 (AP CO AL)]∧s.v 5=cg 3 (AP (bh .i64) in_)∧s.v 6=bh .i64 b
def F8(AA:Int)(AB:Int)(AJ:AX)(AL:AX)(out:AU)(r:AU)(ex:Ex)(s:St):Prop:=ex= .exit 0∧s.v 5=cg 3 (AP (bh .i64) r)
theorem RH(AA:Int)(AB:Int)(AJ:AX)(AL:AX)(out:AU){v:AU×Int}{s:St}{r:AU}(h:Jr AA AB AJ AL out v=some r)(hM:EI AA AB AJ AL out v.1 v.2 s):CU Y.env nQ (F8 AA AB AJ AL out r) s:=by
 unfold Jr at h;refine CF (c:=Ye) (fun v=>F7 AA AB AJ AL out v.1 v.2) (fun v s=>EI AA AB AJ AL out v.1 v.2 s) (F8 AA AB AJ AL out) ?_ h hM;clear h hM s v r;intro v s o hM h;obtain⟨in_,b⟩:=v;dsimp only at h hM;unfold F7 at h;unfold EI at hM;obtain⟨m0,m1,m2,m3⟩:=hM;unfold Ye;by_cases e1:b<AA
 ·rw [if_pos e1]at h;obtain⟨YV,hl2,h⟩:=Ao h;try dsimp only at h
  have c2:=VF AA AB AJ AL out [b] hl2;simp only [DT,JC,Ff,Ia,La,L9,Je]at c2;by_cases e3:YV=true
  ·rw [if_pos e3]at h;obtain⟨e4,h⟩:=Cb h
   obtain rfl:=Option.some.inj h
   simp (maxDischargeDepth:=9) only [↓AQ,AR,Aj,↓reduceIte,bk,bl,bm,bo,bp,br,bt,bw,bx,bO,b3,b4,b5,b6,b7,b8,b9,m0,m1,m2,m3,e1,c2,e3,e4,EI,F8,Cx,Cy,Cz]<;>(repeat' apply A7)<;>first|rfl|exact⟨_,rfl⟩|exact⟨_,_,rfl⟩|simp [AP,AC]
  ·rw [if_neg e3]at h;have e3f:YV=false:=Iw.mpr e3
   obtain rfl:=Option.some.inj h
   simp (maxDischargeDepth:=9) only [↓AQ,AR,Aj,↓reduceIte,bk,bl,bm,bo,bp,br,bt,bw,bx,bO,b3,b4,b5,b6,b7,b8,b9,m0,m1,m2,m3,e1,c2,e3f,EI,F8,Cx,Cy,Cz]<;>(repeat' apply A7)<;>first|rfl|exact⟨_,rfl⟩|exact⟨_,_,rfl⟩|simp [AP,AC]
 ·rw [if_neg e1]at h
  obtain rfl:=Option.some.inj h
  simp (maxDischargeDepth:=9) only [↓AQ,AR,Aj,↓reduceIte,bk,bl,bm,bo,bp,br,bt,bw,bx,bO,b3,b4,b5,b6,b7,b8,b9,m0,m1,m2,m3,e1,EI,F8,Cx,Cy,Cz]<;>(repeat' apply A7)<;>first|rfl|exact⟨_,rfl⟩|exact⟨_,_,rfl⟩|simp [AP,AC]
theorem Si(AA:Int)(AB:Int)(AJ:AX)(AL:AX)(out:AU){r:AU}(h:Ky AA AB AJ AL out=some r):Y.call 95 [cj [bh .i64 AA,bh .i64 AB,ca 26 (AP CO AJ),ca 26 (AP CO AL)],ca 3 (AP (bh .i64) out)] []=some (cg 3 (AP (bh .i64) r),[]):=by
 refine c95 ?_ rfl;unfold k95;unfold Ky at h;obtain⟨AV,hl2,h⟩:=Ao h;try dsimp only at h
 simp (maxDischargeDepth:=9) only [↓AQ,AR,Aj,↓reduceIte,bk,bl,bm,bo,bp,br,bt,bw,bx,bO,b3,b4,b5,b6,b7,b8,b9];refine Bc (RH AA AB AJ AL out hl2 ?_) ?_
 ·simp (maxDischargeDepth:=9) only [↓AQ,AR,Aj,↓reduceIte,bk,bl,bm,bo,bp,br,bt,bw,bx,bO,b3,b4,b5,b6,b7,b8,b9,EI]<;>(repeat' apply A7)<;>first|rfl|exact⟨_,rfl⟩|exact⟨_,_,rfl⟩|simp [AP,AC]
 ·intro ex2 s2 hX2;unfold F8 at hX2;obtain⟨rfl,n2_0⟩:=hX2
  obtain rfl:=Option.some.inj h
  simp (maxDischargeDepth:=9) only [↓AQ,AR,Aj,↓reduceIte,bk,bl,bm,bo,bp,br,bt,bw,bx,bO,b3,b4,b5,b6,b7,b8,b9,n2_0]<;>(repeat' apply A7)<;>first|rfl|exact⟨_,rfl⟩|exact⟨_,_,rfl⟩|simp [AP,AC]
def Gx(l:AU)(mask:Int)(Vz:Int):Option ((Int×Int)⊕(Int)):= if Vz<(l.length:Int)then ck (0≤Vz∧Vz.toNat<l.length)<| ck (¬(cq.wrap (l.getD Vz.toNat bj))<0)<| some (cd (cb.wrap (mask+(cb.wrap (1*2 ^ (min (cq.wrap (l.getD Vz.toNat bj)).toNat (cb.bits))))),cb.wrap (Vz+1))) else some (cc mask)
def LX(l:AU)(v:Int×Int):Option (Int):=JZ (fun v=>Gx l v.1 v.2) v
def K9(l:AU):Option (Int):= (LX l (0,0)).bind fun AV=> some AV
def VH:SC:= .seq (.ops [oB 9 .lss 3 (tK 8) (tK 7) 3 0]) (.seq (.cond (tK 9) .skip (.exit 0)) (.seq (.block 1 (.seq (.ops [oI 10 26 6 8,oL 11 3 10 3,oA 5 11 3]) (.ops [oM 12 3 3,oM 13 5 3,oX 14 (.convert 3 110 (tK 13)) 110,oB 15 .shl 3 (iK 1) (tK 14) 110 3,oB 16 .add 3 (tK 12) (tK 15) 3 3,oA 3 16 3]))) (.ops [oB 17 .add 3 (tK 8) (iK 1) 3 3,oM 8 17 3])))
def gH:SC:= .loop VH
def A2B:SC:= .seq (.ops [oX 2 (.assign (iK 0)) 3]) (.seq (.ops [oX 3 (.assign (iK 0)) 3]) (.seq (.seq (.ops [oM 6 0 26,oN 7 6 26,oX 8 (.move (iK 0)) 3]) (.block 0 gH)) (.seq (.ops [oM 18 3 3,oA 2 18 3]) .ret)))
theorem rT:Try.f141.body.map (Bt lends)=some A2B:=by kernel_rfl
theorem A8r:CW Try.f141 1=true:=by kernel_rfl
theorem AEL{a l:List D}{r:D×List D}(h:CU Y.env A2B (Gq AZ l.length [ci 2] r) (entry a l))(ha:a.length=1):Y.call 141 a l=some r:=
 AY (Y:=Y) rfl Try.func141 (ha▸A8r) rT h
def Gy(l:AU)(mask:Int)(Vz:Int)(s:St):Prop:=s.v 3=bh .i64 mask∧s.v 6=ca 3 (AP (bh .i64) l)∧s.v 7=bh .i64 (l.length:Int)∧s.v 8=bh .i64 Vz
def IX(l:AU)(r:Int)(ex:Ex)(s:St):Prop:=ex= .exit 0∧s.v 3=bh .i64 r
theorem VI(l:AU){v:Int×Int}{s:St}{r:Int}(h:LX l v=some r)(hM:Gy l v.1 v.2 s):CU Y.env gH (IX l r) s:=by
 unfold LX at h;refine CF (c:=VH) (fun v=>Gx l v.1 v.2) (fun v s=>Gy l v.1 v.2 s) (IX l) ?_ h hM;clear h hM s v r;intro v s o hM h;obtain⟨mask,Vz⟩:=v;dsimp only at h hM;unfold Gx at h;unfold Gy at hM;obtain⟨m0,m1,m2,m3⟩:=hM;unfold VH;by_cases e1:Vz<(l.length:Int)
 ·rw [if_pos e1]at h;obtain⟨e2,h⟩:=Cb h;obtain⟨e3,h⟩:=Cb h
  obtain rfl:=Option.some.inj h
  simp (maxDischargeDepth:=9) only [↓AQ,AR,Aj,↓reduceIte,bk,bl,bm,bo,bp,br,bt,bw,bx,bO,b3,b4,b5,b6,b7,b8,b9,m0,m1,m2,m3,e1,e2.1,e2.2,e3,Gy,IX,Cx,Cy,Cz]<;>(repeat' apply A7)<;>first|rfl|exact⟨_,rfl⟩|exact⟨_,_,rfl⟩|simp [AP,AC]
 ·rw [if_neg e1]at h
  obtain rfl:=Option.some.inj h
  simp (maxDischargeDepth:=9) only [↓AQ,AR,Aj,↓reduceIte,bk,bl,bm,bo,bp,br,bt,bw,bx,bO,b3,b4,b5,b6,b7,b8,b9,m0,m1,m2,m3,e1,Gy,IX,Cx,Cy,Cz]<;>(repeat' apply A7)<;>first|rfl|exact⟨_,rfl⟩|exact⟨_,_,rfl⟩|simp [AP,AC]
theorem Ot(l:AU){r:Int}(h:K9 l=some r):Y.call 141 [ca 3 (AP (bh .i64) l)] []=some (bh .i64 r,[]):=by
 refine AEL ?_ rfl;unfold A2B;unfold K9 at h;obtain⟨AV,hl2,h⟩:=Ao h;try dsimp only at h
 simp (maxDischargeDepth:=9) only [↓AQ,AR,Aj,↓reduceIte,bk,bl,bm,bo,bp,br,bt,bw,bx,bO,b3,b4,b5,b6,b7,b8,b9];refine Bc (VI l hl2 ?_) ?_
 ·simp (maxDischargeDepth:=9) only [↓AQ,AR,Aj,↓reduceIte,bk,bl,bm,bo,bp,br,bt,bw,bx,bO,b3,b4,b5,b6,b7,b8,b9,Gy]<;>(repeat' apply A7)<;>first|rfl|exact⟨_,rfl⟩|exact⟨_,_,rfl⟩|simp [AP,AC]
 ·intro ex2 s2 hX2;unfold IX at hX2;obtain⟨rfl,n2_0⟩:=hX2
  obtain rfl:=Option.some.inj h
  simp (maxDischargeDepth:=9) only [↓AQ,AR,Aj,↓reduceIte,bk,bl,bm,bo,bp,br,bt,bw,bx,bO,b3,b4,b5,b6,b7,b8,b9,n2_0]<;>(repeat' apply A7)<;>first|rfl|exact⟨_,rfl⟩|exact⟨_,_,rfl⟩|simp [AP,AC]
def G9(rec_:AU→AU→Int→Option Bool)(x_:AU)(masks:AU)(k:Int)(Ca:Int):Option ((Int)⊕(Unit⊕Unit)):= if Ca<(x_.length:Int)then ck (0≤Ca∧Ca.toNat<x_.length)<| if 0<Ca then ck (0≤cb.wrap (Ca-1)∧(cb.wrap (Ca-1)).toNat<x_.length)<| if(x_.getD ((cb.wrap (Ca-1)).toNat) bj)=(x_.getD Ca.toNat bj)then some (cd (cb.wrap (Ca+1))) else ck (0≤k∧k.toNat<masks.length)<| (Mq (masks.getD k.toNat bj) (x_.getD Ca.toNat bj)).bind fun Yf=> if Yf=true then ck (0≤Ca)<| ck (Ca.toNat≤x_.length)<| (OT ((x_.take Ca.toNat).drop 0)).bind fun eQ=> ck (0≤cb.wrap (Ca+1))<| ck ((cb.wrap (Ca+1)).toNat≤x_.length)<| ck (eQ.length+((x_.take x_.length).drop ((cb.wrap (Ca+1)).toNat)).length<1099511627776)<| (rec_ (eQ++((x_.take x_.length).drop ((cb.wrap (Ca+1)).toNat))) masks (cb.wrap (k+1))).bind fun Mo=> if Mo=true then some (cc (cd ())) else some (cd (cb.wrap (Ca+1))) else some (cd (cb.wrap (Ca+1))) else ck (0≤k∧k.toNat<masks.length)<| (Mq (masks.getD k.toNat bj) (x_.getD Ca.toNat bj)).bind fun Yf=> if Yf=true then ck (0≤Ca)<| ck (Ca.toNat≤x_.length)<| (OT ((x_.take Ca.toNat).drop 0)).bind fun eQ=>
 ck (0≤cb.wrap (Ca+1))<| ck ((cb.wrap (Ca+1)).toNat≤x_.length)<| ck (eQ.length+((x_.take x_.length).drop ((cb.wrap (Ca+1)).toNat)).length<1099511627776)<| (rec_ (eQ++((x_.take x_.length).drop ((cb.wrap (Ca+1)).toNat))) masks (cb.wrap (k+1))).bind fun Mo=> if Mo=true then some (cc (cd ())) else some (cd (cb.wrap (Ca+1))) else some (cd (cb.wrap (Ca+1))) else some (cc (cc ()))
def KS(rec_:AU→AU→Int→Option Bool)(x_:AU)(masks:AU)(k:Int)(v:Int):Option (Unit⊕Unit):=JZ (fun v=>G9 rec_ x_ masks k v) v
def Hl(rec_:AU→AU→Int→Option Bool)(x_:AU)(masks:AU)(k:Int):Option (Bool):=
 if k=(masks.length:Int)then
  some true
 else
  (KS rec_ x_ masks k 0).bind fun AV=>
  match AV with
  | .inl q1000_=>
   some true
  | .inr q1000_=>
   some false
def Dy:Nat→AU→AU→Int→Option Bool |0=>fun _ _ _=>none |n+1=>fun x_ masks k=>Hl (Dy n) x_ masks k
def RI(x_:AU)(masks:AU)(k:Int):Option (Bool):=Dy 1000000 x_ masks k
abbrev RJ:List Nat:=[40,41,42,43,44,45,46,47,48,43,47,43,0,49,50,51,52]
def VJ:SC:= .seq (.ops [oB 16 .lss 3 (tK 15) (tK 14) 3 0]) (.seq (.cond (tK 16) .skip (.exit 0)) (.seq (.block 1 (.seq (.ops [oM 17 15 3,oI 18 26 13 15,oL 19 3 18 3,oA 7 17 3,oA 8 19 3]) (.seq (.seq (.ops [oM 20 7 3,oB 21 .gtr 3 (tK 20) (iK 0) 3 4,oM 22 21 4,⟨(some 23),(.move (tK 0)),26,(some (some 22,true))⟩,⟨(some 24),(.move (tK 7)),3,(some (some 22,true))⟩,⟨(some 25),(.binOp .sub 3 (tK 24) (iK 1) 3),3,(some (some 22,true))⟩,⟨(some 26),(.indexAddr 26 (tK 23) (tK 25)),0,(some (some 22,true))⟩,⟨(some 27),(.load 3 (tK 26)),3,(some (some 22,true))⟩,⟨(some 28),(.move (tK 8)),3,(some (some 22,true))⟩,⟨(some 29),(.binOp .eql 3 (tK 27) (tK 28) 3),4,(some (some 22,true))⟩,oX 30 (.pick (tK 22) (tK 29) OZ) 4,oM 31 30 4,⟨(some 32),(.move (tK 1)),26,(some (some 31,false))⟩,⟨(some 33),(.move (tK 2)),3,(some (some 31,false))⟩,⟨(some 34),(.indexAddr 26 (tK 32) (tK 33)),0,(some (some 31,false))⟩,⟨(some 35),(.load 3 (tK 34)),3,(some (some 31,false))⟩,⟨(some 36),(.move (tK 8)),3,(some (some 31,false))⟩,⟨(some 37),(.call ⟨(.value (.func 139)), #[(tK 35),(tK 36)], #[3,3]⟩),4,(some (some 31,false))⟩,⟨(some 38),(.unOp .not 4 (tK 37)),4,(some (some 31,false))⟩,oX 39 (.pick (tK 31) H6 (tK 38)) 4])
 (.cond (tK 39) (.exit 1) .skip)) (.seq (.draws [(⟨[40,0,0],RJ,[40]⟩,oM 40 0 26),(⟨[41,7,7],RJ,[41]⟩,oM 41 7 3),(⟨[42,40,41,0,7],RJ,[42]⟩,oX 42 (.slice 26 (tK 40) none (some (tK 41)) none) 26),(⟨[43,42,0],RJ,[43]⟩,oC 43 87 [(tK 42)] [26] 26),(⟨[44,0,0],RJ,[44]⟩,oM 44 0 26),(⟨[45,7,7],RJ,[45]⟩,oM 45 7 3),(⟨[46,45,7],RJ,[46]⟩,oB 46 .add 3 (tK 45) (iK 1) 3 3),(⟨[47,44,46,0,46],RJ,[47]⟩,oX 47 (.slice 26 (tK 44) (some (tK 46)) none none) 26),(⟨[48,43,47,43,0],RJ,[48,43,47,43,0]⟩,oX 48 (.call ⟨(.builtin .append), #[(tK 43),(tK 47)], #[26,26]⟩) 26),(⟨[49,1,1],RJ,[49]⟩,oM 49 1 26),(⟨[50,2,2],RJ,[50]⟩,oM 50 2 3),(⟨[51,50,2],RJ,[51]⟩,oB 51 .add 3 (tK 50) (iK 1) 3 3),(⟨[52,48,49,51,48,1,51],RJ,[52]⟩,oC 52 168 [(tK 48),(tK 49),(tK 51)] [26,26,3] 4)]) (.cond (tK 52) (.seq (.ops [oX 6 (.assign H6) 4]) .ret) .skip))))) (.ops [oB 53 .add 3 (tK 15) (iK 1) 3 3,oM 15 53 3])))
def gI:SC:= .loop VJ
def A2C:SC:= .seq (.ops [oX 6 CX 4]) (.seq (.seq (.ops [oM 9 2 3,oM 10 1 26,oN 11 10 26,oB 12 .eql 3 (tK 9) (tK 11) 3 4]) (.cond (tK 12) (.seq (.ops [oX 6 (.assign H6) 4]) .ret) .skip)) (.seq (.seq (.ops [oM 13 0 26,oN 14 13 26,oX 15 (.move (iK 0)) 3]) (.block 0 gI)) (.seq (.ops [oX 6 CX 4]) .ret)))
theorem rU:Try.f168.body.map (Bt lends)=some A2C:=by kernel_rfl
theorem A8s:CW Try.f168 3=true:=by kernel_rfl
theorem AEM{a l:List D}{r:D×List D}(h:CU Y.env A2C (Gq AZ l.length [ci 6] r) (entry a l))(ha:a.length=3):Y.call 168 a l=some r:=
 AY (Y:=Y) rfl Try.func168 (ha▸A8s) rU h
def CR(rec_:AU→AU→Int→Option Bool)(x_:AU)(masks:AU)(k:Int)(Ca:Int)(s:St):Prop:=s.v 0=ca 3 (AP (bh .i64) x_)∧s.v 1=ca 3 (AP (bh .i64) masks)∧s.v 2=bh .i64 k∧s.v 13=ca 3 (AP (bh .i64) x_)∧s.v 14=bh .i64 (x_.length:Int)∧s.v 15=bh .i64 Ca
def CS(rec_:AU→AU→Int→Option Bool)(x_:AU)(masks:AU)(k:Int)(r:Unit⊕Unit)(ex:Ex)(s:St):Prop:=match r with
 | .inl q=>ex= .ret∧s.v 6=cf true
 | .inr q=>ex= .exit 0
theorem Sj(rec_:AU→AU→Int→Option Bool)(x_:AU)(masks:AU)(k:Int)(rec_h: ∀(x_:AU) (masks:AU) (k:Int) (r:Bool),rec_ x_ masks k=some r→Y.call 168 [ca 3 (AP (bh .i64) x_),ca 3 (AP (bh .i64) masks),bh .i64 k] []=some (cf r,[])){v:Int}{s:St}{r:Unit⊕Unit}(h:KS rec_ x_ masks k v=some r)(hM:CR rec_ x_ masks k v s):CU Y.env gI (CS rec_ x_ masks k r) s:=by
 unfold KS at h;refine CF (c:=VJ) (fun v=>G9 rec_ x_ masks k v) (fun v s=>CR rec_ x_ masks k v s) (CS rec_ x_ masks k) ?_ h hM;clear h hM s v r;intro Ca s o hM h;unfold G9 at h;unfold CR at hM;obtain⟨m0,m1,m2,m3,m4,m5⟩:=hM;unfold VJ;by_cases e2:Ca<(x_.length:Int)
 ·rw [if_pos e2]at h;obtain⟨e3,h⟩:=Cb h;by_cases e4:0<Ca
  ·rw [if_pos e4]at h;obtain⟨e5,h⟩:=Cb h;by_cases e6:(x_.getD ((cb.wrap (Ca-1)).toNat) bj)=(x_.getD Ca.toNat bj)
   ·rw [if_pos e6]at h
    obtain rfl:=Option.some.inj h
    simp (maxDischargeDepth:=9) only [↓AQ,AR,Aj,↓reduceIte,bk,bl,bm,bo,bp,br,bt,bw,bx,bO,b3,b4,b5,b6,b7,b8,b9,m0,m1,m2,m3,m4,m5,e2,e3.1,e3.2,e4,e5.1,e5.2,decide_eq_true e6,CR,CS,Cx,Cy,Cz]<;>(repeat' apply A7)<;>first|rfl|exact⟨_,rfl⟩|exact⟨_,_,rfl⟩|simp [AP,AC]
   ·rw [if_neg e6]at h;obtain⟨e7,h⟩:=Cb h;obtain⟨Yf,hl8,h⟩:=Ao h;try dsimp only at h
    have c8:=O3 (masks.getD k.toNat bj) (x_.getD Ca.toNat bj) hl8;by_cases e9:Yf=true
    ·rw [if_pos e9]at h;obtain⟨e10,h⟩:=Cb h;obtain⟨e11,h⟩:=Cb h;obtain⟨eQ,hl12,h⟩:=Ao h;try dsimp only at h
     have aM:=QK ((x_.take Ca.toNat).drop 0) hl12;obtain⟨e13,h⟩:=Cb h;obtain⟨e14,h⟩:=Cb h;obtain⟨e15,h⟩:=Cb h;obtain⟨Mo,hl16,h⟩:=Ao h;try dsimp only at h
     have NC:=rec_h _ _ _ _ hl16;by_cases e17:Mo=true
     ·rw [if_pos e17]at h
      obtain rfl:=Option.some.inj h
      simp (maxDischargeDepth:=9) only [↓AQ,AR,Aj,↓reduceIte,bk,bl,bm,bo,bp,br,bt,bw,bx,bO,b3,b4,b5,b6,b7,b8,b9,m0,m1,m2,m3,m4,m5,e2,e3.1,e3.2,e4,e5.1,e5.2,e6,e7.1,e7.2,c8,e9,e10,e11,aM,e13,e14,e15,NC,e17,CR,CS,Cx,Cy,Cz]<;>(repeat' apply A7)<;>first|rfl|exact⟨_,rfl⟩|exact⟨_,_,rfl⟩|simp [AP,AC]
     ·rw [if_neg e17]at h;have e17f:Mo=false:=Iw.mpr e17
      obtain rfl:=Option.some.inj h
      simp (maxDischargeDepth:=9) only [↓AQ,AR,Aj,↓reduceIte,bk,bl,bm,bo,bp,br,bt,bw,bx,bO,b3,b4,b5,b6,b7,b8,b9,m0,m1,m2,m3,m4,m5,e2,e3.1,e3.2,e4,e5.1,e5.2,e6,e7.1,e7.2,c8,e9,e10,e11,aM,e13,e14,e15,NC,e17f,CR,CS,Cx,Cy,Cz]<;>(repeat' apply A7)<;>first|rfl|exact⟨_,rfl⟩|exact⟨_,_,rfl⟩|simp [AP,AC]
    ·rw [if_neg e9]at h;have e9f:Yf=false:=Iw.mpr e9
     obtain rfl:=Option.some.inj h
     simp (maxDischargeDepth:=9) only [↓AQ,AR,Aj,↓reduceIte,bk,bl,bm,bo,bp,br,bt,bw,bx,bO,b3,b4,b5,b6,b7,b8,b9,m0,m1,m2,m3,m4,m5,e2,e3.1,e3.2,e4,e5.1,e5.2,e6,e7.1,e7.2,c8,e9f,CR,CS,Cx,Cy,Cz]<;>(repeat' apply A7)<;>first|rfl|exact⟨_,rfl⟩|exact⟨_,_,rfl⟩|simp [AP,AC]
  ·rw [if_neg e4]at h;obtain⟨e5,h⟩:=Cb h;obtain⟨Yf,hl6,h⟩:=Ao h;try dsimp only at h
   have c6:=O3 (masks.getD k.toNat bj) (x_.getD Ca.toNat bj) hl6;by_cases e7:Yf=true
   ·rw [if_pos e7]at h;obtain⟨e8,h⟩:=Cb h;obtain⟨e9,h⟩:=Cb h;obtain⟨eQ,hl10,h⟩:=Ao h;try dsimp only at h
    have SV:=QK ((x_.take Ca.toNat).drop 0) hl10;obtain⟨e11,h⟩:=Cb h;obtain⟨e12,h⟩:=Cb h;obtain⟨e13,h⟩:=Cb h;obtain⟨Mo,hl14,h⟩:=Ao h;try dsimp only at h
    have av:=rec_h _ _ _ _ hl14;by_cases e15:Mo=true
    ·rw [if_pos e15]at h
     obtain rfl:=Option.some.inj h
     simp (maxDischargeDepth:=9) only [↓AQ,AR,Aj,↓reduceIte,bk,bl,bm,bo,bp,br,bt,bw,bx,bO,b3,b4,b5,b6,b7,b8,b9,m0,m1,m2,m3,m4,m5,e2,e3.1,e3.2,e4,e5.1,e5.2,c6,e7,e8,e9,SV,e11,e12,e13,av,e15,CR,CS,Cx,Cy,Cz]<;>(repeat' apply A7)<;>first|rfl|exact⟨_,rfl⟩|exact⟨_,_,rfl⟩|simp [AP,AC]
    ·rw [if_neg e15]at h;have e15f:Mo=false:=Iw.mpr e15
     obtain rfl:=Option.some.inj h
     simp (maxDischargeDepth:=9) only [↓AQ,AR,Aj,↓reduceIte,bk,bl,bm,bo,bp,br,bt,bw,bx,bO,b3,b4,b5,b6,b7,b8,b9,m0,m1,m2,m3,m4,m5,e2,e3.1,e3.2,e4,e5.1,e5.2,c6,e7,e8,e9,SV,e11,e12,e13,av,e15f,CR,CS,Cx,Cy,Cz]<;>(repeat' apply A7)<;>first|rfl|exact⟨_,rfl⟩|exact⟨_,_,rfl⟩|simp [AP,AC]
   ·rw [if_neg e7]at h;have e7f:Yf=false:=Iw.mpr e7
    obtain rfl:=Option.some.inj h
    simp (maxDischargeDepth:=9) only [↓AQ,AR,Aj,↓reduceIte,bk,bl,bm,bo,bp,br,bt,bw,bx,bO,b3,b4,b5,b6,b7,b8,b9,m0,m1,m2,m3,m4,m5,e2,e3.1,e3.2,e4,e5.1,e5.2,c6,e7f,CR,CS,Cx,Cy,Cz]<;>(repeat' apply A7)<;>first|rfl|exact⟨_,rfl⟩|exact⟨_,_,rfl⟩|simp [AP,AC]
 ·rw [if_neg e2]at h
  obtain rfl:=Option.some.inj h
  simp (maxDischargeDepth:=9) only [↓AQ,AR,Aj,↓reduceIte,bk,bl,bm,bo,bp,br,bt,bw,bx,bO,b3,b4,b5,b6,b7,b8,b9,m0,m1,m2,m3,m4,m5,e2,CR,CS,Cx,Cy,Cz]<;>(repeat' apply A7)<;>first|rfl|exact⟨_,rfl⟩|exact⟨_,_,rfl⟩|simp [AP,AC]
theorem RL(rec_:AU→AU→Int→Option Bool)(x_:AU)(masks:AU)(k:Int)(rec_h: ∀(x_:AU) (masks:AU) (k:Int) (r:Bool),rec_ x_ masks k=some r→Y.call 168 [ca 3 (AP (bh .i64) x_),ca 3 (AP (bh .i64) masks),bh .i64 k] []=some (cf r,[])){r:Bool}(h:Hl rec_ x_ masks k=some r):Y.call 168 [ca 3 (AP (bh .i64) x_),ca 3 (AP (bh .i64) masks),bh .i64 k] []=some (cf r,[]):=by
 refine AEM ?_ rfl;unfold A2C;unfold Hl at h;by_cases e1:k=(masks.length:Int)
 ·rw [if_pos e1]at h
  obtain rfl:=Option.some.inj h
  simp (maxDischargeDepth:=9) only [↓AQ,AR,Aj,↓reduceIte,bk,bl,bm,bo,bp,br,bt,bw,bx,bO,b3,b4,b5,b6,b7,b8,b9,decide_eq_true e1]<;>(repeat' apply A7)<;>first|rfl|exact⟨_,rfl⟩|exact⟨_,_,rfl⟩|simp [AP,AC]
 ·rw [if_neg e1]at h;obtain⟨AV,hl3,h⟩:=Ao h;try dsimp only at h
  simp (maxDischargeDepth:=9) only [↓AQ,AR,Aj,↓reduceIte,bk,bl,bm,bo,bp,br,bt,bw,bx,bO,b3,b4,b5,b6,b7,b8,b9,e1];refine Bc (Sj rec_ x_ masks k rec_h hl3 ?_) ?_
  ·simp (maxDischargeDepth:=9) only [↓AQ,AR,Aj,↓reduceIte,bk,bl,bm,bo,bp,br,bt,bw,bx,bO,b3,b4,b5,b6,b7,b8,b9,e1,CR]<;>(repeat' apply A7)<;>first|rfl|exact⟨_,rfl⟩|exact⟨_,_,rfl⟩|simp [AP,AC]
  ·intro ex3 s3 hX3;rcases AV with q1000_|q1000_
   ·unfold CS at hX3;dsimp only at hX3 h;obtain⟨rfl,n3_0⟩:=hX3
    obtain rfl:=Option.some.inj h
    simp (maxDischargeDepth:=9) only [↓AQ,AR,Aj,↓reduceIte,bk,bl,bm,bo,bp,br,bt,bw,bx,bO,b3,b4,b5,b6,b7,b8,b9,e1,n3_0]<;>(repeat' apply A7)<;>first|rfl|exact⟨_,rfl⟩|exact⟨_,_,rfl⟩|simp [AP,AC]
   ·unfold CS at hX3;dsimp only at hX3 h
    obtain rfl:=hX3
    obtain rfl:=Option.some.inj h
    simp (maxDischargeDepth:=9) only [↓AQ,AR,Aj,↓reduceIte,bk,bl,bm,bo,bp,br,bt,bw,bx,bO,b3,b4,b5,b6,b7,b8,b9,e1]<;>(repeat' apply A7)<;>first|rfl|exact⟨_,rfl⟩|exact⟨_,_,rfl⟩|simp [AP,AC]
theorem RN(n:Nat): ∀(x_:AU) (masks:AU) (k:Int) (r:Bool),Dy n x_ masks k=some r→Y.call 168 [ca 3 (AP (bh .i64) x_),ca 3 (AP (bh .i64) masks),bh .i64 k] []=some (cf r,[]):=by
 induction n with
 |zero=>intro x_ masks k r h;exact absurd h (by rw [Dy];exact fun e=>by cases e)
 |succ n ih=>intro x_ masks k r h;rw [Dy]at h;exact RL (Dy n) x_ masks k ih h
theorem VK(x_:AU)(masks:AU)(k:Int){r:Bool}(h:RI x_ masks k=some r):Y.call 168 [ca 3 (AP (bh .i64) x_),ca 3 (AP (bh .i64) masks),bh .i64 k] []=some (cf r,[]):=RN 1000000 x_ masks k r h
def F9(AJ:AX)(masks:AU)(WQ:Int):Option ((Int)⊕(Unit⊕Unit)):= if WQ<(AJ.length:Int)then ck (0≤WQ∧WQ.toNat<AJ.length)<| (RI (AJ.getD WQ.toNat bj) masks (0:Int)).bind fun YF=> if YF=true then some (cc (cd ())) else some (cd (cb.wrap (WQ+1))) else some (cc (cc ()))
def Js(AJ:AX)(masks:AU)(v:Int):Option (Unit⊕Unit):=JZ (fun v=>F9 AJ masks v) v
def Kz(AA:Int)(AB:Int)(AJ:AX)(AL:AX)(masks:AU):Option (Bool):=
 (Js AJ masks 0).bind fun AV=>
 match AV with
 | .inl q1000_=>
  some true
 | .inr q1000_=>
  some false
def VL:SC:= .seq (.ops [oB 11 .lss 3 (tK 10) (tK 9) 3 0]) (.seq (.cond (tK 11) .skip (.exit 0)) (.seq (.block 1 (.seq (.ops [oI 12 22 8 10,oL 13 26 12 26,oA 6 13 26]) (.seq (.ops [oM 14 6 26,oM 15 1 26,oC 16 168 [(tK 14),(tK 15),(iK 0)] [26,26,3] 4]) (.cond (tK 16) (.seq (.ops [oX 4 (.assign H6) 4]) .ret) .skip)))) (.ops [oB 17 .add 3 (tK 10) (iK 1) 3 3,oM 10 17 3])))
def gJ:SC:= .loop VL
def A2D:SC:= .seq (.ops [oX 2 (.box 29 (tK 0)) 0,oX 4 CX 4]) (.seq (.seq (.ops [oF 7 29 2 2,oL 8 22 7 22,oN 9 8 22,oX 10 (.move (iK 0)) 3]) (.block 0 gJ)) (.seq (.ops [oX 4 CX 4]) .ret))
theorem rV:Try.f142.body.map (Bt lends)=some A2D:=by kernel_rfl
theorem A8t:CW Try.f142 2=true:=by kernel_rfl
theorem AEN{a l:List D}{r:D×List D}(h:CU Y.env A2D (Gq AZ l.length [ci 4] r) (entry a l))(ha:a.length=2):Y.call 142 a l=some r:=
 AY (Y:=Y) rfl Try.func142 (ha▸A8t) rV h
def EJ(AJ:AX)(masks:AU)(WQ:Int)(s:St):Prop:=s.v 1=ca 3 (AP (bh .i64) masks)∧s.v 8=ca 26 (AP CO AJ)∧s.v 9=bh .i64 (AJ.length:Int)∧s.v 10=bh .i64 WQ
def EK(AJ:AX)(masks:AU)(r:Unit⊕Unit)(ex:Ex)(s:St):Prop:=match r with
 | .inl q=>ex= .ret∧s.v 4=cf true
 | .inr q=>ex= .exit 0
theorem RO(AJ:AX)(masks:AU){v:Int}{s:St}{r:Unit⊕Unit}(h:Js AJ masks v=some r)(hM:EJ AJ masks v s):CU Y.env gJ (EK AJ masks r) s:=by
 unfold Js at h;refine CF (c:=VL) (fun v=>F9 AJ masks v) (fun v s=>EJ AJ masks v s) (EK AJ masks) ?_ h hM;clear h hM s v r;intro WQ s o hM h;unfold F9 at h;unfold EJ at hM;obtain⟨m0,m1,m2,m3⟩:=hM;unfold VL;by_cases e1:WQ<(AJ.length:Int)
 ·rw [if_pos e1]at h;obtain⟨e2,h⟩:=Cb h;obtain⟨YF,hl3,h⟩:=Ao h;try dsimp only at h
  have c3:=VK (AJ.getD WQ.toNat bj) masks (0:Int) hl3;by_cases e4:YF=true
  ·rw [if_pos e4]at h
   obtain rfl:=Option.some.inj h
   simp (maxDischargeDepth:=9) only [↓AQ,AR,Aj,↓reduceIte,bk,bl,bm,bo,bp,br,bt,bw,bx,bO,b3,b4,b5,b6,b7,b8,b9,m0,m1,m2,m3,e1,e2.1,e2.2,c3,e4,EJ,EK,Cx,Cy,Cz]<;>(repeat' apply A7)<;>first|rfl|exact⟨_,rfl⟩|exact⟨_,_,rfl⟩|simp [AP,AC]
  ·rw [if_neg e4]at h;have e4f:YF=false:=Iw.mpr e4
   obtain rfl:=Option.some.inj h
   simp (maxDischargeDepth:=9) only [↓AQ,AR,Aj,↓reduceIte,bk,bl,bm,bo,bp,br,bt,bw,bx,bO,b3,b4,b5,b6,b7,b8,b9,m0,m1,m2,m3,e1,e2.1,e2.2,c3,e4f,EJ,EK,Cx,Cy,Cz]<;>(repeat' apply A7)<;>first|rfl|exact⟨_,rfl⟩|exact⟨_,_,rfl⟩|simp [AP,AC]
 ·rw [if_neg e1]at h
  obtain rfl:=Option.some.inj h
  simp (maxDischargeDepth:=9) only [↓AQ,AR,Aj,↓reduceIte,bk,bl,bm,bo,bp,br,bt,bw,bx,bO,b3,b4,b5,b6,b7,b8,b9,m0,m1,m2,m3,e1,EJ,EK,Cx,Cy,Cz]<;>(repeat' apply A7)<;>first|rfl|exact⟨_,rfl⟩|exact⟨_,_,rfl⟩|simp [AP,AC]
theorem Sk(AA:Int)(AB:Int)(AJ:AX)(AL:AX)(masks:AU){r:Bool}(h:Kz AA AB AJ AL masks=some r):Y.call 142 [cj [bh .i64 AA,bh .i64 AB,ca 26 (AP CO AJ),ca 26 (AP CO AL)],ca 3 (AP (bh .i64) masks)] []=some (cf r,[]):=by
 refine AEN ?_ rfl;unfold A2D;unfold Kz at h;obtain⟨AV,hl2,h⟩:=Ao h;try dsimp only at h
 simp (maxDischargeDepth:=9) only [↓AQ,AR,Aj,↓reduceIte,bk,bl,bm,bo,bp,br,bt,bw,bx,bO,b3,b4,b5,b6,b7,b8,b9];refine Bc (RO AJ masks hl2 ?_) ?_
 ·simp (maxDischargeDepth:=9) only [↓AQ,AR,Aj,↓reduceIte,bk,bl,bm,bo,bp,br,bt,bw,bx,bO,b3,b4,b5,b6,b7,b8,b9,EJ]<;>(repeat' apply A7)<;>first|rfl|exact⟨_,rfl⟩|exact⟨_,_,rfl⟩|simp [AP,AC]
 ·intro ex2 s2 hX2;rcases AV with q1000_|q1000_
  ·unfold EK at hX2;dsimp only at hX2 h;obtain⟨rfl,n2_0⟩:=hX2
   obtain rfl:=Option.some.inj h
   simp (maxDischargeDepth:=9) only [↓AQ,AR,Aj,↓reduceIte,bk,bl,bm,bo,bp,br,bt,bw,bx,bO,b3,b4,b5,b6,b7,b8,b9,n2_0]<;>(repeat' apply A7)<;>first|rfl|exact⟨_,rfl⟩|exact⟨_,_,rfl⟩|simp [AP,AC]
  ·unfold EK at hX2;dsimp only at hX2 h
   obtain rfl:=hX2
   obtain rfl:=Option.some.inj h
   simp (maxDischargeDepth:=9) only [↓AQ,AR,Aj,↓reduceIte,bk,bl,bm,bo,bp,br,bt,bw,bx,bO,b3,b4,b5,b6,b7,b8,b9]<;>(repeat' apply A7)<;>first|rfl|exact⟨_,rfl⟩|exact⟨_,_,rfl⟩|simp [AP,AC]
def Gz(AA:Int)(AB:Int)(AJ:AX)(AL:AX)(out:AU)(in_:AU)(j:Int)(masks:AU)(O4:Int):Option ((AU×Int)⊕(AU)):= if O4<((ao AB.toNat (0:Int)).length:Int)then (K9 in_).bind fun KI=> ck (0≤O4∧O4.toNat<masks.length)<| if O4<j then (K9 out).bind fun jW=> ck (0≤O4∧O4.toNat<(masks.set O4.toNat KI).length)<| some (cd (((masks.set O4.toNat KI).set O4.toNat jW),cb.wrap (O4+1))) else some (cd ((masks.set O4.toNat KI),cb.wrap (O4+1))) else some (cc masks)
def LY(AA:Int)(AB:Int)(AJ:AX)(AL:AX)(out:AU)(in_:AU)(j:Int)(v:AU×Int):Option (AU):=JZ (fun v=>Gz AA AB AJ AL out in_ j v.1 v.2) v
def O5(AA:Int)(AB:Int)(AJ:AX)(AL:AX)(out:AU)(in_:AU)(j:Int):Option (Bool):= ck (0≤AB∧AB<1099511627776)<| (LY AA AB AJ AL out in_ j ((ao AB.toNat 0),0)).bind fun AV=> (Kz AA AB AJ AL AV).bind fun A8u=> some A8u
def Yg:SC:= .seq (.ops [oB 17 .lss 3 (tK 16) (tK 15) 3 0]) (.seq (.cond (tK 17) .skip (.exit 0)) (.seq (.block 1 (.seq (.ops [oM 18 16 3,oA 10 18 3]) (.seq (.ops [oM 19 9 26,oM 20 10 3,oM 21 2 26,oC 22 141 [(tK 21)] [26] 3,oI 23 26 19 20,oS 3 23 22]) (.seq (.ops [oM 24 10 3,oM 25 3 3,oB 26 .lss 3 (tK 24) (tK 25) 3 4]) (.cond (tK 26) (.ops [oM 27 9 26,oM 28 10 3,oM 29 1 26,oC 30 141 [(tK 29)] [26] 3,oI 31 26 27 28,oS 3 31 30]) .skip))))) (.ops [oB 32 .add 3 (tK 16) (iK 1) 3 3,oM 16 32 3])))
def nR:SC:= .loop Yg
def k96:SC:= .seq (.ops [oX 4 (.box 29 (tK 0)) 0,oX 8 CX 4]) (.seq (.ops [oF 11 29 4 1,oL 12 3 11 3,oX 13 (.makeSlice 26 (tK 12) (tK 12)) 26,oA 9 13 26]) (.seq (.seq (.ops [oM 14 9 26,oN 15 14 26,oX 16 (.move (iK 0)) 3]) (.block 0 nR)) (.seq (.ops [oL 33 29 4 29,oM 34 9 26,oC 35 142 [(tK 33),(tK 34)] [29,26] 4,oA 8 35 4]) .ret)))
theorem A2E:Try.f96.body.map (Bt lends)=some k96:=by kernel_rfl
theorem AEP:CW Try.f96 4=true:=by kernel_rfl
theorem c96{a l:List D}{r:D×List D}(h:CU Y.env k96 (Gq AZ l.length [ci 8] r) (entry a l))(ha:a.length=4):Y.call 96 a l=some r:=
 AY (Y:=Y) rfl Try.func96 (ha▸AEP) A2E h
def FU(AA:Int)(AB:Int)(AJ:AX)(AL:AX)(out:AU)(in_:AU)(j:Int)(masks:AU)(O4:Int)(s:St):Prop:=s.v 1=ca 3 (AP (bh .i64) out)∧s.v 2=ca 3 (AP (bh .i64) in_)∧s.v 3=bh .i64 j∧s.v 4=ct [bh .i64 AA,bh .i64 AB,ca 26 (AP CO AJ),ca 26 (AP CO AL)]∧s.v 9=cg 3 (AP (bh .i64) masks)∧s.v 15=bh .i64 ((ao AB.toNat (0:Int)).length:Int)∧s.v 16=bh .i64 O4
def H5(AA:Int)(AB:Int)(AJ:AX)(AL:AX)(out:AU)(in_:AU)(j:Int)(r:AU)(ex:Ex)(s:St):Prop:=ex= .exit 0∧s.v 4=ct [bh .i64 AA,bh .i64 AB,ca 26 (AP CO AJ),ca 26 (AP CO AL)]∧s.v 9=cg 3 (AP (bh .i64) r)
theorem VM(AA:Int)(AB:Int)(AJ:AX)(AL:AX)(out:AU)(in_:AU)(j:Int){v:AU×Int}{s:St}{r:AU}(h:LY AA AB AJ AL out in_ j v=some r)(hM:FU AA AB AJ AL out in_ j v.1 v.2 s):CU Y.env nR (H5 AA AB AJ AL out in_ j r) s:=by
 unfold LY at h;refine CF (c:=Yg) (fun v=>Gz AA AB AJ AL out in_ j v.1 v.2) (fun v s=>FU AA AB AJ AL out in_ j v.1 v.2 s) (H5 AA AB AJ AL out in_ j) ?_ h hM;clear h hM s v r;intro v s o hM h;obtain⟨masks,O4⟩:=v;dsimp only at h hM;unfold Gz at h;unfold FU at hM;obtain⟨m0,m1,m2,m3,m4,m5,m6⟩:=hM;unfold Yg;by_cases e2:O4<((ao AB.toNat (0:Int)).length:Int)
 ·rw [if_pos e2]at h;obtain⟨KI,hl3,h⟩:=Ao h;try dsimp only at h
  have c3:=Ot in_ hl3;obtain⟨e4,h⟩:=Cb h;by_cases e5:O4<j
  ·rw [if_pos e5]at h;obtain⟨jW,hl6,h⟩:=Ao h;try dsimp only at h
   have c6:=Ot out hl6;obtain⟨e7,h⟩:=Cb h
   obtain rfl:=Option.some.inj h
   simp (maxDischargeDepth:=9) only [↓AQ,AR,Aj,↓reduceIte,bk,bl,bm,bo,bp,br,bt,bw,bx,bO,b3,b4,b5,b6,b7,b8,b9,m0,m1,m2,m3,m4,m5,m6,e2,c3,e4.1,e4.2,e5,c6,e7.1,e7.2,FU,H5,Cx,Cy,Cz]<;>(repeat' apply A7)<;>first|rfl|exact⟨_,rfl⟩|exact⟨_,_,rfl⟩|simp [AP,AC]
  ·rw [if_neg e5]at h
   obtain rfl:=Option.some.inj h
   simp (maxDischargeDepth:=9) only [↓AQ,AR,Aj,↓reduceIte,bk,bl,bm,bo,bp,br,bt,bw,bx,bO,b3,b4,b5,b6,b7,b8,b9,m0,m1,m2,m3,m4,m5,m6,e2,c3,e4.1,e4.2,e5,FU,H5,Cx,Cy,Cz]<;>(repeat' apply A7)<;>first|rfl|exact⟨_,rfl⟩|exact⟨_,_,rfl⟩|simp [AP,AC]
 ·rw [if_neg e2]at h
  obtain rfl:=Option.some.inj h
  simp (maxDischargeDepth:=9) only [↓AQ,AR,Aj,↓reduceIte,bk,bl,bm,bo,bp,br,bt,bw,bx,bO,b3,b4,b5,b6,b7,b8,b9,m0,m1,m2,m3,m4,m5,m6,e2,FU,H5,Cx,Cy,Cz]<;>(repeat' apply A7)<;>first|rfl|exact⟨_,rfl⟩|exact⟨_,_,rfl⟩|simp [AP,AC]
theorem WS(AA:Int)(AB:Int)(AJ:AX)(AL:AX)(out:AU)(in_:AU)(j:Int){r:Bool}(h:O5 AA AB AJ AL out in_ j=some r):Y.call 96 [cj [bh .i64 AA,bh .i64 AB,ca 26 (AP CO AJ),ca 26 (AP CO AL)],ca 3 (AP (bh .i64) out),ca 3 (AP (bh .i64) in_),bh .i64 j] []=some (cf r,[]):=by
 refine c96 ?_ rfl;unfold k96;unfold O5 at h;obtain⟨e1,h⟩:=Cb h;obtain⟨AV,hl3,h⟩:=Ao h;try dsimp only at h
 simp (maxDischargeDepth:=9) only [↓AQ,AR,Aj,↓reduceIte,bk,bl,bm,bo,bp,br,bt,bw,bx,bO,b3,b4,b5,b6,b7,b8,b9,e1.1,e1.2];refine Bc (VM AA AB AJ AL out in_ j hl3 ?_) ?_
 ·simp (maxDischargeDepth:=9) only [↓AQ,AR,Aj,↓reduceIte,bk,bl,bm,bo,bp,br,bt,bw,bx,bO,b3,b4,b5,b6,b7,b8,b9,e1.1,e1.2,FU]<;>(repeat' apply A7)<;>first|rfl|exact⟨_,rfl⟩|exact⟨_,_,rfl⟩|simp [AP,AC]
 ·intro ex3 s3 hX3;unfold H5 at hX3;obtain⟨rfl,n3_0,n3_1⟩:=hX3;obtain⟨A8u,hl4,h⟩:=Ao h;try dsimp only at h
  have c4:=Sk AA AB AJ AL AV hl4
  obtain rfl:=Option.some.inj h
  simp (maxDischargeDepth:=9) only [↓AQ,AR,Aj,↓reduceIte,bk,bl,bm,bo,bp,br,bt,bw,bx,bO,b3,b4,b5,b6,b7,b8,b9,e1.1,e1.2,n3_0,n3_1,c4]<;>(repeat' apply A7)<;>first|rfl|exact⟨_,rfl⟩|exact⟨_,_,rfl⟩|simp [AP,AC]
def EA(AA:Int)(AB:Int)(AJ:AX)(AL:AX)(mask:Int)(Jj:AU)(MI:AU)(good:Bool)(j:Int):Option ((Bool×Int)⊕(Bool)):= if j≤AB then if good=true then (O5 AA AB AJ AL Jj MI j).bind fun A8v=> some (cd (A8v,cb.wrap (j+1))) else some (cd (false,cb.wrap (j+1))) else some (cc good)
def FB(AA:Int)(AB:Int)(AJ:AX)(AL:AX)(mask:Int)(Jj:AU)(MI:AU)(v:Bool×Int):Option (Bool):=JZ (fun v=>EA AA AB AJ AL mask Jj MI v.1 v.2) v
def EB(AA:Int)(AB:Int)(AJ:AX)(AL:AX)(mask:Int):Option ((Int)⊕((AU×AU)⊕Unit)):= ck (¬(cq.wrap AA)<0)<| if mask<(cb.wrap (1*2 ^ (min (cq.wrap AA).toNat (cb.bits))))then (Kw AA AB AJ AL mask).bind fun Jj=> (Ky AA AB AJ AL Jj).bind fun MI=> (FB AA AB AJ AL mask Jj MI (true,0)).bind fun AV=> if AV=true then some (cc (cd (Jj,MI))) else some (cd (cb.wrap (mask+1))) else some (cc (cc ()))
def Gj(AA:Int)(AB:Int)(AJ:AX)(AL:AX)(v:Int):Option ((AU×AU)⊕Unit):=JZ (fun v=>EB AA AB AJ AL v) v
def JQ(AA:Int)(AB:Int)(AJ:AX)(AL:AX):Option (AU×AU×Bool):=
 (Gj AA AB AJ AL 0).bind fun Ev=>
 match Ev with
 | .inl q1001_=>
  some (q1001_.1,q1001_.2,true)
 | .inr q1001_=>
  some ([],[],false)
def Yh:SC:= .seq (.seq (.ops [oM 24 9 3,oF 25 29 1 1,oL 26 3 25 3,oB 27 .leq 3 (tK 24) (tK 26) 3 4]) (.cond (tK 27) .skip (.exit 2))) (.seq (.block 3 (.ops [oM 30 8 4,oM 31 30 4,⟨(some 32),(.load 29 (tK 1)),29,(some (some 31,true))⟩,⟨(some 33),(.move (tK 6)),26,(some (some 31,true))⟩,⟨(some 34),(.move (tK 7)),26,(some (some 31,true))⟩,⟨(some 35),(.move (tK 9)),3,(some (some 31,true))⟩,⟨(some 36),(.call ⟨(.value (.func 96)), #[(tK 32),(tK 33),(tK 34),(tK 35)], #[29,26,26,3]⟩),4,(some (some 31,true))⟩,oX 37 (.pick (tK 31) (tK 36) OZ) 4,oA 8 37 4])) (.ops [oM 28 9 3,oB 29 .add 3 (tK 28) (iK 1) 3 3,oA 9 29 3]))
def nS:SC:= .loop Yh
def Yi:SC:= .seq (.seq (.ops [oM 10 5 3,oF 11 29 1 0,oL 12 3 11 3,oX 13 (.convert 3 110 (tK 12)) 110,oB 14 .shl 3 (iK 1) (tK 13) 110 3,oB 15 .lss 3 (tK 10) (tK 14) 3 4]) (.cond (tK 15) .skip (.exit 0))) (.seq (.block 1 (.seq (.ops [oL 18 29 1 29,oM 19 5 3,oC 20 94 [(tK 18),(tK 19)] [29,3] 26,oA 6 20 26]) (.seq (.ops [oL 21 29 1 29,oM 22 6 26,oC 23 95 [(tK 21),(tK 22)] [29,26] 26,oA 7 23 26]) (.seq (.ops [oX 8 (.assign H6) 4]) (.seq (.seq (.ops [oX 9 (.assign (iK 0)) 3]) (.block 2 nS)) (.seq (.ops [oM 38 8 4]) (.cond (tK 38) (.seq (.ops [oM 39 6 26,oM 40 7 26,oA 2 39 26,oA 3 40 26,oX 4 (.assign H6) 4]) .ret) .skip))))))) (.ops [oM 16 5 3,oB 17 .add 3 (tK 16) (iK 1) 3 3,oA 5 17 3]))
def nT:SC:= .loop Yi
def k51:SC:= .seq (.ops [oX 1 (.box 29 (tK 0)) 0,oX 2 Iy 26,oX 3 Iy 26,oX 4 CX 4]) (.seq (.seq (.ops [oX 5 (.assign (iK 0)) 3]) (.block 0 nT)) (.seq (.ops [oX 2 Iy 26,oX 3 Iy 26,oX 4 CX 4]) .ret))
theorem A2F:Try.f51.body.map (Bt lends)=some k51:=by kernel_rfl
theorem AER:CW Try.f51 1=true:=by kernel_rfl
theorem c51{a l:List D}{r:D×List D}(h:CU Y.env k51 (Gq AZ l.length [ci 2,ci 3,ci 4] r) (entry a l))(ha:a.length=1):Y.call 51 a l=some r:=
 AY (Y:=Y) rfl Try.func51 (ha▸AER) A2F h
def DX(AA:Int)(AB:Int)(AJ:AX)(AL:AX)(mask:Int)(Jj:AU)(MI:AU)(good:Bool)(j:Int)(s:St):Prop:=s.v 1=ct [bh .i64 AA,bh .i64 AB,ca 26 (AP CO AJ),ca 26 (AP CO AL)]∧s.v 5=bh .i64 mask∧s.v 6=cg 3 (AP (bh .i64) Jj)∧s.v 7=cg 3 (AP (bh .i64) MI)∧s.v 8=cf good∧s.v 9=bh .i64 j
def EC(AA:Int)(AB:Int)(AJ:AX)(AL:AX)(mask:Int)(Jj:AU)(MI:AU)(r:Bool)(ex:Ex)(s:St):Prop:=ex= .exit 2∧s.v 1=ct [bh .i64 AA,bh .i64 AB,ca 26 (AP CO AJ),ca 26 (AP CO AL)]∧s.v 5=bh .i64 mask∧s.v 6=cg 3 (AP (bh .i64) Jj)∧s.v 7=cg 3 (AP (bh .i64) MI)∧s.v 8=cf r
theorem PQ(AA:Int)(AB:Int)(AJ:AX)(AL:AX)(mask:Int)(Jj:AU)(MI:AU){v:Bool×Int}{s:St}{r:Bool}(h:FB AA AB AJ AL mask Jj MI v=some r)(hM:DX AA AB AJ AL mask Jj MI v.1 v.2 s):CU Y.env nS (EC AA AB AJ AL mask Jj MI r) s:=by
 unfold FB at h;refine CF (c:=Yh) (fun v=>EA AA AB AJ AL mask Jj MI v.1 v.2) (fun v s=>DX AA AB AJ AL mask Jj MI v.1 v.2 s) (EC AA AB AJ AL mask Jj MI) ?_ h hM;clear h hM s v r;intro v s o hM h;obtain⟨good,j⟩:=v;dsimp only at h hM;unfold EA at h;unfold DX at hM;obtain⟨m0,m1,m2,m3,m4,m5⟩:=hM;unfold Yh;by_cases e5:j≤AB
 ·rw [if_pos e5]at h;by_cases e6:good=true
  ·rw [if_pos e6]at h;obtain⟨A8v,hl7,h⟩:=Ao h;try dsimp only at h
   have c7:=WS AA AB AJ AL Jj MI j hl7
   obtain rfl:=Option.some.inj h
   simp (maxDischargeDepth:=9) only [↓AQ,AR,Aj,↓reduceIte,bk,bl,bm,bo,bp,br,bt,bw,bx,bO,b3,b4,b5,b6,b7,b8,b9,m0,m1,m2,m3,m4,m5,e5,e6,c7,DX,EC,Cx,Cy,Cz]<;>(repeat' apply A7)<;>first|rfl|exact⟨_,rfl⟩|exact⟨_,_,rfl⟩|simp [AP,AC]
  ·rw [if_neg e6]at h;have e6f:good=false:=Iw.mpr e6
   obtain rfl:=Option.some.inj h
   simp (maxDischargeDepth:=9) only [↓AQ,AR,Aj,↓reduceIte,bk,bl,bm,bo,bp,br,bt,bw,bx,bO,b3,b4,b5,b6,b7,b8,b9,m0,m1,m2,m3,m4,m5,e5,e6f,DX,EC,Cx,Cy,Cz]<;>(repeat' apply A7)<;>first|rfl|exact⟨_,rfl⟩|exact⟨_,_,rfl⟩|simp [AP,AC]
 ·rw [if_neg e5]at h
  obtain rfl:=Option.some.inj h
  simp (maxDischargeDepth:=9) only [↓AQ,AR,Aj,↓reduceIte,bk,bl,bm,bo,bp,br,bt,bw,bx,bO,b3,b4,b5,b6,b7,b8,b9,m0,m1,m2,m3,m4,m5,e5,DX,EC,Cx,Cy,Cz]<;>(repeat' apply A7)<;>first|rfl|exact⟨_,rfl⟩|exact⟨_,_,rfl⟩|simp [AP,AC]
def DY(AA:Int)(AB:Int)(AJ:AX)(AL:AX)(mask:Int)(s:St):Prop:=s.v 1=ct [bh .i64 AA,bh .i64 AB,ca 26 (AP CO AJ),ca 26 (AP CO AL)]∧s.v 5=bh .i64 mask
def DZ(AA:Int)(AB:Int)(AJ:AX)(AL:AX)(r:(AU×AU)⊕Unit)(ex:Ex)(s:St):Prop:=match r with
 | .inl q=>ex= .ret∧s.v 2=cg 3 (AP (bh .i64) q.1)∧s.v 3=cg 3 (AP (bh .i64) q.2)∧s.v 4=cf true
 | .inr q=>ex= .exit 0
theorem PR(AA:Int)(AB:Int)(AJ:AX)(AL:AX){v:Int}{s:St}{r:(AU×AU)⊕Unit}(h:Gj AA AB AJ AL v=some r)(hM:DY AA AB AJ AL v s):CU Y.env nT (DZ AA AB AJ AL r) s:=by
 unfold Gj at h;refine CF (c:=Yi) (fun v=>EB AA AB AJ AL v) (fun v s=>DY AA AB AJ AL v s) (DZ AA AB AJ AL) ?_ h hM;clear h hM s v r;intro mask s o hM h;unfold EB at h;unfold DY at hM;obtain⟨m0,m1⟩:=hM;unfold Yi;obtain⟨e1,h⟩:=Cb h;by_cases e2:mask<(cb.wrap (1*2 ^ (min (cq.wrap AA).toNat (cb.bits))))
 ·rw [if_pos e2]at h;obtain⟨Jj,hl3,h⟩:=Ao h;try dsimp only at h
  have c3:=Sg AA AB AJ AL mask hl3;obtain⟨MI,hl4,h⟩:=Ao h;try dsimp only at h
  have c4:=Si AA AB AJ AL Jj hl4;obtain⟨AV,hl6,h⟩:=Ao h;try dsimp only at h
  simp (maxDischargeDepth:=9) only [↓AQ,AR,Aj,↓reduceIte,bk,bl,bm,bo,bp,br,bt,bw,bx,bO,b3,b4,b5,b6,b7,b8,b9,m0,m1,e1,e2,c3,c4];refine Bc (PQ AA AB AJ AL mask Jj MI hl6 ?_) ?_
  ·simp (maxDischargeDepth:=9) only [↓AQ,AR,Aj,↓reduceIte,bk,bl,bm,bo,bp,br,bt,bw,bx,bO,b3,b4,b5,b6,b7,b8,b9,m0,m1,e1,e2,c3,c4,DX]<;>(repeat' apply A7)<;>first|rfl|exact⟨_,rfl⟩|exact⟨_,_,rfl⟩|simp [AP,AC]
  ·intro ex6 s6 hX6;unfold EC at hX6;obtain⟨rfl,n6_0,n6_1,n6_2,n6_3,n6_4⟩:=hX6;by_cases e7:AV=true
   ·rw [if_pos e7]at h
    obtain rfl:=Option.some.inj h
    simp (maxDischargeDepth:=9) only [↓AQ,AR,Aj,↓reduceIte,bk,bl,bm,bo,bp,br,bt,bw,bx,bO,b3,b4,b5,b6,b7,b8,b9,e1,e2,c3,c4,n6_0,n6_1,n6_2,n6_3,n6_4,e7,DY,DZ,Cx,Cy,Cz]<;>(repeat' apply A7)<;>first|rfl|exact⟨_,rfl⟩|exact⟨_,_,rfl⟩|simp [AP,AC]
   ·rw [if_neg e7]at h;have e7f:AV=false:=Iw.mpr e7
    obtain rfl:=Option.some.inj h
    simp (maxDischargeDepth:=9) only [↓AQ,AR,Aj,↓reduceIte,bk,bl,bm,bo,bp,br,bt,bw,bx,bO,b3,b4,b5,b6,b7,b8,b9,e1,e2,c3,c4,n6_0,n6_1,n6_2,n6_3,n6_4,e7f,DY,DZ,Cx,Cy,Cz]<;>(repeat' apply A7)<;>first|rfl|exact⟨_,rfl⟩|exact⟨_,_,rfl⟩|simp [AP,AC]
 ·rw [if_neg e2]at h
  obtain rfl:=Option.some.inj h
  simp (maxDischargeDepth:=9) only [↓AQ,AR,Aj,↓reduceIte,bk,bl,bm,bo,bp,br,bt,bw,bx,bO,b3,b4,b5,b6,b7,b8,b9,m0,m1,e1,e2,DY,DZ,Cx,Cy,Cz]<;>(repeat' apply A7)<;>first|rfl|exact⟨_,rfl⟩|exact⟨_,_,rfl⟩|simp [AP,AC]
theorem QV(AA:Int)(AB:Int)(AJ:AX)(AL:AX){r:AU×AU×Bool}(h:JQ AA AB AJ AL=some r):Y.call 51 [cj [bh .i64 AA,bh .i64 AB,ca 26 (AP CO AJ),ca 26 (AP CO AL)]] []=some (D.tup [cg 3 (AP (bh .i64) r.1),cg 3 (AP (bh .i64) r.2.1),cf r.2.2],[]):=by
 refine c51 ?_ rfl;unfold k51;unfold JQ at h;obtain⟨Ev,hl3,h⟩:=Ao h;try dsimp only at h
 simp (maxDischargeDepth:=9) only [↓AQ,AR,Aj,↓reduceIte,bk,bl,bm,bo,bp,br,bt,bw,bx,bO,b3,b4,b5,b6,b7,b8,b9];refine Bc (PR AA AB AJ AL hl3 ?_) ?_
 ·simp (maxDischargeDepth:=9) only [↓AQ,AR,Aj,↓reduceIte,bk,bl,bm,bo,bp,br,bt,bw,bx,bO,b3,b4,b5,b6,b7,b8,b9,DY]<;>(repeat' apply A7)<;>first|rfl|exact⟨_,rfl⟩|exact⟨_,_,rfl⟩|simp [AP,AC]
 ·intro ex3 s3 hX3;rcases Ev with q1001_|q1001_
  ·unfold DZ at hX3;dsimp only at hX3 h;obtain⟨rfl,n3_0,n3_1,n3_2⟩:=hX3
   obtain rfl:=Option.some.inj h
   simp (maxDischargeDepth:=9) only [↓AQ,AR,Aj,↓reduceIte,bk,bl,bm,bo,bp,br,bt,bw,bx,bO,b3,b4,b5,b6,b7,b8,b9,n3_0,n3_1,n3_2]<;>(repeat' apply A7)<;>first|rfl|exact⟨_,rfl⟩|exact⟨_,_,rfl⟩|simp [AP,AC]
  ·unfold DZ at hX3;dsimp only at hX3 h
   obtain rfl:=hX3
   obtain rfl:=Option.some.inj h
   simp (maxDischargeDepth:=9) only [↓AQ,AR,Aj,↓reduceIte,bk,bl,bm,bo,bp,br,bt,bw,bx,bO,b3,b4,b5,b6,b7,b8,b9]<;>(repeat' apply A7)<;>first|rfl|exact⟨_,rfl⟩|exact⟨_,_,rfl⟩|simp [AP,AC]
def Hm(AA:Int)(AB:Int)(AJ:AX)(AL:AX):Option (AU×AU×Bool):= ck (BR AJ)<| ck (BR AL)<| if(Il AA AB AJ AL)=true then (JQ AA AB AJ AL).bind fun jg=> some (jg.1,jg.2.1,jg.2.2) else some ([],[],false)
def k19:SC:= .seq (.ops [oX 1 (.box 29 (tK 0)) 0,oX 2 Iy 26,oX 3 Iy 26,oX 4 CX 4]) (.seq (.seq (.ops [oL 5 29 1 29,oC 6 50 [(tK 5)] [29] 4,oX 7 (.unOp .not 4 (tK 6)) 4]) (.cond (tK 7) (.seq (.ops [oX 2 Iy 26,oX 3 Iy 26,oX 4 CX 4]) .ret) .skip)) (.seq (.ops [oL 8 29 1 29,oC 9 51 [(tK 8)] [29] 36,oE 10 9 0 26,oE 11 9 1 26,oE 12 9 2 4,oA 2 10 26,oA 3 11 26,oA 4 12 4]) .ret))
theorem A2G:Try.f19.body.map (Bt lends)=some k19:=by kernel_rfl
theorem AET:CW Try.f19 1=true:=by kernel_rfl
theorem c19{a l:List D}{r:D×List D}(h:CU Y.env k19 (Gq AZ l.length [ci 2,ci 3,ci 4] r) (entry a l))(ha:a.length=1):Y.call 19 a l=some r:=
 AY (Y:=Y) rfl Try.func19 (ha▸AET) A2G h
theorem Oe(AA:Int)(AB:Int)(AJ:AX)(AL:AX){r:AU×AU×Bool}(h:Hm AA AB AJ AL=some r):Y.call 19 [cj [bh .i64 AA,bh .i64 AB,ca 26 (AP CO AJ),ca 26 (AP CO AL)]] []=some (D.tup [cg 3 (AP (bh .i64) r.1),cg 3 (AP (bh .i64) r.2.1),cf r.2.2],[]):=by
 refine c19 ?_ rfl;unfold k19;unfold Hm at h;obtain⟨e1,h⟩:=Cb h;obtain⟨e2,h⟩:=Cb h;have c3:=aS AA AB AJ AL e1 e2;by_cases e4:(Il AA AB AJ AL)=true
 ·rw [if_pos e4]at h;obtain⟨jg,hl5,h⟩:=Ao h;try dsimp only at h
  have c5:=QV AA AB AJ AL hl5
  obtain rfl:=Option.some.inj h
  simp (maxDischargeDepth:=9) only [↓AQ,AR,Aj,↓reduceIte,bk,bl,bm,bo,bp,br,bt,bw,bx,bO,b3,b4,b5,b6,b7,b8,b9,e1,e2,c3,e4,c5]<;>(repeat' apply A7)<;>first|rfl|exact⟨_,rfl⟩|exact⟨_,_,rfl⟩|simp [AP,AC]
 ·rw [if_neg e4]at h;have e4f:(Il AA AB AJ AL)=false:=Iw.mpr e4
  obtain rfl:=Option.some.inj h
  simp (maxDischargeDepth:=9) only [↓AQ,AR,Aj,↓reduceIte,bk,bl,bm,bo,bp,br,bt,bw,bx,bO,b3,b4,b5,b6,b7,b8,b9,e1,e2,c3,e4f]<;>(repeat' apply A7)<;>first|rfl|exact⟨_,rfl⟩|exact⟨_,_,rfl⟩|simp [AP,AC]
def Es(BS:Int)(BU:Int)(Az:AX)(BA:AX):Option (Bool):= ck (PK Az)<| ck (PK BA)<| ck (0≤(1048576:Int)∧(1048576:Int)≤1048576)<| if(oH (1048576:Int) Az BA)<0 then some true else ck (BR Az)<| ck (BR BA)<| (Hm BS BU Az BA).bind fun Im=> (Hg BS BU Az BA).bind fun Bi=> ck (Bi.1.length<1099511627776)<| if(decide (Bi.1=Im.1))=true then ck (Bi.2.1.length<1099511627776)<| if(decide (Bi.2.1=Im.2.1))=true then if Bi.2.2=true then if Im.2.2=true then if(Nl BS BU Az BA BS BU Az BA)=true then ck (0≤(1:Int)∧(1:Int)+FW Az+FW BA<1099511627776)<| if((1:Int)+FW Az+FW BA)<0 then some false else ck (0≤(1:Int)∧(1:Int)<1099511627776)<| ck (0≤((1:Int)+Bi.1.length)∧((1:Int)+Bi.1.length)<1099511627776)<| ck ((upto (1:Int) Bi.1.length).length<1099511627776)<| ck (0≤(1:Int)∧(1:Int)+(upto (1:Int) Bi.1.length).length<1099511627776)<| if(FE (1:Int) (upto (1:Int) Bi.1.length))<0 then some false else ck ((upto ((1:Int)+Bi.1.length) Bi.2.1.length).length<1099511627776)<| ck (0≤(FE (1:Int) (upto (1:Int) Bi.1.length))∧(FE (1:Int) (upto (1:Int) Bi.1.length))+(upto ((1:Int)+Bi.1.length) Bi.2.1.length).length<1099511627776)<| if(FE (FE (1:Int) (upto (1:Int) Bi.1.length)) (upto ((1:Int)+Bi.1.length) Bi.2.1.length))<0 then
 some false else if(FE (FE (1:Int) (upto (1:Int) Bi.1.length)) (upto ((1:Int)+Bi.1.length) Bi.2.1.length))=(((1:Int)+Bi.1.length)+Bi.2.1.length)then some true else some false else some false else some false else if Im.2.2=true then some false else if(Nl BS BU Az BA BS BU Az BA)=true then ck (0≤(1:Int)∧(1:Int)+FW Az+FW BA<1099511627776)<| if((1:Int)+FW Az+FW BA)<0 then some false else ck (0≤(1:Int)∧(1:Int)<1099511627776)<| ck (0≤((1:Int)+Bi.1.length)∧((1:Int)+Bi.1.length)<1099511627776)<| ck ((upto (1:Int) Bi.1.length).length<1099511627776)<| ck (0≤(1:Int)∧(1:Int)+(upto (1:Int) Bi.1.length).length<1099511627776)<| if(FE (1:Int) (upto (1:Int) Bi.1.length))<0 then some false else ck ((upto ((1:Int)+Bi.1.length) Bi.2.1.length).length<1099511627776)<| ck (0≤(FE (1:Int) (upto (1:Int) Bi.1.length))∧(FE (1:Int) (upto (1:Int) Bi.1.length))+(upto ((1:Int)+Bi.1.length) Bi.2.1.length).length<1099511627776)<| if(FE (FE (1:Int) (upto (1:Int) Bi.1.length)) (upto ((1:Int)+Bi.1.length) Bi.2.1.length))<0 then some false else if(FE (FE (1:Int) (upto (1:Int) Bi.1.length)) (upto ((1:Int)+Bi.1.length) Bi.2.1.length))=(((1:Int)+Bi.1.length)+Bi.2.1.length)then some true else some false else some false else some false
 else some false
def k4:SC:= .seq (.ops [oX 1 (.box 24 (tK 0)) 0,oX 2 CX 4]) (.seq (.ops [oX 3 (.assign (iK 1048576)) 3]) (.seq (.ops [oL 17 24 1 24,oM 18 3 3,oC 19 10 [(tK 17),(tK 18)] [24,3] 3,oA 3 19 3]) (.seq (.seq (.ops [oM 20 3 3,oB 21 .lss 3 (tK 20) (iK 0) 3 4]) (.cond (tK 21) (.seq (.ops [oX 2 (.assign H6) 4]) .ret) .skip)) (.seq (.ops [oL 23 24 1 24,oC 24 12 [(tK 23)] [24] 29,oC 25 19 [(tK 24)] [29] 36,oM 22 25 36,oE 26 22 0 26,oE 27 22 1 26,oE 28 22 2 4,oA 4 26 26,oA 5 27 26,oA 6 28 4]) (.seq (.ops [oL 29 24 1 24,oC 30 12 [(tK 29)] [24] 29,oX 7 (.alloc 29) 0,oS 29 7 30]) (.seq (.ops [oL 32 29 7 29,oC 33 20 [(tK 32)] [29] 36,oM 31 33 36,oE 34 31 0 26,oE 35 31 1 26,oE 36 31 2 4,oA 8 34 26,oA 9 35 26,oA 10 36 4]) (.seq (.seq (.ops [oM 37 8 26,oM 38 4 26,oC 39 14 [(tK 37),(tK 38)] [26,26] 4,oX 40 (.unOp .not 4 (tK 39)) 4,oM 41 40 4,⟨(some 42),(.move (tK 9)),26,(some (some 41,false))⟩,⟨(some 43),(.move (tK 5)),26,(some (some 41,false))⟩,⟨(some 44),(.call ⟨(.value (.func 14)), #[(tK 42),(tK 43)], #[26,26]⟩),4,(some (some 41,false))⟩,⟨(some 45),(.unOp .not 4 (tK 44)),4,(some (some 41,false))⟩,oX 46 (.pick (tK 41) H6 (tK 45)) 4,oM 47 46 4,⟨(some 48),(.move (tK 10)),4,(some (some 47,false))⟩,
 ⟨(some 49),(.move (tK 6)),4,(some (some 47,false))⟩,⟨(some 50),(.binOp .neq 4 (tK 48) (tK 49) 4),4,(some (some 47,false))⟩,oX 51 (.pick (tK 47) H6 (tK 50)) 4]) (.cond (tK 51) (.seq (.ops [oX 2 CX 4]) .ret) .skip)) (.seq (.seq (.draws [(⟨[52,7,7],[52,53,54,55,56],[52]⟩,oL 52 29 7 29),(⟨[53,1,1],[52,53,54,55,56],[53]⟩,oL 53 24 1 24),(⟨[54,53,1],[52,53,54,55,56],[54]⟩,oC 54 12 [(tK 53)] [24] 29),(⟨[55,52,54,7,54],[52,53,54,55,56],[55]⟩,oC 55 15 [(tK 52),(tK 54)] [29,29] 4),(⟨[56,55,55],[52,53,54,55,56],[56]⟩,oX 56 (.unOp .not 4 (tK 55)) 4)]) (.cond (tK 56) (.seq (.ops [oX 2 CX 4]) .ret) .skip)) (.seq (.ops [oX 11 (.assign (iK 1)) 3]) (.seq (.ops [oL 57 29 7 29,oM 58 11 3,oC 59 16 [(tK 57),(tK 58)] [29,3] 3,oA 11 59 3]) (.seq (.seq (.ops [oM 60 11 3,oB 61 .lss 3 (tK 60) (iK 0) 3 4,oM 62 61 4,⟨(some 63),(.move (tK 8)),26,(some (some 62,false))⟩,⟨(some 64),(.move (tK 4)),26,(some (some 62,false))⟩,⟨(some 65),(.call ⟨(.value (.func 14)), #[(tK 63),(tK 64)], #[26,26]⟩),4,(some (some 62,false))⟩,⟨(some 66),(.unOp .not 4 (tK 65)),4,(some (some 62,false))⟩,oX 67 (.pick (tK 62) H6 (tK 66)) 4,oM 68 67 4,⟨(some 69),(.move (tK 9)),26,(some (some 68,false))⟩,⟨(some 70),(.move (tK 5)),26,(some (some 68,false))⟩,
 ⟨(some 71),(.call ⟨(.value (.func 14)), #[(tK 69),(tK 70)], #[26,26]⟩),4,(some (some 68,false))⟩,⟨(some 72),(.unOp .not 4 (tK 71)),4,(some (some 68,false))⟩,oX 73 (.pick (tK 68) H6 (tK 72)) 4,oM 74 73 4,⟨(some 75),(.move (tK 10)),4,(some (some 74,false))⟩,⟨(some 76),(.move (tK 6)),4,(some (some 74,false))⟩,⟨(some 77),(.binOp .neq 4 (tK 75) (tK 76) 4),4,(some (some 74,false))⟩,oX 78 (.pick (tK 74) H6 (tK 77)) 4]) (.cond (tK 78) (.seq (.ops [oX 2 CX 4]) .ret) .skip)) (.seq (.ops [oX 12 (.assign (iK 1)) 3]) (.seq (.ops [oM 79 8 26,oM 80 12 3,oC 81 17 [(tK 79),(tK 80)] [26,3] 3,oA 12 81 3]) (.seq (.ops [oM 82 9 26,oM 83 12 3,oC 84 17 [(tK 82),(tK 83)] [26,3] 3,oA 12 84 3]) (.seq (.ops [oX 13 (.assign (iK 1)) 3]) (.seq (.ops [oM 85 8 26,oM 86 13 3,oC 87 18 [(tK 85),(tK 86)] [26,3] 3,oA 13 87 3]) (.seq (.seq (.ops [oM 88 13 3,oB 89 .lss 3 (tK 88) (iK 0) 3 4]) (.cond (tK 89) (.seq (.ops [oX 2 CX 4]) .ret) .skip)) (.seq (.ops [oM 90 9 26,oM 91 13 3,oC 92 18 [(tK 90),(tK 91)] [26,3] 3,oA 13 92 3]) (.seq (.seq (.ops [oM 93 13 3,oB 94 .lss 3 (tK 93) (iK 0) 3 4]) (.cond (tK 94) (.seq (.ops [oX 2 CX 4]) .ret) .skip)) (.seq (.seq (.ops [oM 95 13 3,oM 96 12 3,oB 97 .neq 3 (tK 95) (tK 96) 3 4])
 (.cond (tK 97) (.seq (.ops [oX 2 CX 4]) .ret) .skip)) (.seq (.ops [oL 99 24 1 24,oC 100 12 [(tK 99)] [24] 29,oC 101 20 [(tK 100)] [29] 36,oM 98 101 36,oE 102 98 0 26,oE 103 98 1 26,oE 104 98 2 4,oA 14 102 26,oA 15 103 26,oA 16 104 4]) (.seq (.seq (.ops [oM 105 14 26,oM 106 4 26,oC 107 14 [(tK 105),(tK 106)] [26,26] 4,oX 108 (.unOp .not 4 (tK 107)) 4,oM 109 108 4,⟨(some 110),(.move (tK 15)),26,(some (some 109,false))⟩,⟨(some 111),(.move (tK 5)),26,(some (some 109,false))⟩,⟨(some 112),(.call ⟨(.value (.func 14)), #[(tK 110),(tK 111)], #[26,26]⟩),4,(some (some 109,false))⟩,⟨(some 113),(.unOp .not 4 (tK 112)),4,(some (some 109,false))⟩,oX 114 (.pick (tK 109) H6 (tK 113)) 4,oM 115 114 4,⟨(some 116),(.move (tK 16)),4,(some (some 115,false))⟩,⟨(some 117),(.move (tK 6)),4,(some (some 115,false))⟩,⟨(some 118),(.binOp .neq 4 (tK 116) (tK 117) 4),4,(some (some 115,false))⟩,oX 119 (.pick (tK 115) H6 (tK 118)) 4]) (.cond (tK 119) (.seq (.ops [oX 2 CX 4]) .ret) .skip)) (.seq (.ops [oX 13 (.assign (iK 1)) 3]) (.seq (.ops [oM 120 8 26,oM 121 13 3,oC 122 18 [(tK 120),(tK 121)] [26,3] 3,oA 13 122 3]) (.seq (.seq (.ops [oM 123 13 3,oB 124 .lss 3 (tK 123) (iK 0) 3 4]) (.cond (tK 124)
 (.seq (.ops [oX 2 CX 4]) .ret) .skip)) (.seq (.ops [oM 125 9 26,oM 126 13 3,oC 127 18 [(tK 125),(tK 126)] [26,3] 3,oA 13 127 3]) (.seq (.seq (.ops [oM 128 13 3,oB 129 .lss 3 (tK 128) (iK 0) 3 4]) (.cond (tK 129) (.seq (.ops [oX 2 CX 4]) .ret) .skip)) (.seq (.seq (.ops [oM 130 13 3,oM 131 12 3,oB 132 .neq 3 (tK 130) (tK 131) 3 4]) (.cond (tK 132) (.seq (.ops [oX 2 CX 4]) .ret) .skip)) (.seq (.ops [oX 2 (.assign H6) 4]) .ret)))))))))))))))))))))))))))))
theorem A8w:Try.f4.body.map (Bt lends)=some k4:=by kernel_rfl
theorem ok4:CW Try.f4 1=true:=by kernel_rfl
theorem c4{a l:List D}{r:D×List D}(h:CU Y.env k4 (Gq AZ l.length [ci 2] r) (entry a l))(ha:a.length=1):Y.call 4 a l=some r:=
 AY (Y:=Y) rfl Try.func4 (ha▸ok4) A8w h
theorem L6(BS:Int)(BU:Int)(Az:AX)(BA:AX){r:Bool}(h:Es BS BU Az BA=some r):Y.call 4 [cj [bh .i64 BS,bh .i64 BU,ca 26 (AP CO Az),ca 26 (AP CO BA)]] []=some (cf r,[]):=by
 refine c4 ?_ rfl;unfold k4;unfold Es at h;obtain⟨e1,h⟩:=Cb h;obtain⟨e2,h⟩:=Cb h;obtain⟨e3,h⟩:=Cb h;have c4:=Ue BS BU Az BA (1048576:Int) e1 e2 e3;by_cases e5:(oH (1048576:Int) Az BA)<0
 ·rw [if_pos e5]at h
  obtain rfl:=Option.some.inj h
  simp (maxDischargeDepth:=9) only [↓AQ,AR,Aj,↓reduceIte,bk,bl,bm,bo,bp,br,bt,bw,bx,bO,b3,b4,b5,b6,b7,b8,b9,e1,e2,e3.1,e3.2,c4,e5]<;>(repeat' apply A7)<;>first|rfl|exact⟨_,rfl⟩|exact⟨_,_,rfl⟩|simp [AP,AC]
 ·rw [if_neg e5]at h;obtain⟨e6,h⟩:=Cb h;obtain⟨e7,h⟩:=Cb h;have c8:=Fy BS BU Az BA e6 e7;obtain⟨Im,hl9,h⟩:=Ao h;try dsimp only at h
  have c9:=Oe BS BU Az BA hl9;have SV:=Fy BS BU Az BA e6 e7;obtain⟨Bi,hl11,h⟩:=Ao h;try dsimp only at h
  have c11:=Od BS BU Az BA hl11;obtain⟨e12,h⟩:=Cb h;have c13:=Du Bi.1 Im.1 e12;by_cases e14:(decide (Bi.1=Im.1))=true
  ·rw [if_pos e14]at h;obtain⟨e15,h⟩:=Cb h;have NC:=Du Bi.2.1 Im.2.1 e15;by_cases e17:(decide (Bi.2.1=Im.2.1))=true
   ·rw [if_pos e17]at h;by_cases e18:Bi.2.2=true
    ·rw [if_pos e18]at h;by_cases e19:Im.2.2=true
     ·rw [if_pos e19]at h;have eP:=Fy BS BU Az BA e6 e7;have c21:=Nn BS BU Az BA BS BU Az BA e6 e7;by_cases e22:(Nl BS BU Az BA BS BU Az BA)=true
      ·rw [if_pos e22]at h;obtain⟨e23,h⟩:=Cb h;have c24:=MB BS BU Az BA (1:Int) e6 e7 e23;by_cases e25:((1:Int)+FW Az+FW BA)<0
       ·rw [if_pos e25]at h
        obtain rfl:=Option.some.inj h
        simp (maxDischargeDepth:=9) only [↓AQ,AR,Aj,↓reduceIte,bk,bl,bm,bo,bp,br,bt,bw,bx,bO,b3,b4,b5,b6,b7,b8,b9,e1,e2,e3.1,e3.2,c4,e5,e6,e7,c8,c9,SV,c11,e12,c13,e14,e15,NC,e17,e18,e19,eP,c21,e22,e23.1,e23.2,c24,e25]<;>(repeat' apply A7)<;>first|rfl|exact⟨_,rfl⟩|exact⟨_,_,rfl⟩|simp [AP,AC]
       ·rw [if_neg e25]at h;have c26:=Du Bi.1 Im.1 e12;have c27:=Du Bi.2.1 Im.2.1 e15;obtain⟨e28,h⟩:=Cb h;have c29:=IP Bi.1 (1:Int) e12 e28;obtain⟨e30,h⟩:=Cb h;have c31:=IP Bi.2.1 ((1:Int)+Bi.1.length) e15 e30;obtain⟨e32,h⟩:=Cb h;obtain⟨e33,h⟩:=Cb h;have c34:=EU (upto (1:Int) Bi.1.length) (1:Int) e32 e33;by_cases e35:(FE (1:Int) (upto (1:Int) Bi.1.length))<0
        ·rw [if_pos e35]at h
         obtain rfl:=Option.some.inj h
         simp (maxDischargeDepth:=9) only [↓AQ,AR,Aj,↓reduceIte,bk,bl,bm,bo,bp,br,bt,bw,bx,bO,b3,b4,b5,b6,b7,b8,b9,e1,e2,e3.1,e3.2,c4,e5,e6,e7,c8,c9,SV,c11,e12,c13,e14,e15,NC,e17,e18,e19,eP,c21,e22,e23.1,e23.2,c24,e25,c26,c27,e28.1,e28.2,c29,e30.1,e30.2,c31,e32,e33.1,e33.2,c34,e35]<;>(repeat' apply A7)<;>first|rfl|exact⟨_,rfl⟩|exact⟨_,_,rfl⟩|simp [AP,AC]
        ·rw [if_neg e35]at h;obtain⟨e36,h⟩:=Cb h;obtain⟨e37,h⟩:=Cb h;have c38:=EU (upto ((1:Int)+Bi.1.length) Bi.2.1.length) (FE (1:Int) (upto (1:Int) Bi.1.length)) e36 e37;by_cases e39:(FE (FE (1:Int) (upto (1:Int) Bi.1.length)) (upto ((1:Int)+Bi.1.length) Bi.2.1.length))<0
         ·rw [if_pos e39]at h
          obtain rfl:=Option.some.inj h
          simp (maxDischargeDepth:=9) only [↓AQ,AR,Aj,↓reduceIte,bk,bl,bm,bo,bp,br,bt,bw,bx,bO,b3,b4,b5,b6,b7,b8,b9,e1,e2,e3.1,e3.2,c4,e5,e6,e7,c8,c9,SV,c11,e12,c13,e14,e15,NC,e17,e18,e19,eP,c21,e22,e23.1,e23.2,c24,e25,c26,c27,e28.1,e28.2,c29,e30.1,e30.2,c31,e32,e33.1,e33.2,c34,e35,e36,e37.1,e37.2,c38,e39]<;>(repeat' apply A7)<;>first|rfl|exact⟨_,rfl⟩|exact⟨_,_,rfl⟩|simp [AP,AC]
         ·rw [if_neg e39]at h;by_cases e40:(FE (FE (1:Int) (upto (1:Int) Bi.1.length)) (upto ((1:Int)+Bi.1.length) Bi.2.1.length))=(((1:Int)+Bi.1.length)+Bi.2.1.length)
          ·rw [if_pos e40]at h;have c41:=Fy BS BU Az BA e6 e7;have c42:=Du Bi.1 Im.1 e12;have c43:=Du Bi.2.1 Im.2.1 e15;have c44:=EU (upto (1:Int) Bi.1.length) (1:Int) e32 e33;have c45:=EU (upto ((1:Int)+Bi.1.length) Bi.2.1.length) (FE (1:Int) (upto (1:Int) Bi.1.length)) e36 e37
           obtain rfl:=Option.some.inj h
           simp (maxDischargeDepth:=9) only [↓AQ,AR,Aj,↓reduceIte,bk,bl,bm,bo,bp,br,bt,bw,bx,bO,b3,b4,b5,b6,b7,b8,b9,e1,e2,e3.1,e3.2,c4,e5,e6,e7,c8,c9,SV,c11,e12,c13,e14,e15,NC,e17,e18,e19,eP,c21,e22,e23.1,e23.2,c24,e25,c26,c27,e28.1,e28.2,c29,e30.1,e30.2,c31,e32,e33.1,e33.2,c34,e35,e36,e37.1,e37.2,c38,e39,decide_eq_true e40,c41,c42,c43,c44,c45]<;>(repeat' apply A7)<;>first|rfl|exact⟨_,rfl⟩|exact⟨_,_,rfl⟩|simp [AP,AC]
          ·rw [if_neg e40]at h
           obtain rfl:=Option.some.inj h
           simp (maxDischargeDepth:=9) only [↓AQ,AR,Aj,↓reduceIte,bk,bl,bm,bo,bp,br,bt,bw,bx,bO,b3,b4,b5,b6,b7,b8,b9,e1,e2,e3.1,e3.2,c4,e5,e6,e7,c8,c9,SV,c11,e12,c13,e14,e15,NC,e17,e18,e19,eP,c21,e22,e23.1,e23.2,c24,e25,c26,c27,e28.1,e28.2,c29,e30.1,e30.2,c31,e32,e33.1,e33.2,c34,e35,e36,e37.1,e37.2,c38,e39,e40]<;>(repeat' apply A7)<;>first|rfl|exact⟨_,rfl⟩|exact⟨_,_,rfl⟩|simp [AP,AC]
      ·rw [if_neg e22]at h;have e22f:(Nl BS BU Az BA BS BU Az BA)=false:=Iw.mpr e22
       obtain rfl:=Option.some.inj h
       simp (maxDischargeDepth:=9) only [↓AQ,AR,Aj,↓reduceIte,bk,bl,bm,bo,bp,br,bt,bw,bx,bO,b3,b4,b5,b6,b7,b8,b9,e1,e2,e3.1,e3.2,c4,e5,e6,e7,c8,c9,SV,c11,e12,c13,e14,e15,NC,e17,e18,e19,eP,c21,e22f]<;>(repeat' apply A7)<;>first|rfl|exact⟨_,rfl⟩|exact⟨_,_,rfl⟩|simp [AP,AC]
     ·rw [if_neg e19]at h;have e19f:Im.2.2=false:=Iw.mpr e19
      obtain rfl:=Option.some.inj h
      simp (maxDischargeDepth:=9) only [↓AQ,AR,Aj,↓reduceIte,bk,bl,bm,bo,bp,br,bt,bw,bx,bO,b3,b4,b5,b6,b7,b8,b9,e1,e2,e3.1,e3.2,c4,e5,e6,e7,c8,c9,SV,c11,e12,c13,e14,e15,NC,e17,e18,e19f]<;>(repeat' apply A7)<;>first|rfl|exact⟨_,rfl⟩|exact⟨_,_,rfl⟩|simp [AP,AC]
    ·rw [if_neg e18]at h;have e18f:Bi.2.2=false:=Iw.mpr e18;by_cases e19:Im.2.2=true
     ·rw [if_pos e19]at h
      obtain rfl:=Option.some.inj h
      simp (maxDischargeDepth:=9) only [↓AQ,AR,Aj,↓reduceIte,bk,bl,bm,bo,bp,br,bt,bw,bx,bO,b3,b4,b5,b6,b7,b8,b9,e1,e2,e3.1,e3.2,c4,e5,e6,e7,c8,c9,SV,c11,e12,c13,e14,e15,NC,e17,e18f,e19]<;>(repeat' apply A7)<;>first|rfl|exact⟨_,rfl⟩|exact⟨_,_,rfl⟩|simp [AP,AC]
     ·rw [if_neg e19]at h;have e19f:Im.2.2=false:=Iw.mpr e19;have eP:=Fy BS BU Az BA e6 e7;have c21:=Nn BS BU Az BA BS BU Az BA e6 e7;by_cases e22:(Nl BS BU Az BA BS BU Az BA)=true
      ·rw [if_pos e22]at h;obtain⟨e23,h⟩:=Cb h;have c24:=MB BS BU Az BA (1:Int) e6 e7 e23;by_cases e25:((1:Int)+FW Az+FW BA)<0
       ·rw [if_pos e25]at h
        obtain rfl:=Option.some.inj h
        simp (maxDischargeDepth:=9) only [↓AQ,AR,Aj,↓reduceIte,bk,bl,bm,bo,bp,br,bt,bw,bx,bO,b3,b4,b5,b6,b7,b8,b9,e1,e2,e3.1,e3.2,c4,e5,e6,e7,c8,c9,SV,c11,e12,c13,e14,e15,NC,e17,e18f,e19f,eP,c21,e22,e23.1,e23.2,c24,e25]<;>(repeat' apply A7)<;>first|rfl|exact⟨_,rfl⟩|exact⟨_,_,rfl⟩|simp [AP,AC]
       ·rw [if_neg e25]at h;have c26:=Du Bi.1 Im.1 e12;have c27:=Du Bi.2.1 Im.2.1 e15;obtain⟨e28,h⟩:=Cb h;have c29:=IP Bi.1 (1:Int) e12 e28;obtain⟨e30,h⟩:=Cb h;have c31:=IP Bi.2.1 ((1:Int)+Bi.1.length) e15 e30;obtain⟨e32,h⟩:=Cb h;obtain⟨e33,h⟩:=Cb h;have c34:=EU (upto (1:Int) Bi.1.length) (1:Int) e32 e33;by_cases e35:(FE (1:Int) (upto (1:Int) Bi.1.length))<0
        ·rw [if_pos e35]at h
         obtain rfl:=Option.some.inj h
         simp (maxDischargeDepth:=9) only [↓AQ,AR,Aj,↓reduceIte,bk,bl,bm,bo,bp,br,bt,bw,bx,bO,b3,b4,b5,b6,b7,b8,b9,e1,e2,e3.1,e3.2,c4,e5,e6,e7,c8,c9,SV,c11,e12,c13,e14,e15,NC,e17,e18f,e19f,eP,c21,e22,e23.1,e23.2,c24,e25,c26,c27,e28.1,e28.2,c29,e30.1,e30.2,c31,e32,e33.1,e33.2,c34,e35]<;>(repeat' apply A7)<;>first|rfl|exact⟨_,rfl⟩|exact⟨_,_,rfl⟩|simp [AP,AC]
        ·rw [if_neg e35]at h;obtain⟨e36,h⟩:=Cb h;obtain⟨e37,h⟩:=Cb h;have c38:=EU (upto ((1:Int)+Bi.1.length) Bi.2.1.length) (FE (1:Int) (upto (1:Int) Bi.1.length)) e36 e37;by_cases e39:(FE (FE (1:Int) (upto (1:Int) Bi.1.length)) (upto ((1:Int)+Bi.1.length) Bi.2.1.length))<0
         ·rw [if_pos e39]at h
          obtain rfl:=Option.some.inj h
          simp (maxDischargeDepth:=9) only [↓AQ,AR,Aj,↓reduceIte,bk,bl,bm,bo,bp,br,bt,bw,bx,bO,b3,b4,b5,b6,b7,b8,b9,e1,e2,e3.1,e3.2,c4,e5,e6,e7,c8,c9,SV,c11,e12,c13,e14,e15,NC,e17,e18f,e19f,eP,c21,e22,e23.1,e23.2,c24,e25,c26,c27,e28.1,e28.2,c29,e30.1,e30.2,c31,e32,e33.1,e33.2,c34,e35,e36,e37.1,e37.2,c38,e39]<;>(repeat' apply A7)<;>first|rfl|exact⟨_,rfl⟩|exact⟨_,_,rfl⟩|simp [AP,AC]
         ·rw [if_neg e39]at h;by_cases e40:(FE (FE (1:Int) (upto (1:Int) Bi.1.length)) (upto ((1:Int)+Bi.1.length) Bi.2.1.length))=(((1:Int)+Bi.1.length)+Bi.2.1.length)
          ·rw [if_pos e40]at h;have c41:=Fy BS BU Az BA e6 e7;have c42:=Du Bi.1 Im.1 e12;have c43:=Du Bi.2.1 Im.2.1 e15;have c44:=EU (upto (1:Int) Bi.1.length) (1:Int) e32 e33;have c45:=EU (upto ((1:Int)+Bi.1.length) Bi.2.1.length) (FE (1:Int) (upto (1:Int) Bi.1.length)) e36 e37
           obtain rfl:=Option.some.inj h
           simp (maxDischargeDepth:=9) only [↓AQ,AR,Aj,↓reduceIte,bk,bl,bm,bo,bp,br,bt,bw,bx,bO,b3,b4,b5,b6,b7,b8,b9,e1,e2,e3.1,e3.2,c4,e5,e6,e7,c8,c9,SV,c11,e12,c13,e14,e15,NC,e17,e18f,e19f,eP,c21,e22,e23.1,e23.2,c24,e25,c26,c27,e28.1,e28.2,c29,e30.1,e30.2,c31,e32,e33.1,e33.2,c34,e35,e36,e37.1,e37.2,c38,e39,decide_eq_true e40,c41,c42,c43,c44,c45]<;>(repeat' apply A7)<;>first|rfl|exact⟨_,rfl⟩|exact⟨_,_,rfl⟩|simp [AP,AC]
          ·rw [if_neg e40]at h
           obtain rfl:=Option.some.inj h
           simp (maxDischargeDepth:=9) only [↓AQ,AR,Aj,↓reduceIte,bk,bl,bm,bo,bp,br,bt,bw,bx,bO,b3,b4,b5,b6,b7,b8,b9,e1,e2,e3.1,e3.2,c4,e5,e6,e7,c8,c9,SV,c11,e12,c13,e14,e15,NC,e17,e18f,e19f,eP,c21,e22,e23.1,e23.2,c24,e25,c26,c27,e28.1,e28.2,c29,e30.1,e30.2,c31,e32,e33.1,e33.2,c34,e35,e36,e37.1,e37.2,c38,e39,e40]<;>(repeat' apply A7)<;>first|rfl|exact⟨_,rfl⟩|exact⟨_,_,rfl⟩|simp [AP,AC]
      ·rw [if_neg e22]at h;have e22f:(Nl BS BU Az BA BS BU Az BA)=false:=Iw.mpr e22
       obtain rfl:=Option.some.inj h
       simp (maxDischargeDepth:=9) only [↓AQ,AR,Aj,↓reduceIte,bk,bl,bm,bo,bp,br,bt,bw,bx,bO,b3,b4,b5,b6,b7,b8,b9,e1,e2,e3.1,e3.2,c4,e5,e6,e7,c8,c9,SV,c11,e12,c13,e14,e15,NC,e17,e18f,e19f,eP,c21,e22f]<;>(repeat' apply A7)<;>first|rfl|exact⟨_,rfl⟩|exact⟨_,_,rfl⟩|simp [AP,AC]
   ·rw [if_neg e17]at h;have e17f:(decide (Bi.2.1=Im.2.1))=false:=Iw.mpr e17
    obtain rfl:=Option.some.inj h
    simp (maxDischargeDepth:=9) only [↓AQ,AR,Aj,↓reduceIte,bk,bl,bm,bo,bp,br,bt,bw,bx,bO,b3,b4,b5,b6,b7,b8,b9,e1,e2,e3.1,e3.2,c4,e5,e6,e7,c8,c9,SV,c11,e12,c13,e14,e15,NC,e17f]<;>(repeat' apply A7)<;>first|rfl|exact⟨_,rfl⟩|exact⟨_,_,rfl⟩|simp [AP,AC]
  ·rw [if_neg e14]at h;have e14f:(decide (Bi.1=Im.1))=false:=Iw.mpr e14
   obtain rfl:=Option.some.inj h
   simp (maxDischargeDepth:=9) only [↓AQ,AR,Aj,↓reduceIte,bk,bl,bm,bo,bp,br,bt,bw,bx,bO,b3,b4,b5,b6,b7,b8,b9,e1,e2,e3.1,e3.2,c4,e5,e6,e7,c8,c9,SV,c11,e12,c13,e14f]<;>(repeat' apply A7)<;>first|rfl|exact⟨_,rfl⟩|exact⟨_,_,rfl⟩|simp [AP,AC]
def Jk(set:Int)(a:Nat):Bool:=decide (set / 2 ^ a % 2=1)
theorem Iu{a b:Nat}(h:a≤b):(2:Int) ^ a≤2 ^ b:=by
 have:=Nat.pow_le_pow_right (n:=2) (by decide) h
 exact_mod_cast this
theorem jb(set:Int)(a:Nat)(ha:a≤64):set.fdiv (2 ^ (min a cb.bits))=set / 2 ^ a:=by
 have:min a cb.bits=a:=by show min a 64=a;omega
 rw [this,jk _ (cw (by decide))]
theorem O6(set:Int)(a:Nat)(h:0≤set):0≤set / 2 ^ a:=Int.ediv_nonneg h (cw (by decide))
def Ba(set:Int)(n:Nat):AU:=((an n).filter (Jk set)).map fun(a:Nat)=>(a:Int)
theorem LZ(set:Int)(n:Nat):Ba set (n+1)=if Jk set n then Ba set n++[(n:Int)]else Ba set n:=by
 simp only [Ba,Ym,cC,List.map_append,List.filter_cons,List.filter_nil]
 split<;>simp
theorem Jl(set:Int)(n:Nat):(Ba set n).length≤n:=by
 simp only [Ba,XE];exact PW (cD _ _) (by simp)
theorem rW: ∀x:Fin 256,H7 .and .i64 (x.val:Int) 1=(x.val:Int) % 2:=by decide+kernel
theorem nU(x:Int)(h:0≤x∧x≤255):H7 .and .i64 x 1=x % 2:=by
 have:=rW ⟨x.toNat,by omega⟩
 simp only at this;rwa [show((x.toNat:Nat):Int)=x by omega]at this
theorem gK(set:Int)(a:Nat)(h:0≤set):set / 2 ^ a≤set:=by
 have:(1:Int)≤2 ^ a:=by
  have:=Nat.one_le_two_pow (n:=a)
  exact_mod_cast this
 exact Int.ediv_le_self _ h
theorem Rv(set:Int)(a b:Nat)(h:0≤set)(hab:a≤b)(hz:set / 2 ^ a=0):set / 2 ^ b=0:=by
 have h1:=Int.mul_ediv_add_emod set (2 ^ a);rw [hz,Int.mul_zero,Int.zero_add]at h1;have h2:=Int.emod_lt_of_pos set (b:=2 ^ a) (Int.pow_pos (by decide))
 exact ay h (Int.lt_of_lt_of_le (h1▸h2) (Iu hab))
theorem RP(set:Int)(i n:Nat)(h:0≤set)(hi:i≤n)(hz:set / 2 ^ i=0):Ba set i=Ba set n:=by
 have key: ∀k,Ba set (i+k)=Ba set i:=by
  intro k
  induction k with
  |zero=>rfl
  |succ k ih=>
   have hf:Jk set (i+k)=false:=by
    simp only [Jk,Rv set i (i+k) h (by omega) hz];decide
   rw [show i+(k+1)=i+k+1 by omega,LZ,hf];simp only [JR,if_false];exact ih
 have:=key (n-i)
 rw [show i+(n-i)=n by omega]at this
 exact this.symm
theorem A2H(set:Int)(i:Nat)(h:0≤set∧set≤255)(hz: ¬set / 2 ^ i=0):i<8:=by
 apply Classical.byContradiction
 intro hc;apply hz
 have e:set / 2 ^ 8=0:=ay h.1 (by omega)
 exact Rv set 8 i h.1 (by omega) e
def DK(p:Nat→Bool):Nat→Int
 |0=>0
 |n+1=>DK p n+if p n=true then 2 ^ n else 0
theorem IA(p:Nat→Bool): ∀n,0≤DK p n∧DK p n<2 ^ n
 |0=>by simp [DK]
 |n+1=>by
  have ih:=IA p n;have e:(2:Int) ^ (n+1)=2*2 ^ n:=by rw [Int.pow_succ];omega
  unfold DK
  split<;>omega
theorem XA(p:Nat→Bool): ∀n a,a<n→DK p n / 2 ^ a % 2=if p a=true then 1 else 0
 |n+1,a,h=>by
  have hr:=IA p n;have pa:(0:Int)<2 ^ a:=Int.pow_pos (by decide)
  unfold DK;by_cases e:a=n
  ·subst e;split
   ·rename_i hp
    have:(DK p a+2 ^ a) / 2 ^ a=DK p a / 2 ^ a+1:=by
     have:=Int.add_mul_ediv_right (DK p a) 1 (c:=2 ^ a) (by omega)
     rwa [Int.one_mul]at this
    rw [this,ay hr.1 hr.2];decide
   ·rw [Int.add_zero,ay hr.1 hr.2];decide
  ·have ih:=XA p n a (by omega)
   split
   ·have e2:(2:Int) ^ n=2 ^ (n-a-1)*2*2 ^ a:=by
     rw [←Int.pow_succ,←Int.pow_add];congr 1;omega
    have:(DK p n+2 ^ n) / 2 ^ a=DK p n / 2 ^ a+2 ^ (n-a-1)*2:=by
     rw [e2,Int.add_mul_ediv_right _ _ (by omega)]
    rw [this,Int.add_mul_emod_self_right];exact ih
   ·rw [Int.add_zero];exact ih
theorem RQ(p:Nat→Bool)(n a:Nat):Jk (DK p n) a=(decide (a<n)&&p a):=by
 unfold Jk;by_cases h:a<n
 ·rw [XA p n a h,decide_eq_true h,cx]
  cases p a<;>rfl
 ·have hr:=IA p n;have:DK p n / 2 ^ a=0:=ay hr.1 (Int.lt_of_lt_of_le hr.2 (Iu (by omega)))
  rw [this,decide_eq_false h];rfl
theorem eT(p:Nat→Bool)(n m:Nat)(h:n≤m):Ba (DK p n) m=((an n).filter p).map fun(a:Nat)=>(a:Int):=by
 have hr:=IA p n;rw [←RP (DK p n) n m hr.1 h (ay hr.1 hr.2)];unfold Ba
 congr 1
 refine List.filter_congr fun a ha=> ?_;rw [RQ,decide_eq_true (Ka.1 ha),cx]
theorem A2I: ∀b:Fin 8,∀x:Fin 256,x.val<2 ^ b.val→H7 .or .i64 (x.val:Int) (2 ^ b.val)=(x.val:Int)+2 ^ b.val:=by decide+kernel
theorem rX(x:Int)(b:Nat)(hb:b<8)(h:0≤x∧x<2 ^ b):H7 .or .i64 x (2 ^ b)=x+2 ^ b:=by
 have h2:(2:Int) ^ b≤2 ^ 7:=Iu (by omega)
 have e:(2:Int) ^ 7=128:=by decide
 have hx:((x.toNat:Nat):Int)=x:=by omega
 have h3:x.toNat<2 ^ b:=by
  have h4:((2 ^ b:Nat):Int)=2 ^ b:=by exact_mod_cast rfl
  omega
 have:=A2I ⟨b,hb⟩ ⟨x.toNat,by omega⟩ h3
 simp only at this;rwa [hx]at this
def gL(good:AU→Bool):AX→AU→Bool
 | [],c=>good c
 |L::Ls,c=>L.any fun a=>gL good Ls (c++[a])
def nV:AU→AX→Prop
 | [],[]=>True
 |a::c,L::Ls=>a∈L∧nV c Ls
 |_,_=>False
theorem Yj(good:AU→Bool): ∀(Ls:AX) (c:AU),gL good Ls c=true↔ ∃d,nV d Ls∧good (c++d)=true
 | [],c=>by
  unfold gL
  constructor
  ·intro h;exact⟨[],trivial,by rwa [La]⟩
  ·rintro⟨d,h1,h2⟩
   cases d with
   |nil=>rwa [La]at h2
   |cons a d=>exact h1.elim
 |L::Ls,c=>by
  unfold gL;rw [TD]
  constructor
  ·rintro⟨a,ha,h⟩
   obtain⟨d,h1,h2⟩:=(Yj good Ls (c++[a])).1 h
   exact⟨a::d,⟨ha,h1⟩,by rwa [QY]at h2⟩
  ·rintro⟨d,h1,h2⟩
   cases d with
   |nil=>exact h1.elim
   |cons a d=>exact⟨a,h1.1,(Yj good Ls (c++[a])).2 ⟨d,h1.2,by rwa [QY]⟩⟩
theorem VN(x:AU)(j:Nat)(hj:j<x.length):(x[j]::x.eraseIdx j).Perm x:=by
 rw [List.eraseIdx_eq_take_drop_succ];have h:x=x.take j++x[j]::x.drop (j+1):=by rw [←gP hj,List.take_append_drop]
 have:=(List.perm_middle (a:=x[j]) (l₁:=x.take j) (l₂:=x.drop (j+1))).symm
 rw [←h]at this;exact this
def Rw:AX→AU→Bool
 | [],x=>x.isEmpty
 |L::Ls,x=>(an x.length).any fun j=>L.contains (x.getD j bj)&&Rw Ls (x.eraseIdx j)
theorem TA: ∀(Ls:AX) (x:AU),Rw Ls x=true↔ ∃d,nV d Ls∧d.Perm x
 | [],x=>by
  unfold Rw
  constructor
  ·intro h;rw [List.isEmpty_iff]at h;subst h;exact⟨[],trivial,List.Perm.refl _⟩
  ·rintro⟨d,h1,h2⟩
   cases d with
   |nil=>rw [List.nil_perm.1 h2];rfl
   |cons a d=>exact h1.elim
 |L::Ls,x=>by
  unfold Rw;rw [TD]
  constructor
  ·rintro⟨j,hj,h⟩
   have hj:=Ka.1 hj;rw [Gl,VX,DF _ _ hj]at h;obtain⟨d,h1,h2⟩:=(TA Ls _).1 h.2
   exact⟨x[j]::d,⟨h.1,h1⟩,((List.perm_cons _).2 h2).trans (VN x j hj)⟩
  ·rintro⟨d,h1,h2⟩
   cases d with
   |nil=>exact h1.elim
   |cons a d=>
    have ha:a∈x:=h2.mem_iff.1 KY;obtain⟨j,hj,e⟩:=List.getElem_of_mem ha
    refine⟨j,Ka.2 hj, ?_⟩
    rw [Gl,VX,DF _ _ hj,e]
    refine⟨h1.1,(TA Ls _).2 ⟨d,h1.2, ?_⟩⟩
    have h3:(a::d).Perm (x[j]::x.eraseIdx j):=h2.trans (VN x j hj).symm;rw [e]at h3
    exact(List.perm_cons a).1 h3
theorem O7(set:Int)(h:0≤set∧set≤255):Io set=some (Ba set 8):=by
 unfold Io Jp;have key:=Q8 (fun v=>Gh set v.1 v.2) (fun n s=> ∃i:Nat,n=8-i∧i≤8∧s=(Ba set i,(i:Int))) (fun r=>r=Ba set 8) ?_ 8 ([],0) ⟨0,rfl,by omega,rfl⟩
 ·obtain⟨r,hr,hq⟩:=key;rw [hr,hq];rfl
 ·rintro n s ⟨i,hn,hi,rfl⟩
  have hl:=Jl set i;simp only [Gh,ML];rw [Ce (by omega),jb set i (by omega)]
  by_cases hz:set / 2 ^ i=0
  ·rw [if_pos hz];exact .inr ⟨_,rfl,RP set i 8 h.1 hi hz⟩
  ·have hlt:=A2H set i h hz;rw [if_neg hz,nU _ ⟨O6 set i h.1,Int.le_trans (gK set i h.1) h.2⟩]
   left
   by_cases hb:set / 2 ^ i % 2=1
   ·rw [if_pos hb,Ce (by omega),Md i (by omega)]
    exact⟨_,8-(i+1),rfl,by omega,i+1,rfl,by omega,by rw [LZ,Jk,if_pos (decide_eq_true hb)]⟩
   ·rw [if_neg hb,Md i (by omega)]
    exact⟨_,8-(i+1),rfl,by omega,i+1,rfl,by omega,by rw [LZ,Jk,if_neg (by simpa using hb)]⟩
theorem XB(mask:Int)(a:Nat)(h:0≤mask∧mask≤255)(ha:a≤8):Mq mask (a:Int)=some (Jk mask a):=by
 have loop:Kv (mask,(a:Int))=some (mask / 2 ^ a):=by
  unfold Kv;have key:=Fa (fun v=>I8 v.1 v.2) (fun k=>(mask / 2 ^ k,((a-k:Nat):Int))) a (mask / 2 ^ a) ?_ ?_
  ·simpa using key
  ·intro k hk;have h0:=O6 mask k h.1;have h1:=Int.le_trans (gK mask k h.1) h.2;simp only [I8];rw [if_pos (by omega),Int.tdiv_eq_ediv_of_nonneg h0,JA _ (by omega),JA _ (by omega),Int.pow_succ,←Int.ediv_ediv_of_nonneg (cw (by decide))]
   congr 3
   omega
  ·simp only [I8];rw [if_neg (by omega)]
 unfold Mq T9;rw [loop,Dh,Dh,Int.tmod_eq_emod_of_nonneg (O6 mask a h.1)];rfl
theorem WT(n:Nat)(D:Int)(ns es:AX)(mask:Int)(h:0≤mask∧mask≤255)(hn:n≤8):Kw (n:Int) D ns es mask=some (Ba mask n):=by
 unfold Kw Jq;have key:=Fa (fun v=>F5 (n:Int) D ns es mask v.1 v.2) (fun i=>(Ba mask i,(i:Int))) n (Ba mask n) ?_ ?_
 ·have e0:Ba mask 0=[]:=rfl;rw [e0,Ie]at key;rw [key];rfl
 ·intro i hi;have hl:=Jl mask i;simp only [F5];rw [if_pos (EP hi),XB mask i h (by omega),Dh,Md i (by omega),LZ]
  cases Jk mask i
  ·simp
  ·rw [if_pos rfl,Ce (by omega),if_pos rfl]
 ·simp only [F5];rw [if_neg (Bj _)]
def O8(es:AX)(out:AU)(b:Nat):Bool:=(Ru es out [(b:Int)]).isNone
def NB(es:AX)(out:AU)(n:Nat):AU:=((an n).filter (O8 es out)).map fun(a:Nat)=>(a:Int)
theorem VO(es:AX)(out:AU)(n:Nat):(NB es out n).length≤n:=by
 unfold NB;rw [XE];exact PW (cD _ _) (by rw [cy];exact Hq _)
theorem ae(n:Nat)(D:Int)(ns es:AX)(set:Int)(h:0≤set∧set≤255)(hn:n≤8)(he:BR es)(hi:PO es=true):Ny (n:Int) D ns es set=some (DK (O8 es (Ba set 8)) n):=by
 have hl:=Jl set 8;unfold Ny LW;have key:=Fa (fun v=>Gv (n:Int) D ns es set v.1 v.2) (fun i=>(DK (O8 es (Ba set 8)) i,(i:Int))) n (DK (O8 es (Ba set 8)) n) ?_ ?_
 ·have e0:DK (O8 es (Ba set 8)) 0=0:=rfl;rw [e0,Ie]at key;rw [key];rfl
 ·intro i hi';have hr:=IA (O8 es (Ba set 8)) i;have h7:(2:Int) ^ i≤2 ^ 7:=Iu (by omega)
  have e7:(2:Int) ^ 7=128:=by decide
  have e8:min i cb.bits=i:=by show min i 64=i;omega
  simp only [Gv,ML];rw [if_pos (EP hi'),O7 set h,Dh];unfold KQ;rw [YS _ _ _ _ _ _ he hi (by omega) (by simp),Dh,Dh,Md i (by omega)]
  have eb:O8 es (Ba set 8) i=(Ru es (Ba set 8) [(i:Int)]).isNone:=rfl;have em:DK (O8 es (Ba set 8)) (i+1)=DK (O8 es (Ba set 8)) i+if O8 es (Ba set 8) i=true then 2 ^ i else 0:=rfl
  rw [em,eb]
  cases hb:Ru es (Ba set 8) [(i:Int)]with
  |none=>
   simp only [cA,if_true,Option.isNone_none];rw [Ce (by omega),e8,Int.one_mul,JA _ (by have:=cw (m:=i) (show(0:Int)≤2 by decide);omega),rX _ i (by omega) hr]
  |some q=>simp
 ·simp only [Gv];rw [if_neg (Bj _)]
theorem WU(n:Nat)(D:Int)(ns es:AX)(out:AU)(hn:n≤8)(he:BR es)(ho:out.length≤8):Ky (n:Int) D ns es out=some (NB es out n):=by
 unfold Ky Jr;have key:=Fa (fun v=>F7 (n:Int) D ns es out v.1 v.2) (fun i=>(NB es out i,(i:Int))) n (NB es out n) ?_ ?_
 ·have e0:NB es out 0=[]:=rfl;rw [e0,Ie]at key;rw [key];rfl
 ·intro i hi;have hl:=VO es out i
  have es1:NB es out (i+1)=if O8 es out i=true then NB es out i++[(i:Int)]else NB es out i:=by
   unfold NB;rw [Ym,cC,List.map_append];by_cases h:O8 es out i=true
   ·rw [if_pos h,List.filter_cons_of_pos h];rfl
   ·rw [if_neg h,List.filter_cons_of_neg h];simp
  simp only [F7];rw [if_pos (EP hi)];unfold OV;rw [eO _ _ _ _ _ _ he (by omega) (by simp),Dh,Dh,Md i (by omega),es1]
  unfold O8
  cases Ru es out [(i:Int)]with
  |none=>
   simp only [cA,if_true,Option.isNone_none];rw [Ce (by omega)]
  |some q=>simp
 ·simp only [F7];rw [if_neg (Bj _)]
def Ip(l:AU):Int:=(l.map fun a=>(2:Int) ^ a.toNat).sum
theorem nW(a b:AU):Ip (a++b)=Ip a+Ip b:=by simp [Ip]
theorem nX(a:Int):Ip [a]=2 ^ a.toNat:=by simp [Ip]
theorem XC(p:Nat→Bool): ∀n,Ip (((an n).filter p).map fun(a:Nat)=>(a:Int))=DK p n
 |0=>rfl
 |n+1=>by
  rw [Ym,cC,List.map_append];have: ∀a b:AU,Ip (a++b)=Ip a+Ip b:=fun a b=>by simp [Ip]
  have em:DK p (n+1)=DK p n+if p n=true then 2 ^ n else 0:=rfl
  rw [this,XC p n,em];by_cases h:p n=true
  ·rw [if_pos h,List.filter_cons_of_pos h];simp [Ip]
  ·rw [if_neg h,List.filter_cons_of_neg h];simp [Ip]
theorem XD(l:AU)(i:Nat):0≤Ip (l.take i)∧Ip (l.take i)≤Ip l:=by
 have hn: ∀l:AU,0≤Ip l:=by
  intro l
  induction l with
  |nil=>simp [Ip]
  |cons a l ih=>
   have:=cw (m:=a.toNat) (show(0:Int)≤2 by decide)
   simp only [Ip,OY,List.sum_cons]at ih ⊢;omega
 refine⟨hn _, ?_⟩
 have e:Ip l=Ip (l.take i)+Ip (l.drop i):=by
  have: ∀a b:AU,Ip (a++b)=Ip a+Ip b:=fun a b=>by simp [Ip]
  rw [←this,List.take_append_drop]
 have:=hn (l.drop i)
 omega
theorem Rx(p:Nat→Bool)(n:Nat)(hn:n≤8):K9 (((an n).filter p).map fun(a:Nat)=>(a:Int))=some (DK p n):=by
 have hr:=IA p n;have h8:(2:Int) ^ n≤2 ^ 8:=Iu hn;have e8:(2:Int) ^ 8=256:=by decide
 have hl:(((an n).filter p).map fun(a:Nat)=>(a:Int)).length≤8:=by
  rw [XE];exact PW (cD _ _) (by rw [cy];exact hn)
 rw [←XC p n]at hr ⊢
 have hx: ∀x∈(((an n).filter p).map fun(a:Nat)=>(a:Int)),0≤x∧x<8:=by
  intro x hx;obtain⟨a,ha,rfl⟩:=Ig.1 hx;have:=Ka.1 (XG.1 ha).1
  omega
 generalize (((an n).filter p).map fun(a:Nat)=>(a:Int))=l at hr hl hx ⊢;unfold K9 LX;have key:=Fa (fun v=>Gx l v.1 v.2) (fun i=>(Ip (l.take i),(i:Int))) l.length (Ip l) ?_ ?_
 ·have e0:Ip (l.take 0)=0:=rfl;rw [e0,Ie]at key;rw [key];rfl
 ·intro i hi;have h0:=hx _ (OX hi);have ht:=XD l i;have ht':=XD l (i+1)
  have e1:Ip (l.take (i+1))=Ip (l.take i)+2 ^ l[i].toNat:=by
   rw [oO hi,nW,nX]
  have e2:(cq.wrap l[i])=l[i]:=Rt _ (by omega)
  have e3:min l[i].toNat cb.bits=l[i].toNat:=by show min l[i].toNat 64=_;omega
  have e4:=cw (m:=l[i].toNat) (show(0:Int)≤2 by decide)
  simp only [Gx,ML,DF _ _ hi,e2,e3];rw [if_pos (EP hi),Ce (by omega),Ce (by omega),Int.one_mul,JA (2 ^ l[i].toNat) (by omega),JA _ (by omega),Md i (by omega),e1]
 ·simp only [Gx];rw [if_neg (Bj _),List.take_length]
theorem jc(x:AU)(k:Nat)(h:k+1<x.length)(e:x.getD k bj=x.getD (k+1) bj):x.eraseIdx k=x.eraseIdx (k+1):=by
 rw [DF _ _ (by omega),DF _ _ h]at e
 refine List.ext_getElem (by rw [cE (by omega),cE h]) fun i h1 h2=> ?_
 rw [List.getElem_eraseIdx,List.getElem_eraseIdx];by_cases c1:i<k
 ·rw [dif_pos c1,dif_pos (by omega)]
 ·rw [dif_neg c1];by_cases c2:i<k+1
  ·rw [dif_pos c2];have:i=k:=by omega
   subst this;exact e.symm
  ·rw [dif_neg c2]
theorem rY(L:AU)(Ls:AX)(x:AU):(an x.length).any (fun j=> !(decide (0<j)&&decide (x.getD (j-1) bj=x.getD j bj))&&(L.contains (x.getD j bj)&&Rw Ls (x.eraseIdx j)))=Rw (L::Ls) x:=by
 have e:Rw (L::Ls) x=(an x.length).any fun j=>L.contains (x.getD j bj)&&Rw Ls (x.eraseIdx j):=rfl;rw [e,Bool.eq_iff_iff,TD,TD]
 constructor
 ·rintro⟨j,hj,h⟩
  rw [Gl]at h
  exact⟨j,hj,h.2⟩
 ·have key: ∀j,j<x.length→(L.contains (x.getD j bj)&&Rw Ls (x.eraseIdx j))=true→ ∃y,y∈an x.length∧(!(decide (0<y)&&decide (x.getD (y-1) bj=x.getD y bj))&&(L.contains (x.getD y bj)&&Rw Ls (x.eraseIdx y)))=true:=by
   intro j
   induction j with
   |zero=>intro hj h;exact⟨0,Ka.2 hj,by rw [h];rfl⟩
   |succ j ih=>
    intro hj h;by_cases c:x.getD j bj=x.getD (j+1) bj
    ·exact ih (by omega) (by rw [c,jc x j hj c];exact h)
    ·refine⟨j+1,Ka.2 hj, ?_⟩
     rw [h,Nat.add_sub_cancel,decide_eq_false c];simp
  rintro⟨j,hj,h⟩
  exact key j (Ka.1 hj) h
structure RelM(Ls:AX)(masks:AU):Prop where
 len:masks.length=Ls.length
 rng: ∀k,k<masks.length→0≤masks.getD k bj∧masks.getD k bj≤255
 has: ∀k a:Nat,k<masks.length→a<8→Jk (masks.getD k bj) a=(Ls.getD k bj).contains (a:Int)
theorem VP{Ls:AX}{masks:AU}(h:RelM Ls masks)(hl:Ls.length≤4): ∀(m k fuel:Nat) (x:AU),m+k=Ls.length→x.length=m→m<fuel→(∀a∈x,0≤a∧a<8)→Dy fuel x masks (k:Int)=some (Rw (Ls.drop k) x)
 |0,k,0,x,_,_,hf,_=>by omega
 |0,k,fuel+1,x,hk,hx,_,_=>by
  show Hl (Dy fuel) x masks (k:Int)=_
  have hm:=h.len;unfold Hl;rw [if_pos (by omega),List.drop_of_length_le (by omega),ji hx];rfl
 |m+1,k,0,x,_,_,hf,_=>by omega
 |m+1,k,fuel+1,x,hk,hx,hf,ha=>by
  show Hl (Dy fuel) x masks (k:Int)=_
  have hm:=h.len;have hkl:k<Ls.length:=by omega
  have hd:Ls.drop k=Ls[k]::Ls.drop (k+1):=gP hkl;have hg:Ls.getD k bj=Ls[k]:=DF _ _ hkl;unfold Hl;rw [if_neg (by omega),hd,←rY]
  unfold KS;have key:=Jm (fun v=>G9 (Dy fuel) x masks (k:Int) v) (fun i=>(i:Int)) x.length (fun j=> !(!(decide (0<j)&&decide (x.getD (j-1) bj=x.getD j bj))&&(Ls[k].contains (x.getD j bj)&&Rw (Ls.drop (k+1)) (x.eraseIdx j)))) (.inl ()) (.inr ()) ?_ ?_
  ·rw [Ie]at key;rw [key,Dh];have: ∀(l:List Nat) (p:Nat→Bool),(l.all fun j=> !p j)= !(l.any p):=fun l p=>by induction l<;>simp_all
   rw [this]
   cases (an x.length).any fun j=> !(decide (0<j)&&decide (x.getD (j-1) bj=x.getD j bj))&&(Ls[k].contains (x.getD j bj)&&Rw (Ls.drop (k+1)) (x.eraseIdx j))<;>rfl
  ·intro i hi;have hai:=ha _ (OX hi);have e1:cb.wrap ((i:Int)+1)=((i+1:Nat):Int):=Md i (by omega)
   have e2:cb.wrap ((k:Int)+1)=((k+1:Nat):Int):=Md k (by omega)
   have hr:=h.rng k (by omega)
   have hh:=h.has k x[i].toNat (by omega) (by omega)
   have ex:((x[i].toNat:Nat):Int)=x[i]:=by omega
   have es:Mq (masks.getD k bj) (x.getD i bj)=some (Ls[k].contains (x.getD i bj)):=by
    rw [DF _ _ hi,←ex,XB _ _ hr (by omega),hh,hg]
   have er:(x.take i).drop 0++(x.take x.length).drop (i+1)=x.eraseIdx i:=by
    rw [XH,List.take_length,List.eraseIdx_eq_take_drop_succ]
   have hrec:=VP h hl m (k+1) fuel (x.eraseIdx i) (by omega) (by rw [cE hi];omega) (by omega) (fun a hm=>ha a (List.mem_of_mem_eraseIdx hm))
   have lt1:(x.take i).length≤x.length:=by rw [QZ];omega
   have lt2:(x.drop (i+1)).length≤x.length:=by rw [List.length_drop];omega
   have body: ∀ {α:Type} (q:Bool→Option α),((Mq (masks.getD k bj) (x.getD i bj)).bind fun r=>if r=true then(ck (0≤(i:Int))<|ck (i≤x.length)<|(OT ((x.take i).drop 0)).bind fun r12=>ck (0≤((i+1:Nat):Int))<|ck (i+1≤x.length)<|ck (r12.length+((x.take x.length).drop (i+1)).length<1099511627776)<|(Dy fuel (r12++(x.take x.length).drop (i+1)) masks ((k+1:Nat):Int)).bind q)else q false)=
     q (Ls[k].contains (x.getD i bj)&&Rw (Ls.drop (k+1)) (x.eraseIdx i)):=by
    intro α q;rw [es,Dh]
    cases Ls[k].contains (x.getD i bj)with
    |false=>rw [if_neg (by decide)];rfl
    |true=>
     unfold OT;rw [if_pos rfl,Ce (by omega),Ce (by omega),Ce (by rw [XH];omega),Dh,Ce (by omega),Ce (by omega),Ce (by rw [XH,List.take_length];omega),er,hrec,Dh,cx]
   have b0:=body (fun r=>if r=true then some (cc (cd ()))else(some (cd ((i+1:Nat):Int)):Option (Int⊕(Unit⊕Unit))))
   simp only [JR,if_false]at b0;simp only [G9,ML,e1,e2];rw [if_pos (EP hi),Ce (by omega)]
   by_cases c:0<i
   ·have e3:cb.wrap ((i:Int)-1)=((i-1:Nat):Int):=by rw [JA _ (by omega)];omega
    rw [if_pos (by omega),e3,ML,Ce (by omega)]
    by_cases c2:x.getD (i-1) bj=x.getD i bj
    ·rw [if_pos c2,decide_eq_true c2,decide_eq_true c];rfl
    ·rw [if_neg c2,Ce (by omega),b0,decide_eq_false c2,Bool.and_false,cA,cx]
     cases (Ls[k].contains (x.getD i bj)&&Rw (Ls.drop (k+1)) (x.eraseIdx i))<;>rfl
   ·rw [if_neg (by omega),Ce (by omega),b0,decide_eq_false c,Bool.false_and,cA,cx]
    cases (Ls[k].contains (x.getD i bj)&&Rw (Ls.drop (k+1)) (x.eraseIdx i))<;>rfl
  ·simp only [G9];rw [if_neg (Bj _)]
theorem VQ{α:Type}(p:α→Bool): ∀l:List α,(l.all fun c=> !p c)= !(l.any p)
 | []=>rfl
 |a::l=>by rw [PU,List.any_cons,VQ p l];cases p a<;>rfl
theorem af{Ls:AX}{masks:AU}(h:RelM Ls masks)(hl:Ls.length≤4)(n D:Int)(ns es:AX)(hn:ns.length<1099511627776)(hc: ∀c∈ns,c.length=Ls.length∧ ∀a∈c,0≤a∧a<8):Kz n D ns es masks=some (ns.any (Rw Ls)):=by
 unfold Kz Js;have key:=Jm (fun v=>F9 ns masks v) (fun i=>(i:Int)) ns.length (fun j=> !Rw Ls (ns.getD j bj)) (.inl ()) (.inr ()) ?_ ?_
 ·rw [Ie]at key;rw [key,Dh,UQ (fun c=> !Rw Ls c)];rw [VQ]
  cases ns.any (Rw Ls)<;>rfl
 ·intro i hi;have hm:=hc _ (OX hi);simp only [F9,ML,DF _ _ hi];rw [if_pos (EP hi),Ce (by omega)]
  have:=VP h hl Ls.length 0 1000000 ns[i] (by omega) hm.1 (by omega) hm.2
  rw [Ie,XH]at this;unfold RI;rw [this,Dh,Md i (by omega)]
  cases Rw Ls ns[i]<;>rfl
 ·simp only [F9];rw [if_neg (Bj _)]
theorem Ry(Ls:AX)(good:AU→Option Bool)(g:AU→Bool)(hl:Ls.length≤4)(hb: ∀L∈Ls,L.length≤8)(hg: ∀c,c.length=Ls.length→good c=some (g c)):
  ∀(m k fuel:Nat) (o:AU),m+k=Ls.length→o.length=Ls.length→m<fuel→ ∃o',Bq good fuel (k:Int) o Ls=some (gL g (Ls.drop k) (o.take k),o')∧o'.length=Ls.length∧o'.take k=o.take k
 |0,k,0,o,_,_,hf=>by omega
 |0,k,fuel+1,o,hk,ho,_=>by
  refine⟨o, ?_,ho,rfl⟩
  show DW (Bq good fuel) (k:Int) o Ls good=_
  unfold DW;rw [if_pos (by omega),hg o ho,Dh,List.drop_of_length_le (by omega),List.take_of_length_le (by omega)];rfl
 |m+1,k,0,o,_,_,hf=>by omega
 |m+1,k,fuel+1,o,hk,ho,hf=>by
  have hkl:k<Ls.length:=by omega
  have hd:Ls.drop k=Ls[k]::Ls.drop (k+1):=gP hkl;have hL:=hb _ (OX hkl);show ∃o',DW (Bq good fuel) (k:Int) o Ls good=_∧_
  have key:=Q8 (fun v=>Dx (Bq good fuel) (k:Int) Ls v.1 v.2)
   (fun n s=> ∃i:Nat,n=Ls[k].length-i∧i≤Ls[k].length∧s.1=(i:Int)∧s.2.length=Ls.length∧s.2.take k=o.take k∧ ∀j,j<i→gL g (Ls.drop (k+1)) (o.take k++[Ls[k].getD j bj])=false)
   (fun r=> ∃o',(r= .inl o'∧gL g (Ls[k]::Ls.drop (k+1)) (o.take k)=true∨r= .inr o'∧gL g (Ls[k]::Ls.drop (k+1)) (o.take k)=false)∧o'.length=Ls.length∧o'.take k=o.take k) ?_ Ls[k].length ((0:Int),o) ⟨0,rfl,by omega,rfl,ho,rfl,fun j hj=>by omega⟩
  ·obtain⟨r,hr,o',h1,h2,h3⟩:=key
   refine⟨o', ?_,h2,h3⟩
   unfold DW;have hr':GZ (Bq good fuel) (k:Int) Ls (0,o)=some r:=hr;rw [if_neg (by omega),Ce (by omega),hr',Dh,hd]
   rcases h1 with⟨rfl,e⟩|⟨rfl,e⟩<;>rw [e]
  ·rintro n ⟨i',o1⟩ ⟨i,hn,hi,e,h1,h2,h3⟩
   dsimp only at e h1 h2;subst e;have hkg:Ls.getD k bj=Ls[k]:=DF _ _ hkl;simp only [Dx,ML,hkg];by_cases c:i<Ls[k].length
   ·rw [if_pos (by omega),Ce (by omega),Ce (by omega),Md k (by omega),Md i (by omega)]
    obtain⟨o2,g1,g2,g3⟩:=Ry Ls good g hl hb hg m (k+1) fuel (o1.set k (Ls[k].getD i bj)) (by omega) (by rw [Ox];exact h1) (by omega)
    have et:(o1.set k (Ls[k].getD i bj)).take (k+1)=o.take k++[Ls[k].getD i bj]:=by
     rw [oO (by rw [Ox];omega),List.getElem_set_self,List.take_set_of_le (Hq _),h2]
    rw [et]at g1 g3
    have g4:o2.take k=o.take k:=by
     have:=congrArg (List.take k) g3
     rw [List.take_take,Nat.min_eq_left (by omega)]at this
     rw [this,List.take_append_of_le_length (by rw [QZ];omega),List.take_take,Nat.min_self]
    rw [g1,Dh]
    cases hq:gL g (Ls.drop (k+1)) (o.take k++[Ls[k].getD i bj])with
    |true=>
     right
     refine⟨_,rfl,o2,.inl ⟨rfl, ?_⟩,g2,g4⟩
     unfold gL;rw [TD]
     exact⟨_,OX c,by rw [←DF _ _ c];exact hq⟩
    |false=>
     left
     refine⟨_,Ls[k].length-(i+1),rfl,by omega,i+1,rfl,by omega,rfl,g2,g4,fun j hj=> ?_⟩
     by_cases ej:j=i
     ·rw [ej];exact hq
     ·exact h3 j (by omega)
   ·rw [if_neg (by omega)]
    right
    refine⟨_,rfl,o1,.inr ⟨rfl, ?_⟩,h1,h2⟩
    unfold gL;rw [List.any_eq_false];intro a ha;obtain⟨j,hj,rfl⟩:=List.getElem_of_mem ha;have:=h3 j (by omega)
    rw [DF _ _ hj]at this;simp [this]
theorem eU(Ls:AX)(good:AU→Option Bool)(g:AU→Bool)(hl:Ls.length≤4)(hb: ∀L∈Ls,L.length≤8)(hg: ∀c,c.length=Ls.length→good c=some (g c)): ∃r,IW Ls good=some (r,gL g Ls []):=by
 obtain⟨o',h1,_,_⟩:=Ry Ls good g hl hb hg Ls.length 0 1000000 (ao Ls.length 0) (by omega) (by simp) (by omega)
 rw [Ie,XH,List.take_zero]at h1;unfold IW KH;rw [Ce (by omega),h1,Dh]
 cases gL g Ls []with
 |true=>exact⟨_,rfl⟩
 |false=>exact⟨_,rfl⟩
theorem rZ{ns:AX}(Ls:AX)(hs: ∀c∈ns,c.Pairwise fun a b=>a≤b):gL (fun c=>ns.contains (KM c)) Ls []=ns.any (Rw Ls):=by
 rw [Bool.eq_iff_iff,Yj,TD]
 constructor
 ·rintro⟨d,h1,h2⟩
  rw [Je]at h2;have h2:=VX.1 h2
  exact⟨_,h2,(TA Ls _).2 ⟨d,h1,(Mi d).symm⟩⟩
 ·rintro⟨c,hc,h⟩
  obtain⟨d,h1,h2⟩:=(TA Ls c).1 h
  refine⟨d,h1, ?_⟩
  rw [Je];have:KM d=c:=List.Perm.eq_of_pairwise (le:=fun a b:Int=>a≤b) (fun a b _ _ h1 h2=>Int.le_antisymm h1 h2) (Us d) (hs c hc) ((Mi d).trans h2)
  rw [this];exact VX.2 hc
def KT(p:Nat→Bool)(n:Nat):AU:=((an n).filter p).map fun(a:Nat)=>(a:Int)
theorem ah(p:Nat→Bool)(n a:Nat):(KT p n).contains (a:Int)=(decide (a<n)&&p a):=by
 rw [Bool.eq_iff_iff,VX];unfold KT;rw [Ig];simp only [Gl,decide_eq_true_eq]
 constructor
 ·rintro⟨b,hb,e⟩
  have:b=a:=by omega
  subst this;have:=XG.1 hb
  exact⟨Ka.1 this.1,this.2⟩
 ·rintro⟨h1,h2⟩
  exact⟨a,XG.2 ⟨Ka.2 h1,h2⟩,rfl⟩
def VS(O I:AU)(D j:Nat):AX:=ao j O++ao (D-j) I
theorem O9(O I:AU)(D j:Nat)(h:j≤D):(VS O I D j).length=D:=by unfold VS;rw [Ow,PS,PS];omega
theorem rf(O I:AU)(D j k:Nat)(h:j≤D)(hk:k<D):(VS O I D j).getD k bj=if k<j then O else I:=by
 have hl:=O9 O I D j h;rw [DF _ _ (by omega)]
 unfold VS;by_cases c:k<j
 ·rw [if_pos c,List.getElem_append_left (by rw [PS];omega),List.getElem_replicate]
 ·rw [if_neg c,List.getElem_append_right (by rw [PS];omega),List.getElem_replicate]
theorem nY{O I:AU}{D j:Nat}{L:AU}(h:L∈VS O I D j):L=O∨L=I:=by
 unfold VS at h;rcases ND.1 h with h|h
 ·exact .inl (List.eq_of_mem_replicate h)
 ·exact .inr (List.eq_of_mem_replicate h)
def Sl(ns:AX)(O I:AU)(D j:Nat):Bool:=ns.any (Rw (VS O I D j))
theorem eX(a b:AX)(h:a.length+b.length≤100):Ch [a,b]=some (a++b):=by
 unfold Ch
 have k0:CK [a,b] (0,0)=some ((a.length:Int)+b.length):=by
  unfold CK
  have e0:Ag [a,b] 0 0=some (.inl ((a.length:Int),1)):=by
   simp only [Ag];rw [if_pos (by simp),Ce (by simp),show([a,b].getD (0:Int).toNat bj)=a from rfl,JA _ (by omega),if_neg (by omega),Int.zero_add]
   rfl
  have e1:Ag [a,b] (a.length:Int) 1=some (.inl ((a.length:Int)+b.length,2)):=by
   simp only [Ag];rw [if_pos (by simp),Ce (by simp),show([a,b].getD (1:Int).toNat bj)=b from rfl,JA _ (by omega),if_neg (by omega)]
   rfl
  have e2:Ag [a,b] ((a.length:Int)+b.length) 2=some (.inr ((a.length:Int)+b.length)):=by
   simp only [Ag];rw [if_neg (by simp)]
  rw [JB (f:=fun v=>Ag [a,b] v.1 v.2) (s:=((0:Int),(0:Int))) e0,JB (f:=fun v=>Ag [a,b] v.1 v.2) (s:=((a.length:Int),(1:Int))) e1];exact FZ (f:=fun v=>Ag [a,b] v.1 v.2) (s:=((a.length:Int)+b.length,(2:Int))) e2
 have k1:CL [a,b] ([],0)=some (a++b):=by
  unfold CL
  have e0:Ah [a,b] [] 0=some (.inl (a,1)):=by
   simp only [Ah];rw [if_pos (by simp),Ce (by simp),show([a,b].getD (0:Int).toNat bj)=a from rfl,Ce (by rw [Oy];omega),Je]
   rfl
  have e1:Ah [a,b] a 1=some (.inl (a++b,2)):=by
   simp only [Ah];rw [if_pos (by simp),Ce (by simp),show([a,b].getD (1:Int).toNat bj)=b from rfl,Ce (by omega)]
   rfl
  have e2:Ah [a,b] (a++b) 2=some (.inr (a++b)):=by
   simp only [Ah];rw [if_neg (by simp)]
  rw [JB (f:=fun v=>Ah [a,b] v.1 v.2) (s:=(([]:AX),(0:Int))) e0,JB (f:=fun v=>Ah [a,b] v.1 v.2) (s:=(a,(1:Int))) e1];exact FZ (f:=fun v=>Ah [a,b] v.1 v.2) (s:=(a++b,(2:Int))) e2
 rw [k0,Dh,Ce (by omega),k1];rfl
structure PrG(n D:Nat)(ns es:AX):Prop where
 n1:1≤n
 n8:n≤8
 d1:1≤D
 d4:D≤4
 sn:BR ns
 se:BR es
 jn:PO ns=true
 je:PO es=true
 row: ∀c∈ns,c.length=D∧ ∀a∈c,0≤a∧a<8
 srt: ∀c∈ns,c.Pairwise fun a b=>a≤b
theorem ai{n D:Nat}{ns es:AX}(h:PrG n D ns es)(Ls:AX)(hl:Ls.length=D)(hb: ∀L∈Ls,L.length≤8): ∃r,DI (n:Int) (D:Int) ns es Ls=some (r,ns.any (Rw Ls)):=by
 have h4:=h.d4
 obtain⟨r,hr⟩:=eU Ls (fun a0=>Cq a0 (n:Int) (D:Int) ns es) (fun c=>ns.contains (KM c)) (by omega) hb (fun c hc=>by
  unfold Cq JO
  rw [Ce h.sn,Ce (by omega),Ce h.jn];rfl)
 refine⟨r, ?_⟩
 unfold DI;rw [hr,Dh,rZ Ls h.srt]
theorem A2J{n D:Nat}{ns es:AX}(h:PrG n D ns es)(set_:Int)(O I:AU)(hO:O.length≤8)(hI:I.length≤8):E8 (n:Int) (D:Int) ns es set_ O I (true,0)=some ((an (D+1)).all (Sl ns O I D)):=by
 have h4:=h.d4;have key:=Q8 (fun v=>EM (n:Int) (D:Int) ns es set_ O I v.1 v.2) (fun m s=> ∃i:Nat,m=D+1-i∧i≤D+1∧s=((an i).all (Sl ns O I D),(i:Int))) (fun r=>r=(an (D+1)).all (Sl ns O I D)) ?_ (D+1) (true,0) ⟨0,rfl,by omega,rfl⟩
 ·obtain⟨r,h1,h2⟩:=key;unfold E8;rw [h1,h2]
 ·rintro m s ⟨i,rfl,hi,rfl⟩
  simp only [EM];by_cases c:i≤D
  ·rw [if_pos (by omega)]
   cases hg:(an i).all (Sl ns O I D)with
   |true=>
    left
    obtain⟨r,hr⟩:=ai h (VS O I D i) (O9 O I D i c) (fun L hL=>by rcases nY hL with rfl|rfl<;>assumption)
    have e2:(cb.wrap ((D:Int)-(i:Int)))=((D-i:Nat):Int):=by rw [JA _ (by omega)];omega
    refine⟨(Sl ns O I D i,((i+1:Nat):Int)),D+1-(i+1), ?_,by omega,i+1,rfl,by omega, ?_⟩
    ·rw [if_pos rfl,aT O (i:Int) (by omega),Dh,e2,aT I ((D-i:Nat):Int) (by omega),Dh,ML,ML,eX _ _ (by rw [PS,PS];omega),Dh]
     have hr':DI (n:Int) (D:Int) ns es (ao i O++ao (D-i) I)=some (r,ns.any (Rw (VS O I D i))):=hr;rw [hr',Dh,Md i (by omega)];rfl
    ·rw [Ym,List.all_append,hg];simp
   |false=>
    right
    refine⟨false,by rw [if_neg (by decide)], ?_⟩
    symm
    rw [Iw];intro ha;rw [Iw]at hg;exact hg (Dl.2 fun k hk=>Dl.1 ha k (by omega))
  ·right
   rw [if_neg (by omega)]
   have:i=D+1:=by omega
   subst this
   exact⟨_,rfl,rfl⟩
theorem map_set(D:Nat)(f:Nat→Int)(i:Nat)(v:Int):((an D).map f).set i v=(an D).map fun k=>if k=i then v else f k:=by
 refine List.ext_getElem (by simp) fun k h1 h2=> ?_
 rw [List.getElem_set];by_cases c:i=k
 ·subst c;simp
 ·rw [if_neg c];simp [show ¬k=i by omega]
theorem A2K{n D:Nat}{ns es:AX}(h:PrG n D ns es)(p q:Nat→Bool)(j:Nat)(hj:j≤D):O5 (n:Int) (D:Int) ns es (KT p n) (KT q n) (j:Int)=some (Sl ns (KT p n) (KT q n) D j):=by
 have h4:=h.d4;have h8:=h.n8;unfold O5 LY;have hlen:((ao (D:Int).toNat (0:Int)).length:Int)=(D:Int):=by rw [PS,ML]
 have key:=Fa (fun v=>Gz (n:Int) (D:Int) ns es (KT p n) (KT q n) (j:Int) v.1 v.2) (fun i=>((an D).map (fun k=>if k<i then(if k<j then DK p n else DK q n)else 0),(i:Int))) D ((an D).map (fun k=>if k<j then DK p n else DK q n)) ?_ ?_
 ·have e0:(an D).map (fun k=>if k<0 then(if k<j then DK p n else DK q n)else 0)=ao (D:Int).toNat (0:Int):=by
   rw [ML];refine List.ext_getElem (by simp) fun k h1 h2=>by simp
  rw [e0,Ie]at key;rw [Ce (by omega),key,Dh]
  have hrel:RelM (VS (KT p n) (KT q n) D j) ((an D).map (fun k=>if k<j then DK p n else DK q n)):=by
   have hget: ∀k,k<D→((an D).map (fun k=>if k<j then DK p n else DK q n)).getD k bj=if k<j then DK p n else DK q n:=fun k hk=>by
    rw [DF _ _ (by simpa using hk)];simp
   refine⟨by rw [XE,cy,O9 _ _ _ _ hj],fun k hk=> ?_,fun k a hk ha=> ?_⟩
   ·rw [XE,cy]at hk;rw [hget k hk];have h8':(2:Int) ^ n≤2 ^ 8:=Iu h8;have e8:(2:Int) ^ 8=256:=by decide
    have r1:=IA p n;have r2:=IA q n
    split<;>omega
   ·rw [XE,cy]at hk;rw [hget k hk,rf _ _ _ _ _ hj hk];by_cases c:k<j
    ·rw [if_pos c,if_pos c,RQ,ah]
    ·rw [if_neg c,if_neg c,RQ,ah]
  rw [af hrel (by rw [O9 _ _ _ _ hj];exact h4) (n:Int) (D:Int) ns es h.sn.1 (fun c hc=>by rw [O9 _ _ _ _ hj];exact h.row c hc)]
  rfl
 ·intro i hi;simp only [Gz,ML,hlen];have hq:K9 (KT q n)=some (DK q n):=Rx q n h8;have hp:K9 (KT p n)=some (DK p n):=Rx p n h8;rw [PS,if_pos (by omega),hq,Dh,Ce (by simp;omega)]
  by_cases c:i<j
  ·rw [if_pos (by omega),hp,Dh,Ce (by simp;omega),Md i (by omega),List.set_set,map_set]
   congr 4
   funext k
   by_cases e:k=i
   ·subst e;rw [if_pos rfl,if_pos (show k<k+1 by omega),if_pos c]
   ·rw [if_neg e];by_cases e2:k<i
    ·rw [if_pos e2,if_pos (show k<i+1 by omega)]
    ·rw [if_neg e2,if_neg (show ¬k<i+1 by omega)]
  ·rw [if_neg (by omega),Md i (by omega),map_set]
   congr 4
   funext k
   by_cases e:k=i
   ·subst e;rw [if_pos rfl,if_pos (show k<k+1 by omega),if_neg c]
   ·rw [if_neg e];by_cases e2:k<i
    ·rw [if_pos e2,if_pos (show k<i+1 by omega)]
    ·rw [if_neg e2,if_neg (show ¬k<i+1 by omega)]
 ·simp only [Gz];rw [hlen,if_neg (Bj _)]
  congr 2
  refine List.map_congr_left fun k hk=> ?_;rw [if_pos (Ka.1 hk)]
theorem A2L{n D:Nat}{ns es:AX}(h:PrG n D ns es)(set_:Int)(p q:Nat→Bool):FB (n:Int) (D:Int) ns es set_ (KT p n) (KT q n) (true,0)=some ((an (D+1)).all (Sl ns (KT p n) (KT q n) D)):=by
 have h4:=h.d4;have key:=Fa (fun v=>EA (n:Int) (D:Int) ns es set_ (KT p n) (KT q n) v.1 v.2) (fun i=>((an i).all (Sl ns (KT p n) (KT q n) D),(i:Int))) (D+1) ((an (D+1)).all (Sl ns (KT p n) (KT q n) D)) ?_ ?_
 ·unfold FB;exact key
 ·intro i hi;simp only [EA];rw [if_pos (by omega),Ym,List.all_append]
  cases hg:(an i).all (Sl ns (KT p n) (KT q n) D)with
  |true=>rw [if_pos rfl,A2K h p q i (by omega),Dh,Md i (by omega)];simp
  |false=>rw [if_neg (by decide),Md i (by omega)];simp
 ·simp only [EA];rw [if_neg (by omega)]
theorem aj{n:Nat}{P:Nat→Bool}(h:Cw n P=none): ∀i,i<n→P i=false:=by
 intro i hi
 cases hp:P i with
 |false=>rfl
 |true=>
  have:=V6.2 ⟨i,hi,hp⟩
  rw [h]at this;cases this
theorem eY{l:AU}{lo hi:Int}(h:Ir l lo hi=true){x:Int}(hx:x∈l):lo≤x∧x≤hi:=by
 unfold Ir at h;exact LP.1 (Hr.1 h x hx)
theorem VT{n:Nat}{P:Nat→Bool}(h0:P 0=false):Cw (n+1) P=(Cw n (fun i=>P (i+1))).map (· +1):=by
 cases hf:Cw n (fun i=>P (i+1))with
 |some i=>
  obtain⟨h1,h2⟩:=V5 hf;have h3:=aX hf;refine V4 (show i+1<n+1 by omega) h2 (fun j hj=> ?_)
  cases j with
  |zero=>exact h0
  |succ j=>exact h3 j (by change j+1<i+1 at hj;omega)
 |none=>
  have hno:=aj hf;refine QR (fun j hj=> ?_)
  cases j with
  |zero=>exact h0
  |succ j=>exact hno j (by omega)
def WV(n D:Nat)(ns es:AX)(m:Nat):Bool:=(an (D+1)).all (Sl ns (Ba (m:Int) n) (NB es (Ba (m:Int) n) n) D)
theorem nZ{n D:Nat}{ns es:AX}(h:PrG n D ns es):WV n D ns es 0=false:=by
 unfold WV;rw [Iw];intro ha;have hD:=Dl.1 ha D (by omega)
 have e0:Ba ((0:Nat):Int) n=[]:=by
  unfold Ba;rw [List.map_eq_nil_iff,List.filter_eq_nil_iff];intro a _;unfold Jk;rw [Ie,Int.zero_ediv]
  decide
 rw [e0]at hD;unfold Sl VS at hD;rw [Nat.sub_self,List.replicate_zero,La,TD]at hD;obtain⟨c,_,hc⟩:=hD;obtain⟨d,rfl⟩: ∃d,D=d+1:=⟨D-1,by have:=h.d1;omega⟩
 rw [gT]at hc;unfold Rw at hc;simp at hc
theorem ng{n D:Nat}{ns es:AX}(h:PrG n D ns es):
  ∃a b t,JQ (n:Int) (D:Int) ns es=some (a,b,t)∧(E9 (n:Int) (D:Int) ns es 1).bind (fun r=>match r with| .inl q=>some (q.1,q.2,true)| .inr _=>some ([],[],false))=some (a,b,t)∧a.length≤8∧b.length≤8:=by
 have h8:=h.n8
 have hp:(1:Int)≤2 ^ n∧(2:Int) ^ n≤256:=by
  have h8':(2:Int) ^ n≤2 ^ 8:=Iu h8;have h0':(2:Int) ^ 0≤2 ^ n:=Iu (by omega)
  have e8:(2:Int) ^ 8=256:=by decide
  have e0:(2:Int) ^ 0=1:=by decide
  omega
 obtain⟨N,hN⟩: ∃N:Nat,((N:Int)+1)=2 ^ n:=⟨(2 ^ n-1:Int).toNat,by omega⟩
 have hw:cb.wrap (1*2 ^ (min ((n:Int)).toNat (cb.bits)))=(N:Int)+1:=by
  have:min ((n:Int)).toNat (cb.bits)=n:=by rw [ML];show min n 64=n;omega
  rw [this,Int.one_mul,JA _ (by omega),hN]
 have hu:cq.wrap (n:Int)=(n:Int):=Rt _ (by omega)
 have hlab: ∀m:Nat,m≤N→Ba (m:Int) n=Ba (m:Int) 8:=fun m hm=>RP (m:Int) n 8 (by omega) h8 (ay (by omega) (by omega))
 have hS:Gj (n:Int) (D:Int) ns es 0=some (match Cw (N+1) (WV n D ns es)with|some m=> .inl (Ba (m:Int) n,NB es (Ba (m:Int) n) n)|none=> .inr ()):=by
  have key:=MG (fun v=>EB (n:Int) (D:Int) ns es v) (fun i=>(i:Int)) (N+1) (WV n D ns es) (fun m=> .inl (Ba (m:Int) n,NB es (Ba (m:Int) n) n)) (.inr ()) ?_ ?_
  ·unfold Gj;rw [Ie]at key;exact key
  ·intro m hm;simp only [EB];rw [hu,Ce (by omega),hw,if_pos (by omega),WT n (D:Int) ns es (m:Int) (by omega) h8,Dh,WU n (D:Int) ns es _ h8 h.se (PW (Jl _ _) h8),Dh]
   have:=A2L h (m:Int) (Jk (m:Int)) (O8 es (Ba (m:Int) n))
   have hg:FB (n:Int) (D:Int) ns es (m:Int) (Ba (m:Int) n) (NB es (Ba (m:Int) n) n) (true,0)=some (WV n D ns es m):=this;rw [hg,Dh,Md m (by omega)]
  ·simp only [EB];rw [hu,Ce (by omega),hw,if_neg (by omega)]
 have hI:E9 (n:Int) (D:Int) ns es 1=some (match Cw N (fun i=>WV n D ns es (i+1))with|some m=> .inl (Ba ((m+1:Nat):Int) n,NB es (Ba ((m+1:Nat):Int) n) n)|none=> .inr ()):=by
  have key:=MG (fun v=>Da (n:Int) (D:Int) ns es v) (fun i=>((i+1:Nat):Int)) N (fun i=>WV n D ns es (i+1)) (fun m=> .inl (Ba ((m+1:Nat):Int) n,NB es (Ba ((m+1:Nat):Int) n) n)) (.inr ()) ?_ ?_
  ·unfold E9;exact key
  ·intro m hm;simp only [Da];have hr:=IA (O8 es (Ba ((m+1:Nat):Int) 8)) n;have hb:=eT (O8 es (Ba ((m+1:Nat):Int) 8)) n 8 h8;rw [Ce (by omega),hw,if_pos (by omega),O7 _ (by omega),Dh,ae n (D:Int) ns es _ (by omega) h8 h.se h.je,Dh,O7 _ (by omega),Dh,hb]
   have:=A2J h ((m+1:Nat):Int) (Ba ((m+1:Nat):Int) 8) (NB es (Ba ((m+1:Nat):Int) 8) n) (Jl _ _) (PW (VO _ _ _) h8)
   have hg:E8 (n:Int) (D:Int) ns es ((m+1:Nat):Int) (Ba ((m+1:Nat):Int) 8) (((an n).filter (O8 es (Ba ((m+1:Nat):Int) 8))).map fun(a:Nat)=>(a:Int)) (true,0)=some (WV n D ns es (m+1)):=by
    unfold WV;rw [hlab (m+1) (by omega)]
    exact this
   rw [hg,Dh,Md (m+1) (by omega)]
   unfold NB;rw [hlab (m+1) (by omega)]
  ·simp only [Da];rw [Ce (by omega),hw,if_neg (by omega)]
 have hsh:=VT (n:=N) (nZ h);unfold JQ;rw [hS,hI,hsh,Dh,Dh]
 cases Cw N (fun i=>WV n D ns es (i+1))with
 |none=>exact⟨[],[],false,rfl,rfl,by simp,by simp⟩
 |some m=>exact⟨_,_,true,rfl,rfl,PW (Jl _ _) h8,PW (VO _ _ _) h8⟩
theorem jd(a d:Int)(ns es:AX)(sn:BR ns)(se:BR es):
  ∃x y t,Hm a d ns es=some (x,y,t)∧Hg a d ns es=some (x,y,t)∧x.length≤8∧y.length≤8:=by
 unfold Hm Hg;rw [Ce sn,Ce se,Ce sn,Ce se];by_cases hp:Il a d ns es=true
 ·obtain⟨⟨a1,a8⟩,⟨d1,d4⟩,cn,ce⟩:=eH hp;obtain⟨n,rfl⟩:=jo (show 0≤a by omega)
  obtain⟨D,rfl⟩:=jo (show 0≤d by omega)
  have hG:PrG n D ns es:=by
   refine⟨by omega,by omega,by omega,by omega,sn,se,X8 cn,X8 ce,fun c hc=> ?_,fun c hc=> ?_⟩
   ·obtain⟨h1,h2,h3⟩:=aU cn hc
    refine⟨by omega,fun x hx=> ?_⟩
    have:=eY h3 hx
    omega
   ·exact YR (aU cn hc).2.1
  obtain⟨x,y,t,h1,h2,h3,h4⟩:=ng hG
  refine⟨x,y,t, ?_, ?_,h3,h4⟩
  ·rw [if_pos hp,h1];rfl
  ·rw [if_pos hp];exact h2
 ·rw [if_neg hp,if_neg hp]
  exact⟨[],[],false,rfl,rfl,by simp,by simp⟩
theorem ni(a d:Int)(ns es:AX)(hn:PK ns)(he:PK es):Es a d ns es=some true:=by
 unfold Es;rw [Ce hn,Ce he,Ce (by omega)]
 by_cases q1:oH 1048576 ns es<0
 ·rw [if_pos q1]
 ·obtain⟨f1,sn,se,f2⟩:=qV (by omega) q1
  have t1:=ED ns;have t2:=ED es;have g1:(0:Int)≤1∧(1:Int)+FW ns+FW es<1099511627776:=by omega
  have g2: ¬(1:Int)+FW ns+FW es<0:=by omega
  rw [if_neg q1,Ce sn,Ce se];obtain⟨x,y,t,hS,hI,hx,hy⟩:=jd a d ns es sn se;have h1:x.length<1099511627776:=by omega
  have h2:y.length<1099511627776:=by omega
  have h3:(0:Int)≤1∧(1:Int)<1099511627776:=by omega
  have h4:(0:Int)≤(1:Int)+x.length∧(1:Int)+x.length<1099511627776:=by omega
  have h5:(upto (1:Int) x.length).length<1099511627776:=by rw [K5];omega
  have h6:(0:Int)≤1∧(1:Int)+(upto (1:Int) x.length).length<1099511627776:=by rw [K5];omega
  have h7: ¬(1:Int)+(x.length:Int)<0:=by omega
  have h8:(upto ((1:Int)+x.length) y.length).length<1099511627776:=by rw [K5];omega
  have h9:(0:Int)≤(1:Int)+x.length∧(1:Int)+x.length+(upto ((1:Int)+x.length) y.length).length<1099511627776:=by rw [K5];omega
  have hA: ¬(1:Int)+(x.length:Int)+(y.length:Int)<0:=by omega
  simp only [hS,hI,Dh,Ce h1,Ce h2,decide_true,if_true,dn,Ce g1,if_neg g2,Ce h3,Ce h4,Ce h5,Ce h6,jR,if_neg h7,Ce h8,Ce h9,if_neg hA]
  cases t<;>simp
theorem nk(ds:List D)(h:zw AZ [24] ds):Y.call 4 ds []=some (.bool true,[]):=by
 rcases ds with _|⟨x,_|⟨_,_⟩⟩
 ·cases h
 ·obtain⟨a,d,ns,es,rfl,_,_,hn,he⟩:=dM A16 ty3 A15 A17 ty3 h.1;exact L6 a d ns es (ni a d ns es (fP hn) (fP he))
 ·exact h.2.elim
end Go.Proofs.Ytclkfhhdikfcpaa
end
