/- Functions of the program as plain functions, and what they compute. Conditions: those in each lemma. -/
import Derived.Test.YtclkfhhdikfcpaaL6
import Derived.Test.YtclkfhhdikfcpaaNis
open Dv.D renaming int → bd,sl → bh,own → cd,box → cg,agg → ce,bool → b9
open Nat renaming reduceEqDiff → bj,reduceLT → bk,reduceLeDiff → bl,reduceAdd → bm,reduceMul → bo,reduceMod → bp,reduceDiv → br,reducePow → bt,reduceSub → bw,reduceBEq → bx
open Int renaming reduceLE → bO,reduceLT → b0,reduceEq → b3,reduceSub → b4,reduceAdd → b5,reduceToNat → b6,reduceNeg → b7
open Inhabited renaming default → be
open Go.IntKind renaming i64 → ca
open Sum renaming inl → cb,inr → b8
open Go.ResultVar renaming tmp → cc
open List renaming replicate → ao
noncomputable section
namespace Go.Proofs.Ytclkfhhdikfcpaa
open Go Dv
set_option linter.unusedSimpArgs false
set_option linter.unusedVariables false
set_option maxRecDepth 100000
set_option maxHeartbeats 4000000
def D6(AB:Am)(Bj:Int)(out1:List (Int×Int×Int×Int))(Jy:Int):Option (((List (Int×Int×Int×Int))×Int)⊕((List (Int×Int×Int×Int)))):= if Jy<((AB.getD Bj.toNat be).length:Int)then ck (0≤Jy∧Jy.toNat<(AB.getD Bj.toNat be).length)<| if Bj<(BJ (AB.getD Bj.toNat be) Jy.toNat)then ck (out1.length*4+4<1099511627776)<| some (cb ((out1++[(Bj,Jy,(BJ (AB.getD Bj.toNat be) Jy.toNat),(CO (AB.getD Bj.toNat be) Jy.toNat))]),ca.wrap (Jy+1))) else if Bj=(BJ (AB.getD Bj.toNat be) Jy.toNat)then if Jy≤(CO (AB.getD Bj.toNat be) Jy.toNat)then ck (out1.length*4+4<1099511627776)<| some (cb ((out1++[(Bj,Jy,(BJ (AB.getD Bj.toNat be) Jy.toNat),(CO (AB.getD Bj.toNat be) Jy.toNat))]),ca.wrap (Jy+1))) else some (cb (out1,ca.wrap (Jy+1))) else some (cb (out1,ca.wrap (Jy+1))) else some (b8 out1)
def Ef(AB:Am)(Bj:Int)(v:(List (Int×Int×Int×Int))×Int):Option ((List (Int×Int×Int×Int))):=Im (fun v=>D6 AB Bj v.1 v.2) v
def D7(AB:Am)(out:List (Int×Int×Int×Int))(Bj:Int):Option (((List (Int×Int×Int×Int))×Int)⊕((List (Int×Int×Int×Int)))):= if Bj<(AB.length:Int)then ck (0≤Bj∧Bj.toNat<AB.length)<| (Ef AB Bj (out,0)).bind fun AY=> some (cb (AY,ca.wrap (Bj+1))) else some (b8 out)
def G7(AB:Am)(v:(List (Int×Int×Int×Int))×Int):Option ((List (Int×Int×Int×Int))):=Im (fun v=>D7 AB v.1 v.2) v
def GG(AB:Am)(AO:AL)(AA:AL):Option ((List (Int×Int×Int×Int))):= (G7 AB ([],0)).bind fun CY=> some CY
def UJ:SC:= .seq (.ops [oB 19 .lss 3 (tK 18) (tK 17) 3 0]) (.seq (.cond (tK 19) .skip (.exit 2)) (.seq (.block 3 (.seq (.ops [oM 20 18 3,oI 21 123 16 18,oL 22 125 21 125,oX 7 (.alloc 125) 0,oA 6 20 3,oS 125 7 22]) (.seq (.ops [oM 23 4 3,oF 24 125 7 0,oL 25 3 24 3,oB 26 .lss 3 (tK 23) (tK 25) 3 4,oM 27 26 4,⟨(some 28),(.move (tK 4)),3,(some (some 27,false))⟩,⟨(some 29),(.fieldAddr 125 (tK 7) 0),0,(some (some 27,false))⟩,⟨(some 30),(.load 3 (tK 29)),3,(some (some 27,false))⟩,⟨(some 31),(.binOp .eql 3 (tK 28) (tK 30) 3),4,(some (some 27,false))⟩,⟨(some 32),(.move (tK 31)),4,(some (some 27,false))⟩,⟨(some 33),(.move (tK 6)),3,(some (some 32,true))⟩,⟨(some 34),(.fieldAddr 125 (tK 7) 1),0,(some (some 32,true))⟩,⟨(some 35),(.load 3 (tK 34)),3,(some (some 32,true))⟩,⟨(some 36),(.binOp .leq 3 (tK 33) (tK 35) 3),4,(some (some 32,true))⟩,⟨(some 37),(.pick (tK 32) (tK 36) Ou),4,(some (some 27,false))⟩,oX 38 (.pick (tK 27) Fw (tK 37)) 4]) (.cond (tK 38) (.ops [oM 39 3 135,oM 40 4 3,oM 41 6 3,oF 42 125 7 0,oL 43 3 42 3,oF 44 125 7 1,oL 45 3 44 3,oX 46 (.build 137 #[(0,(tK 40)),(1,(tK 41)),(2,(tK 43)),(3,(tK 45))]) 137,oX 47 (.buildSlice 135 1 #[(0,(tK 46))]) 135,oX 48 (.call ⟨(.builtin .append), #[(tK 39),(tK 47)], #[135,135]⟩) 135,
 oA 3 48 135]) .skip)))) (.ops [oB 49 .add 3 (tK 18) (iK 1) 3 3,oM 18 49 3])))
def fF:SC:= .loop UJ
def UK:SC:= .seq (.ops [oB 12 .lss 3 (tK 11) (tK 10) 3 0]) (.seq (.cond (tK 12) .skip (.exit 0)) (.seq (.block 1 (.seq (.ops [oM 13 11 3,oI 14 45 9 11,oL 15 123 14 123,oA 4 13 3,oA 5 15 123]) (.seq (.ops [oM 16 5 123,oN 17 16 123,oX 18 (.move (iK 0)) 3]) (.block 2 fF)))) (.ops [oB 50 .add 3 (tK 11) (iK 1) 3 3,oM 11 50 3])))
def fG:SC:= .loop UK
def A29:SC:= .seq (.ops [oX 1 (.box 47 (tK 0)) 0,oX 2 OL 135]) (.seq (.ops [oX 3 OL 135]) (.seq (.seq (.ops [oF 8 47 1 0,oL 9 45 8 45,oN 10 9 45,oX 11 (.move (iK 0)) 3]) (.block 0 fG)) (.seq (.ops [oM 51 3 135,oA 2 51 135]) .ret)))
theorem rR:Try.f118.body.map (Ba lends)=some A29:=by kernel_rfl
theorem A92:Bz Try.f118 1=true:=by kernel_rfl
theorem AEM{a l:List D}{r:D×List D}(h:C8 Y.env A29 (Fa Ac l.length [cc 2] r) (entry a l))(ha:a.length=1):Y.call 118 a l=some r:=
 Aa (Y:=Y) rfl Try.func118 (ha▸A92) rR h
def BX(AB:Am)(Bj:Int)(out1:List (Int×Int×Int×Int))(Jy:Int)(s:St):Prop:=s.v 3=cd 137 (Kw out1)∧s.v 4=bd .i64 Bj∧s.v 9=bh 123 (AP (fun x=>bh 125 (Au .i64 .i64 x)) AB)∧s.v 10=bd .i64 (AB.length:Int)∧s.v 11=bd .i64 Bj∧s.v 16=bh 125 (Au .i64 .i64 (AB.getD Bj.toNat be))∧s.v 17=bd .i64 ((AB.getD Bj.toNat be).length:Int)∧s.v 18=bd .i64 Jy
def Bq(AB:Am)(Bj:Int)(r:(List (Int×Int×Int×Int)))(ex:Ex)(s:St):Prop:=ex= .exit 2∧s.v 3=cd 137 (Kw r)∧s.v 9=bh 123 (AP (fun x=>bh 125 (Au .i64 .i64 x)) AB)∧s.v 10=bd .i64 (AB.length:Int)∧s.v 11=bd .i64 Bj
theorem N8(AB:Am)(Bj:Int){v:(List (Int×Int×Int×Int))×Int}{s:St}{r:(List (Int×Int×Int×Int))}(h:Ef AB Bj v=some r)(hM:BX AB Bj v.1 v.2 s):C8 Y.env fF (Bq AB Bj r) s:=by
 unfold Ef at h;refine BU (c:=UJ) (fun v=>D6 AB Bj v.1 v.2) (fun v s=>BX AB Bj v.1 v.2 s) (Bq AB Bj) ?_ h hM;clear h hM s v r;intro v s o hM h;obtain⟨out1,Jy⟩:=v;dsimp only at h hM;unfold D6 at h;unfold BX at hM;obtain⟨m0,m1,m2,m3,m4,m5,m6,m7⟩:=hM;unfold UJ;by_cases e3:Jy<((AB.getD Bj.toNat be).length:Int)
 ·rw [if_pos e3]at h;obtain⟨e4,h⟩:=Bw h;by_cases e5:Bj<(BJ (AB.getD Bj.toNat be) Jy.toNat)
  ·rw [if_pos e5]at h;obtain⟨e6,h⟩:=Bw h
   obtain rfl:=Option.some.inj h
   simp (maxDischargeDepth:=9) only [↓AQ,AR,Ah,↓reduceIte,bj,bk,bl,bm,bo,bp,br,bt,bw,bx,bO,b0,b3,b4,b5,b6,b7,m0,m1,m2,m3,m4,m5,m6,m7,e3,e4.1,e4.2,e5,e6,BX,Bq,Ch,Ci,Cj]<;>(repeat' apply A7)<;>first|rfl|exact⟨_,rfl⟩|exact⟨_,_,rfl⟩|simp [AP,A8]
  ·rw [if_neg e5]at h;by_cases e6:Bj=(BJ (AB.getD Bj.toNat be) Jy.toNat)
   ·rw [if_pos e6]at h;by_cases e7:Jy≤(CO (AB.getD Bj.toNat be) Jy.toNat)
    ·rw [if_pos e7]at h;obtain⟨e8,h⟩:=Bw h
     obtain rfl:=Option.some.inj h
     simp (maxDischargeDepth:=9) only [↓AQ,AR,Ah,↓reduceIte,bj,bk,bl,bm,bo,bp,br,bt,bw,bx,bO,b0,b3,b4,b5,b6,b7,m0,m1,m2,m3,m4,m5,m6,m7,e3,e4.1,e4.2,e5,decide_eq_true e6,e7,e8,BX,Bq,Ch,Ci,Cj]<;>(repeat' apply A7)<;>first|rfl|exact⟨_,rfl⟩|exact⟨_,_,rfl⟩|simp [AP,A8]
    ·rw [if_neg e7]at h
     obtain rfl:=Option.some.inj h
     simp (maxDischargeDepth:=9) only [↓AQ,AR,Ah,↓reduceIte,bj,bk,bl,bm,bo,bp,br,bt,bw,bx,bO,b0,b3,b4,b5,b6,b7,m0,m1,m2,m3,m4,m5,m6,m7,e3,e4.1,e4.2,e5,decide_eq_true e6,e7,BX,Bq,Ch,Ci,Cj]<;>(repeat' apply A7)<;>first|rfl|exact⟨_,rfl⟩|exact⟨_,_,rfl⟩|simp [AP,A8]
   ·rw [if_neg e6]at h
    obtain rfl:=Option.some.inj h
    simp (maxDischargeDepth:=9) only [↓AQ,AR,Ah,↓reduceIte,bj,bk,bl,bm,bo,bp,br,bt,bw,bx,bO,b0,b3,b4,b5,b6,b7,m0,m1,m2,m3,m4,m5,m6,m7,e3,e4.1,e4.2,e5,e6,BX,Bq,Ch,Ci,Cj]<;>(repeat' apply A7)<;>first|rfl|exact⟨_,rfl⟩|exact⟨_,_,rfl⟩|simp [AP,A8]
 ·rw [if_neg e3]at h
  obtain rfl:=Option.some.inj h
  simp (maxDischargeDepth:=9) only [↓AQ,AR,Ah,↓reduceIte,bj,bk,bl,bm,bo,bp,br,bt,bw,bx,bO,b0,b3,b4,b5,b6,b7,m0,m1,m2,m3,m4,m5,m6,m7,e3,BX,Bq,Ch,Ci,Cj]<;>(repeat' apply A7)<;>first|rfl|exact⟨_,rfl⟩|exact⟨_,_,rfl⟩|simp [AP,A8]
def D8(AB:Am)(out:List (Int×Int×Int×Int))(Bj:Int)(s:St):Prop:=s.v 3=cd 137 (Kw out)∧s.v 9=bh 123 (AP (fun x=>bh 125 (Au .i64 .i64 x)) AB)∧s.v 10=bd .i64 (AB.length:Int)∧s.v 11=bd .i64 Bj
def Du(AB:Am)(r:(List (Int×Int×Int×Int)))(ex:Ex)(s:St):Prop:=ex= .exit 0∧s.v 3=cd 137 (Kw r)
theorem N9(AB:Am){v:(List (Int×Int×Int×Int))×Int}{s:St}{r:(List (Int×Int×Int×Int))}(h:G7 AB v=some r)(hM:D8 AB v.1 v.2 s):C8 Y.env fG (Du AB r) s:=by
 unfold G7 at h;refine BU (c:=UK) (fun v=>D7 AB v.1 v.2) (fun v s=>D8 AB v.1 v.2 s) (Du AB) ?_ h hM;clear h hM s v r;intro v s o hM h;obtain⟨out,Bj⟩:=v;dsimp only at h hM;unfold D7 at h;unfold D8 at hM;obtain⟨m0,m1,m2,m3⟩:=hM;unfold UK;by_cases e1:Bj<(AB.length:Int)
 ·rw [if_pos e1]at h;obtain⟨e2,h⟩:=Bw h;obtain⟨AY,hl4,h⟩:=Ar h;try dsimp only at h
  simp (maxDischargeDepth:=9) only [↓AQ,AR,Ah,↓reduceIte,bj,bk,bl,bm,bo,bp,br,bt,bw,bx,bO,b0,b3,b4,b5,b6,b7,m0,m1,m2,m3,e1,e2.1,e2.2];refine BF (N8 AB Bj hl4 ?_) ?_
  ·simp (maxDischargeDepth:=9) only [↓AQ,AR,Ah,↓reduceIte,bj,bk,bl,bm,bo,bp,br,bt,bw,bx,bO,b0,b3,b4,b5,b6,b7,m0,m1,m2,m3,e1,e2.1,e2.2,BX]<;>(repeat' apply A7)<;>first|rfl|exact⟨_,rfl⟩|exact⟨_,_,rfl⟩|simp [AP,A8]
  ·intro ex4 s4 hX4;unfold Bq at hX4;obtain⟨rfl,n4_0,n4_1,n4_2,n4_3⟩:=hX4
   obtain rfl:=Option.some.inj h
   simp (maxDischargeDepth:=9) only [↓AQ,AR,Ah,↓reduceIte,bj,bk,bl,bm,bo,bp,br,bt,bw,bx,bO,b0,b3,b4,b5,b6,b7,e1,e2.1,e2.2,n4_0,n4_1,n4_2,n4_3,D8,Du,Ch,Ci,Cj]<;>(repeat' apply A7)<;>first|rfl|exact⟨_,rfl⟩|exact⟨_,_,rfl⟩|simp [AP,A8]
 ·rw [if_neg e1]at h
  obtain rfl:=Option.some.inj h
  simp (maxDischargeDepth:=9) only [↓AQ,AR,Ah,↓reduceIte,bj,bk,bl,bm,bo,bp,br,bt,bw,bx,bO,b0,b3,b4,b5,b6,b7,m0,m1,m2,m3,e1,D8,Du,Ch,Ci,Cj]<;>(repeat' apply A7)<;>first|rfl|exact⟨_,rfl⟩|exact⟨_,_,rfl⟩|simp [AP,A8]
theorem Nk(AB:Am)(AO:AL)(AA:AL){r:(List (Int×Int×Int×Int))}(h:GG AB AO AA=some r):Y.call 118 [ce [bh 123 (AP (fun x=>bh 125 (Au .i64 .i64 x)) AB),bh 3 (AP (bd .i64) AO),bh 3 (AP (bd .i64) AA)]] []=some (cd 137 (Kw r),[]):=by
 refine AEM ?_ rfl;unfold A29;unfold GG at h;obtain⟨CY,hl2,h⟩:=Ar h;try dsimp only at h
 simp (maxDischargeDepth:=9) only [↓AQ,AR,Ah,↓reduceIte,bj,bk,bl,bm,bo,bp,br,bt,bw,bx,bO,b0,b3,b4,b5,b6,b7];refine BF (N9 AB hl2 ?_) ?_
 ·simp (maxDischargeDepth:=9) only [↓AQ,AR,Ah,↓reduceIte,bj,bk,bl,bm,bo,bp,br,bt,bw,bx,bO,b0,b3,b4,b5,b6,b7,D8]<;>(repeat' apply A7)<;>first|rfl|exact⟨_,rfl⟩|exact⟨_,_,rfl⟩|simp [AP,A8]
 ·intro ex2 s2 hX2;unfold Du at hX2;obtain⟨rfl,n2_0⟩:=hX2
  obtain rfl:=Option.some.inj h
  simp (maxDischargeDepth:=9) only [↓AQ,AR,Ah,↓reduceIte,bj,bk,bl,bm,bo,bp,br,bt,bw,bx,bO,b0,b3,b4,b5,b6,b7,n2_0]<;>(repeat' apply A7)<;>first|rfl|exact⟨_,rfl⟩|exact⟨_,_,rfl⟩|simp [AP,A8]
def AZ(s_:List (Int×Int×Int×Int))(f:Int→Int→Int→Int→Option Bool)(FK:Int):Option ((Int)⊕(Int⊕Unit)):= if FK<(s_.length:Int)then ck (0≤FK∧FK.toNat<s_.length)<| (f (q4a s_ FK.toNat) (q4b s_ FK.toNat) (q4c s_ FK.toNat) (q4d s_ FK.toNat)).bind fun M3=> if M3=true then some (b8 (cb FK)) else some (cb (ca.wrap (FK+1))) else some (b8 (b8 ()))
def Af(s_:List (Int×Int×Int×Int))(f:Int→Int→Int→Int→Option Bool)(v:Int):Option (Int⊕Unit):=Im (fun v=>AZ s_ f v) v
def Ag(s_:List (Int×Int×Int×Int))(f:Int→Int→Int→Int→Option Bool):Option (Int):=
 (Af s_ f 0).bind fun AY=>
 match AY with
 | .inl q1000_=>
  some q1000_
 | .inr q1000_=>
  some (-1)
def UL:SC:= .seq (.ops [oB 9 .lss 3 (tK 8) (tK 7) 3 0]) (.seq (.cond (tK 9) .skip (.exit 0)) (.seq (.block 1 (.seq (.ops [oM 10 8 3,oA 5 10 3]) (.seq (.ops [oM 11 1 139,oM 12 0 135,oM 13 5 3,oI 14 135 12 13,oL 15 137 14 137,oX 16 (.call ⟨(.value (tK 11)), #[(tK 15)], #[137]⟩) 4]) (.cond (tK 16) (.seq (.ops [oM 17 5 3,oA 4 17 3]) .ret) .skip)))) (.ops [oB 18 .add 3 (tK 8) (iK 1) 3 3,oM 8 18 3])))
def fH:SC:= .loop UL
def A2A:SC:= .seq (.ops [oX 4 (.assign (iK 0)) 3]) (.seq (.seq (.ops [oM 6 0 135,oN 7 6 135,oX 8 (.move (iK 0)) 3]) (.block 0 fH)) (.seq (.ops [oX 4 Ot 3]) .ret))
theorem rT:Try.f156.body.map (Ba lends)=some A2A:=by kernel_rfl
theorem A93:Bz Try.f156 2=true:=by kernel_rfl
theorem AEN{a l:List D}{r:D×List D}(h:C8 Y.env A2A (Fa Ac l.length [cc 4] r) (entry a l))(ha:a.length=2):Y.call 156 a l=some r:=
 Aa (Y:=Y) rfl Try.func156 (ha▸A93) rT h
def AV(s_:List (Int×Int×Int×Int))(f:Int→Int→Int→Int→Option Bool)(f_f:FuncId)(f_c:List D)(FK:Int)(s:St):Prop:=s.v 0=bh 137 (Kw s_)∧s.v 1=D.clo f_f f_c∧s.v 7=bd .i64 (s_.length:Int)∧s.v 8=bd .i64 FK
def AX(s_:List (Int×Int×Int×Int))(f:Int→Int→Int→Int→Option Bool)(f_f:FuncId)(f_c:List D)(r:Int⊕Unit)(ex:Ex)(s:St):Prop:=match r with
 | .inl q=>ex= .ret∧s.v 4=bd .i64 q
 | .inr q=>ex= .exit 0
theorem Bh(s_:List (Int×Int×Int×Int))(f:Int→Int→Int→Int→Option Bool)(f_f:FuncId)(f_c:List D)(f_h: ∀(a0_0:Int) (a0_1:Int) (a0_2:Int) (a0_3:Int) (r:Bool),f a0_0 a0_1 a0_2 a0_3=some r→Y.call f_f (ce [bd .i64 a0_0,bd .i64 a0_1,bd .i64 a0_2,bd .i64 a0_3]::f_c) []=some (b9 r,[]))(f_l:lends f_f=false){v:Int}{s:St}{r:Int⊕Unit}(h:Af s_ f v=some r)(hM:AV s_ f f_f f_c v s):C8 Y.env fH (AX s_ f f_f f_c r) s:=by
 unfold Af at h;refine BU (c:=UL) (fun v=>AZ s_ f v) (fun v s=>AV s_ f f_f f_c v s) (AX s_ f f_f f_c) ?_ h hM;clear h hM s v r;intro FK s o hM h;unfold AZ at h;unfold AV at hM;obtain⟨m0,m1,m2,m3⟩:=hM;unfold UL;by_cases e1:FK<(s_.length:Int)
 ·rw [if_pos e1]at h;obtain⟨e2,h⟩:=Bw h;obtain⟨M3,hl3,h⟩:=Ar h;try dsimp only at h
  have c3:=f_h _ _ _ _ _ hl3;by_cases e4:M3=true
  ·rw [if_pos e4]at h
   obtain rfl:=Option.some.inj h
   simp (maxDischargeDepth:=9) only [↓AQ,AR,Ah,↓reduceIte,bj,bk,bl,bm,bo,bp,br,bt,bw,bx,bO,b0,b3,b4,b5,b6,b7,m0,m1,m2,m3,f_l,e1,e2.1,e2.2,c3,e4,AV,AX,Ch,Ci,Cj]<;>(repeat' apply A7)<;>first|rfl|exact⟨_,rfl⟩|exact⟨_,_,rfl⟩|simp [AP,A8]
  ·rw [if_neg e4]at h;have e4f:M3=false:=KR.mpr e4
   obtain rfl:=Option.some.inj h
   simp (maxDischargeDepth:=9) only [↓AQ,AR,Ah,↓reduceIte,bj,bk,bl,bm,bo,bp,br,bt,bw,bx,bO,b0,b3,b4,b5,b6,b7,m0,m1,m2,m3,f_l,e1,e2.1,e2.2,c3,e4f,AV,AX,Ch,Ci,Cj]<;>(repeat' apply A7)<;>first|rfl|exact⟨_,rfl⟩|exact⟨_,_,rfl⟩|simp [AP,A8]
 ·rw [if_neg e1]at h
  obtain rfl:=Option.some.inj h
  simp (maxDischargeDepth:=9) only [↓AQ,AR,Ah,↓reduceIte,bj,bk,bl,bm,bo,bp,br,bt,bw,bx,bO,b0,b3,b4,b5,b6,b7,m0,m1,m2,m3,f_l,e1,AV,AX,Ch,Ci,Cj]<;>(repeat' apply A7)<;>first|rfl|exact⟨_,rfl⟩|exact⟨_,_,rfl⟩|simp [AP,A8]
theorem Bl(s_:List (Int×Int×Int×Int))(f:Int→Int→Int→Int→Option Bool)(f_f:FuncId)(f_c:List D)(f_h: ∀(a0_0:Int) (a0_1:Int) (a0_2:Int) (a0_3:Int) (r:Bool),f a0_0 a0_1 a0_2 a0_3=some r→Y.call f_f (ce [bd .i64 a0_0,bd .i64 a0_1,bd .i64 a0_2,bd .i64 a0_3]::f_c) []=some (b9 r,[]))(f_l:lends f_f=false){r:Int}(h:Ag s_ f=some r):Y.call 156 [bh 137 (Kw s_),D.clo f_f f_c] []=some (bd .i64 r,[]):=by
 refine AEN ?_ rfl;unfold A2A;unfold Ag at h;obtain⟨AY,hl2,h⟩:=Ar h;try dsimp only at h
 simp (maxDischargeDepth:=9) only [↓AQ,AR,Ah,↓reduceIte,bj,bk,bl,bm,bo,bp,br,bt,bw,bx,bO,b0,b3,b4,b5,b6,b7,f_l];refine BF (Bh s_ f f_f f_c f_h f_l hl2 ?_) ?_
 ·simp (maxDischargeDepth:=9) only [↓AQ,AR,Ah,↓reduceIte,bj,bk,bl,bm,bo,bp,br,bt,bw,bx,bO,b0,b3,b4,b5,b6,b7,f_l,AV]<;>(repeat' apply A7)<;>first|rfl|exact⟨_,rfl⟩|exact⟨_,_,rfl⟩|simp [AP,A8]
 ·intro ex2 s2 hX2;rcases AY with q1000_|q1000_
  ·unfold AX at hX2;dsimp only at hX2 h;obtain⟨rfl,n2_0⟩:=hX2
   obtain rfl:=Option.some.inj h
   simp (maxDischargeDepth:=9) only [↓AQ,AR,Ah,↓reduceIte,bj,bk,bl,bm,bo,bp,br,bt,bw,bx,bO,b0,b3,b4,b5,b6,b7,f_l,n2_0]<;>(repeat' apply A7)<;>first|rfl|exact⟨_,rfl⟩|exact⟨_,_,rfl⟩|simp [AP,A8]
  ·unfold AX at hX2;dsimp only at hX2 h
   obtain rfl:=hX2
   obtain rfl:=Option.some.inj h
   simp (maxDischargeDepth:=9) only [↓AQ,AR,Ah,↓reduceIte,bj,bk,bl,bm,bo,bp,br,bt,bw,bx,bO,b0,b3,b4,b5,b6,b7,f_l]<;>(repeat' apply A7)<;>first|rfl|exact⟨_,rfl⟩|exact⟨_,_,rfl⟩|simp [AP,A8]
def Ab(s_:List (Int×Int×Int×Int))(f:Int→Int→Int→Int→Option Bool):Option (Bool):= (Ag s_ f).bind fun nA=> some (decide (0≤nA))
def A2B:SC:= .seq (.ops [oX 4 CV 4]) (.seq (.ops [oM 5 0 135,oM 6 1 139,oC 7 156 [(tK 5),(tK 6)] [135,139] 3,oB 8 .geq 3 (tK 7) (iK 0) 3 4,oA 4 8 4]) .ret)
theorem rU:Try.f117.body.map (Ba lends)=some A2B:=by kernel_rfl
theorem A94:Bz Try.f117 2=true:=by kernel_rfl
theorem AEO{a l:List D}{r:D×List D}(h:C8 Y.env A2B (Fa Ac l.length [cc 4] r) (entry a l))(ha:a.length=2):Y.call 117 a l=some r:=
 Aa (Y:=Y) rfl Try.func117 (ha▸A94) rU h
theorem Bb(s_:List (Int×Int×Int×Int))(f:Int→Int→Int→Int→Option Bool)(f_f:FuncId)(f_c:List D)(f_h: ∀(a0_0:Int) (a0_1:Int) (a0_2:Int) (a0_3:Int) (r:Bool),f a0_0 a0_1 a0_2 a0_3=some r→Y.call f_f (ce [bd .i64 a0_0,bd .i64 a0_1,bd .i64 a0_2,bd .i64 a0_3]::f_c) []=some (b9 r,[]))(f_l:lends f_f=false){r:Bool}(h:Ab s_ f=some r):Y.call 117 [bh 137 (Kw s_),D.clo f_f f_c] []=some (b9 r,[]):=by
 refine AEO ?_ rfl;unfold A2B;unfold Ab at h;obtain⟨nA,hl1,h⟩:=Ar h;try dsimp only at h
 have c1:=Bl s_ f f_f f_c f_h f_l hl1
 obtain rfl:=Option.some.inj h
 simp (maxDischargeDepth:=9) only [↓AQ,AR,Ah,↓reduceIte,bj,bk,bl,bm,bo,bp,br,bt,bw,bx,bO,b0,b3,b4,b5,b6,b7,f_l,c1]<;>(repeat' apply A7)<;>first|rfl|exact⟨_,rfl⟩|exact⟨_,_,rfl⟩|simp [AP,A8]
def M4(e_v:Int)(e_i:Int)(e_w:Int)(e_j:Int)(c0_:AL):Option (Bool):= ck (0≤e_v∧e_v.toNat<c0_.length)<| ck (0≤e_w∧e_w.toNat<c0_.length)<| some (decide ((c0_.getD e_v.toNat be)=(c0_.getD e_w.toNat be)))
abbrev je:List Nat:=[4,5,6,7,8,9,10,11,12,13,14,3,14,14]
def A2C:SC:= .seq (.ops [oX 2 (.box 137 (tK 0)) 0,oX 3 CV 4]) (.seq (.draws [(⟨[4,1,1],je,[4]⟩,oL 4 26 1 26),(⟨[5,2,2],je,[5]⟩,oF 5 137 2 0),(⟨[6,5,2],je,[6]⟩,oL 6 3 5 3),(⟨[7,4,6,1,2],je,[7]⟩,oI 7 26 4 6),(⟨[8,7,1],je,[8]⟩,oL 8 3 7 3),(⟨[9,1,1],je,[9]⟩,oL 9 26 1 26),(⟨[10,2,2],je,[10]⟩,oF 10 137 2 2),(⟨[11,10,2],je,[11]⟩,oL 11 3 10 3),(⟨[12,9,11,1,2],je,[12]⟩,oI 12 26 9 11),(⟨[13,12,1],je,[13]⟩,oL 13 3 12 3),(⟨[14,8,13,1,1],je,[14]⟩,oB 14 .eql 3 (tK 8) (tK 13) 3 4),(⟨[3,14,14],je,[3,14,14]⟩,oA 3 14 4)]) .ret)
theorem rV:Try.f119.body.map (Ba lends)=some A2C:=by kernel_rfl
theorem A95:Bz Try.f119 2=true:=by kernel_rfl
theorem AEP{a l:List D}{r:D×List D}(h:C8 Y.env A2C (Fa Ac l.length [cc 3] r) (entry a l))(ha:a.length=2):Y.call 119 a l=some r:=
 Aa (Y:=Y) rfl Try.func119 (ha▸A95) rV h
theorem UM(e_v:Int)(e_i:Int)(e_w:Int)(e_j:Int)(c0_:AL){r:Bool}(h:M4 e_v e_i e_w e_j c0_=some r):Y.call 119 [ce [bd .i64 e_v,bd .i64 e_i,bd .i64 e_w,bd .i64 e_j],D.cptr [bh 3 (AP (bd .i64) c0_)]] []=some (b9 r,[]):=by
 refine AEP ?_ rfl;unfold A2C;unfold M4 at h;obtain⟨e1,h⟩:=Bw h;obtain⟨e2,h⟩:=Bw h
 obtain rfl:=Option.some.inj h
 simp (maxDischargeDepth:=9) only [↓AQ,AR,Ah,↓reduceIte,bj,bk,bl,bm,bo,bp,br,bt,bw,bx,bO,b0,b3,b4,b5,b6,b7,e1.1,e1.2,e2.1,e2.2]<;>(repeat' apply A7)<;>first|rfl|exact⟨_,rfl⟩|exact⟨_,_,rfl⟩|simp [AP,A8]
def BQ(s_:AL)(k:Int)(k1:Int)(k2:Int)(Eg:AL):Option ((Int×Int×AL)⊕(Int×AL)):= if k2<(((s_.length-k.toNat):Nat):Int)then ck (0≤k2∧k2.toNat<(s_.length-k.toNat))<| ck (k.toNat+(s_.length-k.toNat)≤Eg.length)<| ck (k.toNat+k2.toNat<Eg.length)<| ck (0≤ca.wrap (k2-1)∧(ca.wrap (k2-1)).toNat<(s_.length-k.toNat))<| ck (k.toNat+(ca.wrap (k2-1)).toNat<Eg.length)<| if(Eg.getD (k.toNat+k2.toNat) be)=(Eg.getD (k.toNat+(ca.wrap (k2-1)).toNat) be)then some (cb (k1,ca.wrap (k2+1),Eg)) else ck (0≤k1∧k1.toNat<Eg.length)<| some (cb (ca.wrap (k1+1),ca.wrap (k2+1),(Eg.set k1.toNat (Eg.getD (k.toNat+k2.toNat) be)))) else some (b8 (k1,Eg))
def C9(s_:AL)(k:Int)(v:Int×Int×AL):Option (Int×AL):=Im (fun v=>BQ s_ k v.1 v.2.1 v.2.2) v
def BR(s_:AL)(k:Int):Option ((Int)⊕((AL)⊕Unit)):= if k<(s_.length:Int)then ck (0≤k∧k.toNat<s_.length)<| ck (0≤ca.wrap (k-1)∧(ca.wrap (k-1)).toNat<s_.length)<| if(s_.getD k.toNat be)=(s_.getD ((ca.wrap (k-1)).toNat) be)then ck (0≤k)<| ck (k.toNat≤s_.length)<| (C9 s_ k (k,1,s_)).bind fun AY=> ck (0≤AY.1)<| ck (AY.1.toNat≤AY.2.length)<| ck (AY.1.toNat+(AY.2.length-AY.1.toNat)≤AY.2.length)<| ck (AY.1.toNat≤(tX AY.2 AY.1.toNat (ao (AY.2.length-AY.1.toNat) 0)).length)<| some (b8 (cb ((tX AY.2 AY.1.toNat (ao (AY.2.length-AY.1.toNat) 0)).take AY.1.toNat))) else some (cb (ca.wrap (k+1))) else some (b8 (b8 ()))
def Cr(s_:AL)(v:Int):Option ((AL)⊕Unit):=Im (fun v=>BR s_ v) v
def Cg(s_:AL):Option (AL):=
 if(s_.length:Int)<2 then
  some s_
 else
  (Cr s_ 1).bind fun CY=>
  match CY with
  | .inl q1001_=>
   some q1001_
  | .inr q1001_=>
   some s_
abbrev p8:List Nat:=[35,36,37,38,39,40,41,42,43,44]
def UN:SC:= .seq (.seq (.ops [oM 29 5 3,oM 30 4 26,oN 31 30 26,oB 32 .lss 3 (tK 29) (tK 31) 3 4]) (.cond (tK 32) .skip (.exit 2))) (.seq (.block 3 (.seq (.draws [(⟨[35,4,4],p8,[35]⟩,oM 35 4 26),(⟨[36,5,5],p8,[36]⟩,oM 36 5 3),(⟨[37,35,36,4,5],p8,[37]⟩,oI 37 26 35 36),(⟨[38,37,4],p8,[38]⟩,oL 38 3 37 3),(⟨[39,4,4],p8,[39]⟩,oM 39 4 26),(⟨[40,5,5],p8,[40]⟩,oM 40 5 3),(⟨[41,40,5],p8,[41]⟩,oB 41 .sub 3 (tK 40) (iK 1) 3 3),(⟨[42,39,41,4,41],p8,[42]⟩,oI 42 26 39 41),(⟨[43,42,4],p8,[43]⟩,oL 43 3 42 3),(⟨[44,38,43,4,4],p8,[44]⟩,oB 44 .neq 3 (tK 38) (tK 43) 3 4)]) (.cond (tK 44) (.seq (.ops [oM 45 0 26,oM 46 3 3,oM 47 4 26,oM 48 5 3,oI 49 26 47 48,oL 50 3 49 3,oI 51 26 45 46,oS 3 51 50]) (.ops [oM 52 3 3,oB 53 .add 3 (tK 52) (iK 1) 3 3,oA 3 53 3])) .skip))) (.ops [oM 33 5 3,oB 34 .add 3 (tK 33) (iK 1) 3 3,oA 5 34 3]))
def fI:SC:= .loop UN
abbrev Vb:List Nat:=[16,17,18,19,20,21,22,23,24,25]
def UO:SC:= .seq (.seq (.ops [oM 10 3 3,oM 11 0 26,oN 12 11 26,oB 13 .lss 3 (tK 10) (tK 12) 3 4]) (.cond (tK 13) .skip (.exit 0))) (.seq (.block 1 (.seq (.draws [(⟨[16,0,0],Vb,[16]⟩,oM 16 0 26),(⟨[17,3,3],Vb,[17]⟩,oM 17 3 3),(⟨[18,16,17,0,3],Vb,[18]⟩,oI 18 26 16 17),(⟨[19,18,0],Vb,[19]⟩,oL 19 3 18 3),(⟨[20,0,0],Vb,[20]⟩,oM 20 0 26),(⟨[21,3,3],Vb,[21]⟩,oM 21 3 3),(⟨[22,21,3],Vb,[22]⟩,oB 22 .sub 3 (tK 21) (iK 1) 3 3),(⟨[23,20,22,0,22],Vb,[23]⟩,oI 23 26 20 22),(⟨[24,23,0],Vb,[24]⟩,oL 24 3 23 3),(⟨[25,19,24,0,0],Vb,[25]⟩,oB 25 .eql 3 (tK 19) (tK 24) 3 4)]) (.cond (tK 25) (.seq (.ops [oM 26 0 26,oM 27 3 3,oX 28 (.slice 26 (tK 26) (some (tK 27)) none none) 900001,oA 4 28 26]) (.seq (.seq (.ops [oX 5 (.assign (iK 1)) 3]) (.block 2 fI)) (.seq (.ops [oM 54 0 26,oM 55 3 3,oX 56 (.slice 26 (tK 54) (some (tK 55)) none none) 900001,⟨none,(.call ⟨(.builtin .clear), #[(tK 56)], #[26]⟩),0,none⟩]) (.seq (.ops [oM 57 0 26,oM 58 3 3,oX 59 (.slice 26 (tK 57) none (some (tK 58)) none) 900002,oA 2 59 26]) .ret)))) .skip))) (.ops [oM 14 3 3,oB 15 .add 3 (tK 14) (iK 1) 3 3,oA 3 15 3]))
def fJ:SC:= .loop UO
def A2D:SC:= .seq (.ops [oX 2 OL 26]) (.seq (.seq (.ops [oM 6 0 26,oN 7 6 26,oB 8 .lss 3 (tK 7) (iK 2) 3 4]) (.cond (tK 8) (.seq (.ops [oM 9 0 26,oA 2 9 26]) .ret) .skip)) (.seq (.seq (.ops [oX 3 (.assign (iK 1)) 3]) (.block 0 fJ)) (.seq (.ops [oM 60 0 26,oA 2 60 26]) .ret)))
theorem rW:Try.f120.body.map (Ba lends)=some A2D:=by kernel_rfl
theorem A96:Bz Try.f120 1=true:=by kernel_rfl
theorem AEQ{a l:List D}{r:D×List D}(h:C8 Y.env A2D (Fa Ac l.length [cc 2] r) (entry a l))(ha:a.length=1):Y.call 120 a l=some r:=
 Aa (Y:=Y) rfl Try.func120 (ha▸A96) rW h
def BG(s_:AL)(k:Int)(k1:Int)(k2:Int)(Eg:AL)(s:St):Prop:=(∃w_,s.v 0=D.vw [100000] (s.k 100000) w_)∧s.v 3=bd .i64 k1∧(∃w_,s.v 4=D.vs 3 [100000] (s.k 100000) w_ k.toNat (s_.length-k.toNat))∧s.v 5=bd .i64 k2∧s.v 100000=cd 3 (AP (bd .i64) Eg)
def BS(s_:AL)(k:Int)(r:Int×AL)(ex:Ex)(s:St):Prop:=ex= .exit 2∧(∃w_,s.v 0=D.vw [100000] (s.k 100000) w_)∧s.v 3=bd .i64 r.1∧s.v 100000=cd 3 (AP (bd .i64) r.2)
theorem JJ(s_:AL)(k:Int){v:Int×Int×AL}{s:St}{r:Int×AL}(h:C9 s_ k v=some r)(hM:BG s_ k v.1 v.2.1 v.2.2 s):C8 Y.env fI (BS s_ k r) s:=by
 unfold C9 at h;refine BU (c:=UN) (fun v=>BQ s_ k v.1 v.2.1 v.2.2) (fun v s=>BG s_ k v.1 v.2.1 v.2.2 s) (BS s_ k) ?_ h hM;clear h hM s v r;intro v s o hM h;obtain⟨k1,k2,Eg⟩:=v;dsimp only at h hM;unfold BQ at h;unfold BG at hM;obtain⟨⟨w0_,m0⟩,m1,⟨w2_,m2⟩,m3,m4⟩:=hM;unfold UN;by_cases e8:k2<(((s_.length-k.toNat):Nat):Int)
 ·rw [if_pos e8]at h;obtain⟨e9,h⟩:=Bw h;obtain⟨e10,h⟩:=Bw h;obtain⟨e11,h⟩:=Bw h;obtain⟨e12,h⟩:=Bw h;obtain⟨e13,h⟩:=Bw h;by_cases e14:(Eg.getD (k.toNat+k2.toNat) be)=(Eg.getD (k.toNat+(ca.wrap (k2-1)).toNat) be)
  ·rw [if_pos e14]at h
   obtain rfl:=Option.some.inj h
   simp (maxDischargeDepth:=9) only [↓AQ,AR,Ah,↓reduceIte,bj,bk,bl,bm,bo,bp,br,bt,bw,bx,bO,b0,b3,b4,b5,b6,b7,m0,m1,m2,m3,m4,e8,e9.1,e9.2,e10,e11,e12.1,e12.2,e13,decide_eq_true e14,BG,BS,Ch,Ci,Cj]<;>(repeat' apply A7)<;>first|rfl|exact⟨_,rfl⟩|exact⟨_,_,rfl⟩|simp [AP,A8]
  ·rw [if_neg e14]at h;obtain⟨e15,h⟩:=Bw h
   obtain rfl:=Option.some.inj h
   simp (maxDischargeDepth:=9) only [↓AQ,AR,Ah,↓reduceIte,bj,bk,bl,bm,bo,bp,br,bt,bw,bx,bO,b0,b3,b4,b5,b6,b7,m0,m1,m2,m3,m4,e8,e9.1,e9.2,e10,e11,e12.1,e12.2,e13,e14,e15.1,e15.2,BG,BS,Ch,Ci,Cj]<;>(repeat' apply A7)<;>first|rfl|exact⟨_,rfl⟩|exact⟨_,_,rfl⟩|simp [AP,A8]
 ·rw [if_neg e8]at h
  obtain rfl:=Option.some.inj h
  simp (maxDischargeDepth:=9) only [↓AQ,AR,Ah,↓reduceIte,bj,bk,bl,bm,bo,bp,br,bt,bw,bx,bO,b0,b3,b4,b5,b6,b7,m0,m1,m2,m3,m4,e8,BG,BS,Ch,Ci,Cj]<;>(repeat' apply A7)<;>first|rfl|exact⟨_,rfl⟩|exact⟨_,_,rfl⟩|simp [AP,A8]
def BH(s_:AL)(k:Int)(s:St):Prop:=(∃w_,s.v 0=D.vw [100000] (s.k 100000) w_)∧s.v 3=bd .i64 k∧s.v 100000=cd 3 (AP (bd .i64) s_)
def BI(s_:AL)(r:(AL)⊕Unit)(ex:Ex)(s:St):Prop:=match r with
 | .inl q=>ex= .ret∧s.v 2=cd 3 (AP (bd .i64) q)∧s.v 100000=D.undef
 | .inr q=>ex= .exit 0∧(∃w_,s.v 0=D.vw [100000] (s.k 100000) w_)∧s.v 100000=cd 3 (AP (bd .i64) s_)
theorem JK(s_:AL){v:Int}{s:St}{r:(AL)⊕Unit}(h:Cr s_ v=some r)(hM:BH s_ v s):C8 Y.env fJ (BI s_ r) s:=by
 unfold Cr at h;refine BU (c:=UO) (fun v=>BR s_ v) (fun v s=>BH s_ v s) (BI s_) ?_ h hM;clear h hM s v r;intro k s o hM h;unfold BR at h;unfold BH at hM;obtain⟨⟨w0_,m0⟩,m1,m2⟩:=hM;unfold UO;by_cases e2:k<(s_.length:Int)
 ·rw [if_pos e2]at h;obtain⟨e3,h⟩:=Bw h;obtain⟨e4,h⟩:=Bw h;by_cases e5:(s_.getD k.toNat be)=(s_.getD ((ca.wrap (k-1)).toNat) be)
  ·rw [if_pos e5]at h;obtain⟨e6,h⟩:=Bw h;obtain⟨e7,h⟩:=Bw h;obtain⟨AY,hl9,h⟩:=Ar h;try dsimp only at h
   simp (maxDischargeDepth:=9) only [↓AQ,AR,Ah,↓reduceIte,bj,bk,bl,bm,bo,bp,br,bt,bw,bx,bO,b0,b3,b4,b5,b6,b7,m0,m1,m2,e2,e3.1,e3.2,e4.1,e4.2,decide_eq_true e5,e6,e7];refine BF (JJ s_ k hl9 ?_) ?_
   ·simp (maxDischargeDepth:=9) only [↓AQ,AR,Ah,↓reduceIte,bj,bk,bl,bm,bo,bp,br,bt,bw,bx,bO,b0,b3,b4,b5,b6,b7,m0,m1,m2,e2,e3.1,e3.2,e4.1,e4.2,decide_eq_true e5,e6,e7,BG]<;>(repeat' apply A7)<;>first|rfl|exact⟨_,rfl⟩|exact⟨_,_,rfl⟩|simp [AP,A8]
   ·intro ex9 s9 hX9;unfold BS at hX9;obtain⟨rfl,⟨w0_,n9_0⟩,n9_1,n9_2⟩:=hX9;obtain⟨e10,h⟩:=Bw h;obtain⟨e11,h⟩:=Bw h;obtain⟨e12,h⟩:=Bw h;obtain⟨e13,h⟩:=Bw h
    obtain rfl:=Option.some.inj h
    simp (maxDischargeDepth:=9) only [↓AQ,AR,Ah,↓reduceIte,bj,bk,bl,bm,bo,bp,br,bt,bw,bx,bO,b0,b3,b4,b5,b6,b7,e2,e3.1,e3.2,e4.1,e4.2,decide_eq_true e5,e6,e7,n9_0,n9_1,n9_2,e10,e11,e12,e13,BH,BI,Ch,Ci,Cj]<;>(repeat' apply A7)<;>first|rfl|exact⟨_,rfl⟩|exact⟨_,_,rfl⟩|simp [AP,A8]
  ·rw [if_neg e5]at h
   obtain rfl:=Option.some.inj h
   simp (maxDischargeDepth:=9) only [↓AQ,AR,Ah,↓reduceIte,bj,bk,bl,bm,bo,bp,br,bt,bw,bx,bO,b0,b3,b4,b5,b6,b7,m0,m1,m2,e2,e3.1,e3.2,e4.1,e4.2,e5,BH,BI,Ch,Ci,Cj]<;>(repeat' apply A7)<;>first|rfl|exact⟨_,rfl⟩|exact⟨_,_,rfl⟩|simp [AP,A8]
 ·rw [if_neg e2]at h
  obtain rfl:=Option.some.inj h
  simp (maxDischargeDepth:=9) only [↓AQ,AR,Ah,↓reduceIte,bj,bk,bl,bm,bo,bp,br,bt,bw,bx,bO,b0,b3,b4,b5,b6,b7,m0,m1,m2,e2,BH,BI,Ch,Ci,Cj]<;>(repeat' apply A7)<;>first|rfl|exact⟨_,rfl⟩|exact⟨_,_,rfl⟩|simp [AP,A8]
theorem JZ(s_:AL){r:AL}(h:Cg s_=some r):Y.call 120 [D.vw [100000] 0 0] [cd 3 (AP (bd .i64) s_)]=some (cd 3 (AP (bd .i64) r),[D.undef]):=by
 refine AEQ ?_ rfl;unfold A2D;unfold Cg at h;by_cases e1:(s_.length:Int)<2
 ·rw [if_pos e1]at h
  obtain rfl:=Option.some.inj h
  simp (maxDischargeDepth:=9) only [↓AQ,AR,Ah,↓reduceIte,bj,bk,bl,bm,bo,bp,br,bt,bw,bx,bO,b0,b3,b4,b5,b6,b7,e1]<;>(repeat' apply A7)<;>first|rfl|exact⟨_,rfl⟩|exact⟨_,_,rfl⟩|simp [AP,A8]
 ·rw [if_neg e1]at h;obtain⟨CY,hl3,h⟩:=Ar h;try dsimp only at h
  simp (maxDischargeDepth:=9) only [↓AQ,AR,Ah,↓reduceIte,bj,bk,bl,bm,bo,bp,br,bt,bw,bx,bO,b0,b3,b4,b5,b6,b7,e1];refine BF (JK s_ hl3 ?_) ?_
  ·simp (maxDischargeDepth:=9) only [↓AQ,AR,Ah,↓reduceIte,bj,bk,bl,bm,bo,bp,br,bt,bw,bx,bO,b0,b3,b4,b5,b6,b7,e1,BH]<;>(repeat' apply A7)<;>first|rfl|exact⟨_,rfl⟩|exact⟨_,_,rfl⟩|simp [AP,A8]
  ·intro ex3 s3 hX3;rcases CY with q1001_|q1001_
   ·unfold BI at hX3;dsimp only at hX3 h;obtain⟨rfl,n3_0,n3_1⟩:=hX3
    obtain rfl:=Option.some.inj h
    simp (maxDischargeDepth:=9) only [↓AQ,AR,Ah,↓reduceIte,bj,bk,bl,bm,bo,bp,br,bt,bw,bx,bO,b0,b3,b4,b5,b6,b7,e1,n3_0,n3_1]<;>(repeat' apply A7)<;>first|rfl|exact⟨_,rfl⟩|exact⟨_,_,rfl⟩|simp [AP,A8]
   ·unfold BI at hX3;dsimp only at hX3 h;obtain⟨rfl,⟨w0_,n3_0⟩,n3_1⟩:=hX3
    obtain rfl:=Option.some.inj h
    simp (maxDischargeDepth:=9) only [↓AQ,AR,Ah,↓reduceIte,bj,bk,bl,bm,bo,bp,br,bt,bw,bx,bO,b0,b3,b4,b5,b6,b7,e1,n3_0,n3_1]<;>(repeat' apply A7)<;>first|rfl|exact⟨_,rfl⟩|exact⟨_,_,rfl⟩|simp [AP,A8]
def OB(AB:Am)(AO:AL)(AA:AL)(task:Int)(outputs:AL):Option (Bool):= if task=1 then (Ck outputs).bind fun Ip=> ck (Ip.length<1099511627776)<| ck (0≤ca.wrap (((Cs Ip).length:Int)-1)∧(ca.wrap (((Cs Ip).length:Int)-1)).toNat<(Cs Ip).length)<| if((Cs Ip).getD ((ca.wrap (((Cs Ip).length:Int)-1)).toNat) be)=1 then if(ca.wrap (((Cs Ip).length:Int)-1))=0 then ck (0<(Cs Ip).length)<| some (decide (0≤((Cs Ip).getD 0 be))) else ck (0≤ca.wrap ((ca.wrap (((Cs Ip).length:Int)-1))-1)∧(ca.wrap ((ca.wrap (((Cs Ip).length:Int)-1))-1)).toNat<(Cs Ip).length)<| if((Cs Ip).getD ((ca.wrap ((ca.wrap (((Cs Ip).length:Int)-1))-1)).toNat) be)=0 then ck (0<(Cs Ip).length)<| some (decide (0≤((Cs Ip).getD 0 be))) else some false else some false else if task=2 then (GG AB AO AA).bind fun A2E=> (Ab A2E (fun a0_0 a0_1 a0_2 a0_3=>M4 a0_0 a0_1 a0_2 a0_3 outputs)).bind fun A97=> some (!A97) else (Ck outputs).bind fun nS=> ck (nS.length<1099511627776)<| (Cg (Cs nS)).bind fun dH=> some (decide ((dH.length:Int)=(outputs.length:Int)))
abbrev dI:List Nat:=[52,53,52,9,54,55,56,57,6,57,57]
def k70:SC:= .seq (.ops [oX 3 (.box 47 (tK 0)) 0,oX 5 (.box 26 (tK 2)) 0,oX 6 CV 4]) (.seq (.seq (.ops [oM 10 1 3]) (.block 0 (.seq (.ops [oB 12 .eql 3 (tK 10) (iK 1) 3 4,oA 11 12 4]) (.cond (tK 11) (.seq (.ops [oL 13 26 5 26,oC 14 116 [(tK 13)] [26] 132,oC 15 115 [(tK 14)] [132] 26,oA 7 15 26]) (.seq (.ops [oM 16 7 26,oN 17 16 26,oB 18 .sub 3 (tK 17) (iK 1) 3 3,oA 8 18 3]) (.seq (.ops [oM 19 7 26,oM 20 8 3,oI 21 26 19 20,oL 22 3 21 3,oB 23 .eql 3 (tK 22) (iK 1) 3 4,oM 24 23 4,⟨(some 25),(.move (tK 8)),3,(some (some 24,true))⟩,⟨(some 26),(.binOp .eql 3 (tK 25) (iK 0) 3),4,(some (some 24,true))⟩,⟨(some 27),(.move (tK 26)),4,(some (some 24,true))⟩,⟨(some 28),(.move (tK 7)),26,(some (some 27,false))⟩,⟨(some 29),(.move (tK 8)),3,(some (some 27,false))⟩,⟨(some 30),(.binOp .sub 3 (tK 29) (iK 1) 3),3,(some (some 27,false))⟩,⟨(some 31),(.indexAddr 26 (tK 28) (tK 30)),0,(some (some 27,false))⟩,⟨(some 32),(.load 3 (tK 31)),3,(some (some 27,false))⟩,⟨(some 33),(.binOp .eql 3 (tK 32) (iK 0) 3),4,(some (some 27,false))⟩,⟨(some 34),(.pick (tK 27) Fw (tK 33)),4,(some (some 24,true))⟩,oX 35 (.pick (tK 24) (tK 34) Ou) 4,oM 36 35 4,⟨(some 37),(.move (tK 7)),26,(some (some 36,true))⟩,
 ⟨(some 38),(.indexAddr 26 (tK 37) (iK 0)),0,(some (some 36,true))⟩,⟨(some 39),(.load 3 (tK 38)),3,(some (some 36,true))⟩,⟨(some 40),(.binOp .geq 3 (tK 39) (iK 0) 3),4,(some (some 36,true))⟩,oX 41 (.pick (tK 36) (tK 40) Ou) 4,oA 6 41 4]) .ret))) (.seq (.ops [oB 43 .eql 3 (tK 10) (iK 2) 3 4,oA 42 43 4]) (.cond (tK 42) (.seq (.ops [oL 44 47 3 47,oC 45 118 [(tK 44)] [47] 135,oX 46 (.makeFunc (Fn.func 119) #[] #[(tK 5)]) 139,oC 47 117 [(tK 45),(tK 46)] [135,139] 4,oX 48 (.unOp .not 4 (tK 47)) 4,oA 6 48 4]) .ret) .skip)))))) (.seq (.ops [oL 49 26 5 26,oC 50 116 [(tK 49)] [26] 132,oC 51 115 [(tK 50)] [132] 26,oA 9 51 26]) (.seq (.draws [(⟨[52,9,9],dI,[52]⟩,oM 52 9 26),(⟨[53,52,9],dI,[53,52,9]⟩,oC 53 120 [(tK 52)] [26] 26),(⟨[54,53,53],dI,[54]⟩,oN 54 53 26),(⟨[55,5,5],dI,[55]⟩,oL 55 26 5 26),(⟨[56,55,5],dI,[56]⟩,oN 56 55 26),(⟨[57,54,56,54,56],dI,[57]⟩,oB 57 .eql 3 (tK 54) (tK 56) 3 4),(⟨[6,57,57],dI,[6,57,57]⟩,oA 6 57 4)]) .ret)))
theorem A2F:Try.f70.body.map (Ba lends)=some k70:=by kernel_rfl
theorem AES:Bz Try.f70 3=true:=by kernel_rfl
theorem c70{a l:List D}{r:D×List D}(h:C8 Y.env k70 (Fa Ac l.length [cc 6] r) (entry a l))(ha:a.length=3):Y.call 70 a l=some r:=
 Aa (Y:=Y) rfl Try.func70 (ha▸AES) A2F h
theorem Xl(AB:Am)(AO:AL)(AA:AL)(task:Int)(outputs:AL){r:Bool}(h:OB AB AO AA task outputs=some r):Y.call 70 [ce [bh 123 (AP (fun x=>bh 125 (Au .i64 .i64 x)) AB),bh 3 (AP (bd .i64) AO),bh 3 (AP (bd .i64) AA)],bd .i64 task,bh 3 (AP (bd .i64) outputs)] []=some (b9 r,[]):=by
 refine c70 ?_ rfl;unfold k70;unfold OB at h;by_cases e1:task=1
 ·rw [if_pos e1]at h;obtain⟨Ip,hl2,h⟩:=Ar h;try dsimp only at h
  have c2:=Fj outputs hl2;obtain⟨e3,h⟩:=Bw h;have c4:=Tn Ip e3;obtain⟨e5,h⟩:=Bw h;by_cases e6:((Cs Ip).getD ((ca.wrap (((Cs Ip).length:Int)-1)).toNat) be)=1
  ·rw [if_pos e6]at h;by_cases e7:(ca.wrap (((Cs Ip).length:Int)-1))=0
   ·rw [if_pos e7]at h;obtain⟨e8,h⟩:=Bw h
    obtain rfl:=Option.some.inj h
    simp (maxDischargeDepth:=9) only [↓AQ,AR,Ah,↓reduceIte,bj,bk,bl,bm,bo,bp,br,bt,bw,bx,bO,b0,b3,b4,b5,b6,b7,decide_eq_true e1,c2,e3,c4,e5.1,e5.2,decide_eq_true e6,decide_eq_true e7,e8]<;>(repeat' apply A7)<;>first|rfl|exact⟨_,rfl⟩|exact⟨_,_,rfl⟩|simp [AP,A8]
   ·rw [if_neg e7]at h;obtain⟨e8,h⟩:=Bw h;by_cases e9:((Cs Ip).getD ((ca.wrap ((ca.wrap (((Cs Ip).length:Int)-1))-1)).toNat) be)=0
    ·rw [if_pos e9]at h;obtain⟨e10,h⟩:=Bw h
     obtain rfl:=Option.some.inj h
     simp (maxDischargeDepth:=9) only [↓AQ,AR,Ah,↓reduceIte,bj,bk,bl,bm,bo,bp,br,bt,bw,bx,bO,b0,b3,b4,b5,b6,b7,decide_eq_true e1,c2,e3,c4,e5.1,e5.2,decide_eq_true e6,e7,e8.1,e8.2,decide_eq_true e9,e10]<;>(repeat' apply A7)<;>first|rfl|exact⟨_,rfl⟩|exact⟨_,_,rfl⟩|simp [AP,A8]
    ·rw [if_neg e9]at h
     obtain rfl:=Option.some.inj h
     simp (maxDischargeDepth:=9) only [↓AQ,AR,Ah,↓reduceIte,bj,bk,bl,bm,bo,bp,br,bt,bw,bx,bO,b0,b3,b4,b5,b6,b7,decide_eq_true e1,c2,e3,c4,e5.1,e5.2,decide_eq_true e6,e7,e8.1,e8.2,e9]<;>(repeat' apply A7)<;>first|rfl|exact⟨_,rfl⟩|exact⟨_,_,rfl⟩|simp [AP,A8]
  ·rw [if_neg e6]at h
   obtain rfl:=Option.some.inj h
   simp (maxDischargeDepth:=9) only [↓AQ,AR,Ah,↓reduceIte,bj,bk,bl,bm,bo,bp,br,bt,bw,bx,bO,b0,b3,b4,b5,b6,b7,decide_eq_true e1,c2,e3,c4,e5.1,e5.2,e6]<;>(repeat' apply A7)<;>first|rfl|exact⟨_,rfl⟩|exact⟨_,_,rfl⟩|simp [AP,A8]
 ·rw [if_neg e1]at h;by_cases e2:task=2
  ·rw [if_pos e2]at h;obtain⟨A2E,hl3,h⟩:=Ar h;try dsimp only at h
   have c3:=Nk AB AO AA hl3;obtain⟨A97,hl4,h⟩:=Ar h;try dsimp only at h
   have c4:=Bb A2E (fun a0_0 a0_1 a0_2 a0_3=>M4 a0_0 a0_1 a0_2 a0_3 outputs) 119 [D.cptr [bh 3 (AP (bd .i64) outputs)]] (fun a0_0 a0_1 a0_2 a0_3 _ hh=>UM a0_0 a0_1 a0_2 a0_3 outputs hh) mW hl4
   obtain rfl:=Option.some.inj h
   simp (maxDischargeDepth:=9) only [↓AQ,AR,Ah,↓reduceIte,bj,bk,bl,bm,bo,bp,br,bt,bw,bx,bO,b0,b3,b4,b5,b6,b7,e1,decide_eq_true e2,c3,c4]<;>(repeat' apply A7)<;>first|rfl|exact⟨_,rfl⟩|exact⟨_,_,rfl⟩|simp [AP,A8]
  ·rw [if_neg e2]at h;obtain⟨nS,hl3,h⟩:=Ar h;try dsimp only at h
   have c3:=Fj outputs hl3;obtain⟨e4,h⟩:=Bw h;have c5:=Tn nS e4;obtain⟨dH,hl6,h⟩:=Ar h;try dsimp only at h
   have c6:=JZ (Cs nS) hl6
   obtain rfl:=Option.some.inj h
   simp (maxDischargeDepth:=9) only [↓AQ,AR,Ah,↓reduceIte,bj,bk,bl,bm,bo,bp,br,bt,bw,bx,bO,b0,b3,b4,b5,b6,b7,e1,e2,c3,e4,c5,c6]<;>(repeat' apply A7)<;>first|rfl|exact⟨_,rfl⟩|exact⟨_,_,rfl⟩|simp [AP,A8]
def Gg(AB:Am)(v_:Int)(out:AL)(Xm:Int):Option ((AL×Int)⊕(AL)):= if Xm<((AB.getD v_.toNat be).length:Int)then ck (0≤Xm∧Xm.toNat<(AB.getD v_.toNat be).length)<| ck (out.length+1<1099511627776)<| some (cb ((out++[(BJ (AB.getD v_.toNat be) Xm.toNat)]),ca.wrap (Xm+1))) else some (b8 out)
def LP(AB:Am)(v_:Int)(v:AL×Int):Option (AL):=Im (fun v=>Gg AB v_ v.1 v.2) v
def Nl(AB:Am)(AO:AL)(AA:AL)(v_:Int):Option (AL):= ck (0≤v_∧v_.toNat<AB.length)<| (LP AB v_ ([],0)).bind fun AY=> some AY
def UQ:SC:= .seq (.ops [oB 15 .lss 3 (tK 14) (tK 13) 3 0]) (.seq (.cond (tK 15) .skip (.exit 0)) (.seq (.block 1 (.seq (.ops [oI 16 123 12 14,oL 17 125 16 125,oX 7 (.alloc 125) 0,oS 125 7 17]) (.ops [oM 18 5 26,oF 19 125 7 0,oL 20 3 19 3,oX 21 (.buildSlice 26 1 #[(0,(tK 20))]) 26,oX 22 (.call ⟨(.builtin .append), #[(tK 18),(tK 21)], #[26,26]⟩) 26,oA 5 22 26]))) (.ops [oB 23 .add 3 (tK 14) (iK 1) 3 3,oM 14 23 3])))
def fK:SC:= .loop UQ
def A2G:SC:= .seq (.ops [oX 2 (.box 47 (tK 0)) 0,oX 4 OL 26]) (.seq (.ops [oX 5 OL 26]) (.seq (.seq (.ops [oF 8 47 2 0,oL 9 45 8 45,oM 10 1 3,oI 11 45 9 10,oL 12 123 11 123,oN 13 12 123,oX 14 (.move (iK 0)) 3]) (.block 0 fK)) (.seq (.ops [oM 24 5 26,oA 4 24 26]) .ret)))
theorem rX:Try.f129.body.map (Ba lends)=some A2G:=by kernel_rfl
theorem A98:Bz Try.f129 2=true:=by kernel_rfl
theorem AET{a l:List D}{r:D×List D}(h:C8 Y.env A2G (Fa Ac l.length [cc 4] r) (entry a l))(ha:a.length=2):Y.call 129 a l=some r:=
 Aa (Y:=Y) rfl Try.func129 (ha▸A98) rX h
def Gh(AB:Am)(v_:Int)(out:AL)(Xm:Int)(s:St):Prop:=s.v 5=cd 3 (AP (bd .i64) out)∧s.v 12=bh 125 (Au .i64 .i64 (AB.getD v_.toNat be))∧s.v 13=bd .i64 ((AB.getD v_.toNat be).length:Int)∧s.v 14=bd .i64 Xm
def IR(AB:Am)(v_:Int)(r:AL)(ex:Ex)(s:St):Prop:=ex= .exit 0∧s.v 5=cd 3 (AP (bd .i64) r)
theorem UR(AB:Am)(v_:Int){v:AL×Int}{s:St}{r:AL}(h:LP AB v_ v=some r)(hM:Gh AB v_ v.1 v.2 s):C8 Y.env fK (IR AB v_ r) s:=by
 unfold LP at h;refine BU (c:=UQ) (fun v=>Gg AB v_ v.1 v.2) (fun v s=>Gh AB v_ v.1 v.2 s) (IR AB v_) ?_ h hM;clear h hM s v r;intro v s o hM h;obtain⟨out,Xm⟩:=v;dsimp only at h hM;unfold Gg at h;unfold Gh at hM;obtain⟨m0,m1,m2,m3⟩:=hM;unfold UQ;by_cases e2:Xm<((AB.getD v_.toNat be).length:Int)
 ·rw [if_pos e2]at h;obtain⟨e3,h⟩:=Bw h;obtain⟨e4,h⟩:=Bw h
  obtain rfl:=Option.some.inj h
  simp (maxDischargeDepth:=9) only [↓AQ,AR,Ah,↓reduceIte,bj,bk,bl,bm,bo,bp,br,bt,bw,bx,bO,b0,b3,b4,b5,b6,b7,m0,m1,m2,m3,e2,e3.1,e3.2,e4,Gh,IR,Ch,Ci,Cj]<;>(repeat' apply A7)<;>first|rfl|exact⟨_,rfl⟩|exact⟨_,_,rfl⟩|simp [AP,A8]
 ·rw [if_neg e2]at h
  obtain rfl:=Option.some.inj h
  simp (maxDischargeDepth:=9) only [↓AQ,AR,Ah,↓reduceIte,bj,bk,bl,bm,bo,bp,br,bt,bw,bx,bO,b0,b3,b4,b5,b6,b7,m0,m1,m2,m3,e2,Gh,IR,Ch,Ci,Cj]<;>(repeat' apply A7)<;>first|rfl|exact⟨_,rfl⟩|exact⟨_,_,rfl⟩|simp [AP,A8]
theorem Vd(AB:Am)(AO:AL)(AA:AL)(v_:Int){r:AL}(h:Nl AB AO AA v_=some r):Y.call 129 [ce [bh 123 (AP (fun x=>bh 125 (Au .i64 .i64 x)) AB),bh 3 (AP (bd .i64) AO),bh 3 (AP (bd .i64) AA)],bd .i64 v_] []=some (cd 3 (AP (bd .i64) r),[]):=by
 refine AET ?_ rfl;unfold A2G;unfold Nl at h;obtain⟨e1,h⟩:=Bw h;obtain⟨AY,hl3,h⟩:=Ar h;try dsimp only at h
 simp (maxDischargeDepth:=9) only [↓AQ,AR,Ah,↓reduceIte,bj,bk,bl,bm,bo,bp,br,bt,bw,bx,bO,b0,b3,b4,b5,b6,b7,e1.1,e1.2];refine BF (UR AB v_ hl3 ?_) ?_
 ·simp (maxDischargeDepth:=9) only [↓AQ,AR,Ah,↓reduceIte,bj,bk,bl,bm,bo,bp,br,bt,bw,bx,bO,b0,b3,b4,b5,b6,b7,e1.1,e1.2,Gh]<;>(repeat' apply A7)<;>first|rfl|exact⟨_,rfl⟩|exact⟨_,_,rfl⟩|simp [AP,A8]
 ·intro ex3 s3 hX3;unfold IR at hX3;obtain⟨rfl,n3_0⟩:=hX3
  obtain rfl:=Option.some.inj h
  simp (maxDischargeDepth:=9) only [↓AQ,AR,Ah,↓reduceIte,bj,bk,bl,bm,bo,bp,br,bt,bw,bx,bO,b0,b3,b4,b5,b6,b7,e1.1,e1.2,n3_0]<;>(repeat' apply A7)<;>first|rfl|exact⟨_,rfl⟩|exact⟨_,_,rfl⟩|simp [AP,A8]
def Gj(AB:Am)(AO:AL)(AA:AL)(l:AL)(IU:Int)(Lc:AL)(v_:Int):Option ((Int)⊕(Int⊕Unit)):= if v_<(AB.length:Int)then ck (Lc.length<1099511627776)<| if(Lc.contains v_)=true then ck (0≤IU∧IU.toNat<l.length)<| ck (0≤v_∧v_.toNat<l.length)<| if(l.getD IU.toNat be)=(l.getD v_.toNat be)then some (b8 (cb v_)) else some (cb (ca.wrap (v_+1))) else some (cb (ca.wrap (v_+1))) else some (b8 (b8 ()))
def Jm(AB:Am)(AO:AL)(AA:AL)(l:AL)(IU:Int)(Lc:AL)(v:Int):Option (Int⊕Unit):=Im (fun v=>Gj AB AO AA l IU Lc v) v
def Gl(AB:Am)(AO:AL)(AA:AL)(l:AL)(IU:Int):Option ((Int)⊕((Int×Int)⊕Unit)):=
 if IU<(AB.length:Int)then
  (Nl AB AO AA IU).bind fun Lc=>
  (Jm AB AO AA l IU Lc IU).bind fun AY=>
  match AY with
  | .inl q1000_=>
   some (b8 (cb (IU,q1000_)))
  | .inr q1000_=>
   some (cb (ca.wrap (IU+1)))
 else
  some (b8 (b8 ()))
def LQ(AB:Am)(AO:AL)(AA:AL)(l:AL)(v:Int):Option ((Int×Int)⊕Unit):=Im (fun v=>Gl AB AO AA l v) v
def Nn(AB:Am)(AO:AL)(AA:AL)(l:AL):Option (Int×Int×Bool):=
 (LQ AB AO AA l 0).bind fun CY=>
 match CY with
 | .inl q1001_=>
  some (q1001_.1,q1001_.2,true)
 | .inr q1001_=>
  some (0,0,false)
abbrev Q3:List Nat:=[27,28,29,30,29,31,32,33,34,35,36,37,38,39,40]
def Xn:SC:= .seq (.seq (.ops [oM 20 9 3,oF 21 47 2 0,oL 22 45 21 45,oN 23 22 45,oB 24 .lss 3 (tK 20) (tK 23) 3 4]) (.cond (tK 24) .skip (.exit 2))) (.seq (.block 3 (.seq (.draws [(⟨[27,8,8],Q3,[27]⟩,oM 27 8 26),(⟨[28,9,9],Q3,[28]⟩,oM 28 9 3),(⟨[29,27,28,8,9],Q3,[29]⟩,oC 29 89 [(tK 27),(tK 28)] [26,3] 4),(⟨[30,29,29],Q3,[30,29]⟩,oM 30 29 4),(⟨[31,1,1,30],Q3,[31]⟩,⟨(some 31),(.move (tK 1)),26,(some (some 30,true))⟩),(⟨[32,7,7,30],Q3,[32]⟩,⟨(some 32),(.move (tK 7)),3,(some (some 30,true))⟩),(⟨[33,31,32,1,7,30],Q3,[33]⟩,⟨(some 33),(.indexAddr 26 (tK 31) (tK 32)),0,(some (some 30,true))⟩),(⟨[34,33,1,30],Q3,[34]⟩,⟨(some 34),(.load 3 (tK 33)),3,(some (some 30,true))⟩),(⟨[35,1,1,30],Q3,[35]⟩,⟨(some 35),(.move (tK 1)),26,(some (some 30,true))⟩),(⟨[36,9,9,30],Q3,[36]⟩,⟨(some 36),(.move (tK 9)),3,(some (some 30,true))⟩),(⟨[37,35,36,1,9,30],Q3,[37]⟩,⟨(some 37),(.indexAddr 26 (tK 35) (tK 36)),0,(some (some 30,true))⟩),(⟨[38,37,1,30],Q3,[38]⟩,⟨(some 38),(.load 3 (tK 37)),3,(some (some 30,true))⟩),(⟨[39,34,38,1,1,30],Q3,[39]⟩,⟨(some 39),(.binOp .eql 3 (tK 34) (tK 38) 3),4,(some (some 30,true))⟩),(⟨[40,30,39,29,39],Q3,[40]⟩,oX 40 (.pick (tK 30) (tK 39) Ou) 4)]) (.cond (tK 40) (.seq
 (.ops [oM 41 7 3,oM 42 9 3,oA 4 41 3,oA 5 42 3,oX 6 (.assign Fw) 4]) .ret) .skip))) (.ops [oM 25 9 3,oB 26 .add 3 (tK 25) (iK 1) 3 3,oA 9 26 3]))
def nT:SC:= .loop Xn
def Xo:SC:= .seq (.ops [oB 14 .lss 3 (tK 13) (tK 12) 3 0]) (.seq (.cond (tK 14) .skip (.exit 0)) (.seq (.block 1 (.seq (.ops [oM 15 13 3,oA 7 15 3]) (.seq (.ops [oL 16 47 2 47,oM 17 7 3,oC 18 129 [(tK 16),(tK 17)] [47,3] 26,oA 8 18 26]) (.seq (.ops [oM 19 7 3,oA 9 19 3]) (.block 2 nT))))) (.ops [oB 43 .add 3 (tK 13) (iK 1) 3 3,oM 13 43 3])))
def nU:SC:= .loop Xo
def k80:SC:= .seq (.ops [oX 2 (.box 47 (tK 0)) 0,oX 4 (.assign (iK 0)) 3,oX 5 (.assign (iK 0)) 3,oX 6 CV 4]) (.seq (.seq (.ops [oF 10 47 2 0,oL 11 45 10 45,oN 12 11 45,oX 13 (.move (iK 0)) 3]) (.block 0 nU)) (.seq (.ops [oX 4 (.assign (iK 0)) 3,oX 5 (.assign (iK 0)) 3,oX 6 CV 4]) .ret))
theorem A2H:Try.f80.body.map (Ba lends)=some k80:=by kernel_rfl
theorem AEV:Bz Try.f80 2=true:=by kernel_rfl
theorem c80{a l:List D}{r:D×List D}(h:C8 Y.env k80 (Fa Ac l.length [cc 4,cc 5,cc 6] r) (entry a l))(ha:a.length=2):Y.call 80 a l=some r:=
 Aa (Y:=Y) rfl Try.func80 (ha▸AEV) A2H h
def EP(AB:Am)(AO:AL)(AA:AL)(l:AL)(IU:Int)(Lc:AL)(v_:Int)(s:St):Prop:=s.v 1=bh 3 (AP (bd .i64) l)∧s.v 2=cg [bh 123 (AP (fun x=>bh 125 (Au .i64 .i64 x)) AB),bh 3 (AP (bd .i64) AO),bh 3 (AP (bd .i64) AA)]∧s.v 7=bd .i64 IU∧s.v 8=cd 3 (AP (bd .i64) Lc)∧s.v 9=bd .i64 v_∧s.v 12=bd .i64 (AB.length:Int)∧s.v 13=bd .i64 IU
def EQ(AB:Am)(AO:AL)(AA:AL)(l:AL)(IU:Int)(Lc:AL)(r:Int⊕Unit)(ex:Ex)(s:St):Prop:=match r with
 | .inl q=>ex= .ret∧s.v 4=bd .i64 IU∧s.v 5=bd .i64 q∧s.v 6=b9 true
 | .inr q=>ex= .exit 2∧s.v 1=bh 3 (AP (bd .i64) l)∧s.v 2=cg [bh 123 (AP (fun x=>bh 125 (Au .i64 .i64 x)) AB),bh 3 (AP (bd .i64) AO),bh 3 (AP (bd .i64) AA)]∧s.v 12=bd .i64 (AB.length:Int)∧s.v 13=bd .i64 IU
theorem UT(AB:Am)(AO:AL)(AA:AL)(l:AL)(IU:Int)(Lc:AL){v:Int}{s:St}{r:Int⊕Unit}(h:Jm AB AO AA l IU Lc v=some r)(hM:EP AB AO AA l IU Lc v s):C8 Y.env nT (EQ AB AO AA l IU Lc r) s:=by
 unfold Jm at h;refine BU (c:=Xn) (fun v=>Gj AB AO AA l IU Lc v) (fun v s=>EP AB AO AA l IU Lc v s) (EQ AB AO AA l IU Lc) ?_ h hM;clear h hM s v r;intro v_ s o hM h;unfold Gj at h;unfold EP at hM;obtain⟨m0,m1,m2,m3,m4,m5,m6⟩:=hM;unfold Xn;by_cases e3:v_<(AB.length:Int)
 ·rw [if_pos e3]at h;obtain⟨e4,h⟩:=Bw h;have c5:=MW Lc v_ e4;by_cases e6:(Lc.contains v_)=true
  ·rw [if_pos e6]at h;obtain⟨e7,h⟩:=Bw h;obtain⟨e8,h⟩:=Bw h;by_cases e9:(l.getD IU.toNat be)=(l.getD v_.toNat be)
   ·rw [if_pos e9]at h
    obtain rfl:=Option.some.inj h
    simp (maxDischargeDepth:=9) only [↓AQ,AR,Ah,↓reduceIte,bj,bk,bl,bm,bo,bp,br,bt,bw,bx,bO,b0,b3,b4,b5,b6,b7,m0,m1,m2,m3,m4,m5,m6,e3,e4,c5,e6,e7.1,e7.2,e8.1,e8.2,decide_eq_true e9,EP,EQ,Ch,Ci,Cj]<;>(repeat' apply A7)<;>first|rfl|exact⟨_,rfl⟩|exact⟨_,_,rfl⟩|simp [AP,A8]
   ·rw [if_neg e9]at h
    obtain rfl:=Option.some.inj h
    simp (maxDischargeDepth:=9) only [↓AQ,AR,Ah,↓reduceIte,bj,bk,bl,bm,bo,bp,br,bt,bw,bx,bO,b0,b3,b4,b5,b6,b7,m0,m1,m2,m3,m4,m5,m6,e3,e4,c5,e6,e7.1,e7.2,e8.1,e8.2,e9,EP,EQ,Ch,Ci,Cj]<;>(repeat' apply A7)<;>first|rfl|exact⟨_,rfl⟩|exact⟨_,_,rfl⟩|simp [AP,A8]
  ·rw [if_neg e6]at h;have e6f:(Lc.contains v_)=false:=KR.mpr e6
   obtain rfl:=Option.some.inj h
   simp (maxDischargeDepth:=9) only [↓AQ,AR,Ah,↓reduceIte,bj,bk,bl,bm,bo,bp,br,bt,bw,bx,bO,b0,b3,b4,b5,b6,b7,m0,m1,m2,m3,m4,m5,m6,e3,e4,c5,e6f,EP,EQ,Ch,Ci,Cj]<;>(repeat' apply A7)<;>first|rfl|exact⟨_,rfl⟩|exact⟨_,_,rfl⟩|simp [AP,A8]
 ·rw [if_neg e3]at h
  obtain rfl:=Option.some.inj h
  simp (maxDischargeDepth:=9) only [↓AQ,AR,Ah,↓reduceIte,bj,bk,bl,bm,bo,bp,br,bt,bw,bx,bO,b0,b3,b4,b5,b6,b7,m0,m1,m2,m3,m4,m5,m6,e3,EP,EQ,Ch,Ci,Cj]<;>(repeat' apply A7)<;>first|rfl|exact⟨_,rfl⟩|exact⟨_,_,rfl⟩|simp [AP,A8]
def F9(AB:Am)(AO:AL)(AA:AL)(l:AL)(IU:Int)(s:St):Prop:=s.v 1=bh 3 (AP (bd .i64) l)∧s.v 2=cg [bh 123 (AP (fun x=>bh 125 (Au .i64 .i64 x)) AB),bh 3 (AP (bd .i64) AO),bh 3 (AP (bd .i64) AA)]∧s.v 12=bd .i64 (AB.length:Int)∧s.v 13=bd .i64 IU
def FB(AB:Am)(AO:AL)(AA:AL)(l:AL)(r:(Int×Int)⊕Unit)(ex:Ex)(s:St):Prop:=match r with
 | .inl q=>ex= .ret∧s.v 4=bd .i64 q.1∧s.v 5=bd .i64 q.2∧s.v 6=b9 true
 | .inr q=>ex= .exit 0
theorem UU(AB:Am)(AO:AL)(AA:AL)(l:AL){v:Int}{s:St}{r:(Int×Int)⊕Unit}(h:LQ AB AO AA l v=some r)(hM:F9 AB AO AA l v s):C8 Y.env nU (FB AB AO AA l r) s:=by
 unfold LQ at h;refine BU (c:=Xo) (fun v=>Gl AB AO AA l v) (fun v s=>F9 AB AO AA l v s) (FB AB AO AA l) ?_ h hM;clear h hM s v r;intro IU s o hM h;unfold Gl at h;unfold F9 at hM;obtain⟨m0,m1,m2,m3⟩:=hM;unfold Xo;by_cases e1:IU<(AB.length:Int)
 ·rw [if_pos e1]at h;obtain⟨Lc,hl2,h⟩:=Ar h;try dsimp only at h
  have c2:=Vd AB AO AA IU hl2;obtain⟨AY,hl4,h⟩:=Ar h;try dsimp only at h
  simp (maxDischargeDepth:=9) only [↓AQ,AR,Ah,↓reduceIte,bj,bk,bl,bm,bo,bp,br,bt,bw,bx,bO,b0,b3,b4,b5,b6,b7,m0,m1,m2,m3,e1,c2];refine BF (UT AB AO AA l IU Lc hl4 ?_) ?_
  ·simp (maxDischargeDepth:=9) only [↓AQ,AR,Ah,↓reduceIte,bj,bk,bl,bm,bo,bp,br,bt,bw,bx,bO,b0,b3,b4,b5,b6,b7,m0,m1,m2,m3,e1,c2,EP]<;>(repeat' apply A7)<;>first|rfl|exact⟨_,rfl⟩|exact⟨_,_,rfl⟩|simp [AP,A8]
  ·intro ex4 s4 hX4;rcases AY with q1000_|q1000_
   ·unfold EQ at hX4;dsimp only at hX4 h;obtain⟨rfl,n4_0,n4_1,n4_2⟩:=hX4
    obtain rfl:=Option.some.inj h
    simp (maxDischargeDepth:=9) only [↓AQ,AR,Ah,↓reduceIte,bj,bk,bl,bm,bo,bp,br,bt,bw,bx,bO,b0,b3,b4,b5,b6,b7,e1,c2,n4_0,n4_1,n4_2,F9,FB,Ch,Ci,Cj]<;>(repeat' apply A7)<;>first|rfl|exact⟨_,rfl⟩|exact⟨_,_,rfl⟩|simp [AP,A8]
   ·unfold EQ at hX4;dsimp only at hX4 h;obtain⟨rfl,n4_0,n4_1,n4_2,n4_3⟩:=hX4
    obtain rfl:=Option.some.inj h
    simp (maxDischargeDepth:=9) only [↓AQ,AR,Ah,↓reduceIte,bj,bk,bl,bm,bo,bp,br,bt,bw,bx,bO,b0,b3,b4,b5,b6,b7,e1,c2,n4_0,n4_1,n4_2,n4_3,F9,FB,Ch,Ci,Cj]<;>(repeat' apply A7)<;>first|rfl|exact⟨_,rfl⟩|exact⟨_,_,rfl⟩|simp [AP,A8]
 ·rw [if_neg e1]at h
  obtain rfl:=Option.some.inj h
  simp (maxDischargeDepth:=9) only [↓AQ,AR,Ah,↓reduceIte,bj,bk,bl,bm,bo,bp,br,bt,bw,bx,bO,b0,b3,b4,b5,b6,b7,m0,m1,m2,m3,e1,F9,FB,Ch,Ci,Cj]<;>(repeat' apply A7)<;>first|rfl|exact⟨_,rfl⟩|exact⟨_,_,rfl⟩|simp [AP,A8]
theorem Ve(AB:Am)(AO:AL)(AA:AL)(l:AL){r:Int×Int×Bool}(h:Nn AB AO AA l=some r):Y.call 80 [ce [bh 123 (AP (fun x=>bh 125 (Au .i64 .i64 x)) AB),bh 3 (AP (bd .i64) AO),bh 3 (AP (bd .i64) AA)],bh 3 (AP (bd .i64) l)] []=some (D.tup [bd .i64 r.1,bd .i64 r.2.1,b9 r.2.2],[]):=by
 refine c80 ?_ rfl;unfold k80;unfold Nn at h;obtain⟨CY,hl2,h⟩:=Ar h;try dsimp only at h
 simp (maxDischargeDepth:=9) only [↓AQ,AR,Ah,↓reduceIte,bj,bk,bl,bm,bo,bp,br,bt,bw,bx,bO,b0,b3,b4,b5,b6,b7];refine BF (UU AB AO AA l hl2 ?_) ?_
 ·simp (maxDischargeDepth:=9) only [↓AQ,AR,Ah,↓reduceIte,bj,bk,bl,bm,bo,bp,br,bt,bw,bx,bO,b0,b3,b4,b5,b6,b7,F9]<;>(repeat' apply A7)<;>first|rfl|exact⟨_,rfl⟩|exact⟨_,_,rfl⟩|simp [AP,A8]
 ·intro ex2 s2 hX2;rcases CY with q1001_|q1001_
  ·unfold FB at hX2;dsimp only at hX2 h;obtain⟨rfl,n2_0,n2_1,n2_2⟩:=hX2
   obtain rfl:=Option.some.inj h
   simp (maxDischargeDepth:=9) only [↓AQ,AR,Ah,↓reduceIte,bj,bk,bl,bm,bo,bp,br,bt,bw,bx,bO,b0,b3,b4,b5,b6,b7,n2_0,n2_1,n2_2]<;>(repeat' apply A7)<;>first|rfl|exact⟨_,rfl⟩|exact⟨_,_,rfl⟩|simp [AP,A8]
  ·unfold FB at hX2;dsimp only at hX2 h
   obtain rfl:=hX2
   obtain rfl:=Option.some.inj h
   simp (maxDischargeDepth:=9) only [↓AQ,AR,Ah,↓reduceIte,bj,bk,bl,bm,bo,bp,br,bt,bw,bx,bO,b0,b3,b4,b5,b6,b7]<;>(repeat' apply A7)<;>first|rfl|exact⟨_,rfl⟩|exact⟨_,_,rfl⟩|simp [AP,A8]
def Gm(l:AL)(HV:Int)(v_:Int):Option ((Int)⊕(Int⊕Unit)):= if v_<(l.length:Int)then ck (0≤HV∧HV.toNat<l.length)<| ck (0≤v_∧v_.toNat<l.length)<| if(l.getD HV.toNat be)=(l.getD v_.toNat be)then some (b8 (cb v_)) else some (cb (ca.wrap (v_+1))) else some (b8 (b8 ()))
def Jn(l:AL)(HV:Int)(v:Int):Option (Int⊕Unit):=Im (fun v=>Gm l HV v) v
def Gn(l:AL)(HV:Int):Option ((Int)⊕((Int×Int)⊕Unit)):=
 if HV<(l.length:Int)then
  (Jn l HV (ca.wrap (HV+1))).bind fun AY=>
  match AY with
  | .inl q1000_=>
   some (b8 (cb (HV,q1000_)))
  | .inr q1000_=>
   some (cb (ca.wrap (HV+1)))
 else
  some (b8 (b8 ()))
def LU(l:AL)(v:Int):Option ((Int×Int)⊕Unit):=Im (fun v=>Gn l v) v
def Np(l:AL):Option (Int×Int×Bool):=
 (LU l 0).bind fun CY=>
 match CY with
 | .inl q1001_=>
  some (q1001_.1,q1001_.2,true)
 | .inr q1001_=>
  some (0,0,false)
abbrev Xp:List Nat:=[20,21,22,23,24,25,26,27,28]
def Xq:SC:= .seq (.seq (.ops [oM 14 6 3,oM 15 0 26,oN 16 15 26,oB 17 .lss 3 (tK 14) (tK 16) 3 4]) (.cond (tK 17) .skip (.exit 2))) (.seq (.block 3 (.seq (.draws [(⟨[20,0,0],Xp,[20]⟩,oM 20 0 26),(⟨[21,5,5],Xp,[21]⟩,oM 21 5 3),(⟨[22,20,21,0,5],Xp,[22]⟩,oI 22 26 20 21),(⟨[23,22,0],Xp,[23]⟩,oL 23 3 22 3),(⟨[24,0,0],Xp,[24]⟩,oM 24 0 26),(⟨[25,6,6],Xp,[25]⟩,oM 25 6 3),(⟨[26,24,25,0,6],Xp,[26]⟩,oI 26 26 24 25),(⟨[27,26,0],Xp,[27]⟩,oL 27 3 26 3),(⟨[28,23,27,0,0],Xp,[28]⟩,oB 28 .eql 3 (tK 23) (tK 27) 3 4)]) (.cond (tK 28) (.seq (.ops [oM 29 5 3,oM 30 6 3,oA 2 29 3,oA 3 30 3,oX 4 (.assign Fw) 4]) .ret) .skip))) (.ops [oM 18 6 3,oB 19 .add 3 (tK 18) (iK 1) 3 3,oA 6 19 3]))
def nV:SC:= .loop Xq
def Xr:SC:= .seq (.ops [oB 10 .lss 3 (tK 9) (tK 8) 3 0]) (.seq (.cond (tK 10) .skip (.exit 0)) (.seq (.block 1 (.seq (.ops [oM 11 9 3,oA 5 11 3]) (.seq (.ops [oM 12 5 3,oB 13 .add 3 (tK 12) (iK 1) 3 3,oA 6 13 3]) (.block 2 nV)))) (.ops [oB 31 .add 3 (tK 9) (iK 1) 3 3,oM 9 31 3])))
def nW:SC:= .loop Xr
def k81:SC:= .seq (.ops [oX 2 (.assign (iK 0)) 3,oX 3 (.assign (iK 0)) 3,oX 4 CV 4]) (.seq (.seq (.ops [oM 7 0 26,oN 8 7 26,oX 9 (.move (iK 0)) 3]) (.block 0 nW)) (.seq (.ops [oX 2 (.assign (iK 0)) 3,oX 3 (.assign (iK 0)) 3,oX 4 CV 4]) .ret))
theorem A2I:Try.f81.body.map (Ba lends)=some k81:=by kernel_rfl
theorem AEX:Bz Try.f81 1=true:=by kernel_rfl
theorem c81{a l:List D}{r:D×List D}(h:C8 Y.env k81 (Fa Ac l.length [cc 2,cc 3,cc 4] r) (entry a l))(ha:a.length=1):Y.call 81 a l=some r:=
 Aa (Y:=Y) rfl Try.func81 (ha▸AEX) A2I h
def FC(l:AL)(HV:Int)(v_:Int)(s:St):Prop:=s.v 0=bh 3 (AP (bd .i64) l)∧s.v 5=bd .i64 HV∧s.v 6=bd .i64 v_∧s.v 8=bd .i64 (l.length:Int)∧s.v 9=bd .i64 HV
def FD(l:AL)(HV:Int)(r:Int⊕Unit)(ex:Ex)(s:St):Prop:=match r with
 | .inl q=>ex= .ret∧s.v 2=bd .i64 HV∧s.v 3=bd .i64 q∧s.v 4=b9 true
 | .inr q=>ex= .exit 2∧s.v 0=bh 3 (AP (bd .i64) l)∧s.v 8=bd .i64 (l.length:Int)∧s.v 9=bd .i64 HV
theorem UV(l:AL)(HV:Int){v:Int}{s:St}{r:Int⊕Unit}(h:Jn l HV v=some r)(hM:FC l HV v s):C8 Y.env nV (FD l HV r) s:=by
 unfold Jn at h;refine BU (c:=Xq) (fun v=>Gm l HV v) (fun v s=>FC l HV v s) (FD l HV) ?_ h hM;clear h hM s v r;intro v_ s o hM h;unfold Gm at h;unfold FC at hM;obtain⟨m0,m1,m2,m3,m4⟩:=hM;unfold Xq;by_cases e2:v_<(l.length:Int)
 ·rw [if_pos e2]at h;obtain⟨e3,h⟩:=Bw h;obtain⟨e4,h⟩:=Bw h;by_cases e5:(l.getD HV.toNat be)=(l.getD v_.toNat be)
  ·rw [if_pos e5]at h
   obtain rfl:=Option.some.inj h
   simp (maxDischargeDepth:=9) only [↓AQ,AR,Ah,↓reduceIte,bj,bk,bl,bm,bo,bp,br,bt,bw,bx,bO,b0,b3,b4,b5,b6,b7,m0,m1,m2,m3,m4,e2,e3.1,e3.2,e4.1,e4.2,decide_eq_true e5,FC,FD,Ch,Ci,Cj]<;>(repeat' apply A7)<;>first|rfl|exact⟨_,rfl⟩|exact⟨_,_,rfl⟩|simp [AP,A8]
  ·rw [if_neg e5]at h
   obtain rfl:=Option.some.inj h
   simp (maxDischargeDepth:=9) only [↓AQ,AR,Ah,↓reduceIte,bj,bk,bl,bm,bo,bp,br,bt,bw,bx,bO,b0,b3,b4,b5,b6,b7,m0,m1,m2,m3,m4,e2,e3.1,e3.2,e4.1,e4.2,e5,FC,FD,Ch,Ci,Cj]<;>(repeat' apply A7)<;>first|rfl|exact⟨_,rfl⟩|exact⟨_,_,rfl⟩|simp [AP,A8]
 ·rw [if_neg e2]at h
  obtain rfl:=Option.some.inj h
  simp (maxDischargeDepth:=9) only [↓AQ,AR,Ah,↓reduceIte,bj,bk,bl,bm,bo,bp,br,bt,bw,bx,bO,b0,b3,b4,b5,b6,b7,m0,m1,m2,m3,m4,e2,FC,FD,Ch,Ci,Cj]<;>(repeat' apply A7)<;>first|rfl|exact⟨_,rfl⟩|exact⟨_,_,rfl⟩|simp [AP,A8]
def FE(l:AL)(HV:Int)(s:St):Prop:=s.v 0=bh 3 (AP (bd .i64) l)∧s.v 8=bd .i64 (l.length:Int)∧s.v 9=bd .i64 HV
def FF(l:AL)(r:(Int×Int)⊕Unit)(ex:Ex)(s:St):Prop:=match r with
 | .inl q=>ex= .ret∧s.v 2=bd .i64 q.1∧s.v 3=bd .i64 q.2∧s.v 4=b9 true
 | .inr q=>ex= .exit 0
theorem UW(l:AL){v:Int}{s:St}{r:(Int×Int)⊕Unit}(h:LU l v=some r)(hM:FE l v s):C8 Y.env nW (FF l r) s:=by
 unfold LU at h;refine BU (c:=Xr) (fun v=>Gn l v) (fun v s=>FE l v s) (FF l) ?_ h hM;clear h hM s v r;intro HV s o hM h;unfold Gn at h;unfold FE at hM;obtain⟨m0,m1,m2⟩:=hM;unfold Xr;by_cases e1:HV<(l.length:Int)
 ·rw [if_pos e1]at h;obtain⟨AY,hl3,h⟩:=Ar h;try dsimp only at h
  simp (maxDischargeDepth:=9) only [↓AQ,AR,Ah,↓reduceIte,bj,bk,bl,bm,bo,bp,br,bt,bw,bx,bO,b0,b3,b4,b5,b6,b7,m0,m1,m2,e1];refine BF (UV l HV hl3 ?_) ?_
  ·simp (maxDischargeDepth:=9) only [↓AQ,AR,Ah,↓reduceIte,bj,bk,bl,bm,bo,bp,br,bt,bw,bx,bO,b0,b3,b4,b5,b6,b7,m0,m1,m2,e1,FC]<;>(repeat' apply A7)<;>first|rfl|exact⟨_,rfl⟩|exact⟨_,_,rfl⟩|simp [AP,A8]
  ·intro ex3 s3 hX3;rcases AY with q1000_|q1000_
   ·unfold FD at hX3;dsimp only at hX3 h;obtain⟨rfl,n3_0,n3_1,n3_2⟩:=hX3
    obtain rfl:=Option.some.inj h
    simp (maxDischargeDepth:=9) only [↓AQ,AR,Ah,↓reduceIte,bj,bk,bl,bm,bo,bp,br,bt,bw,bx,bO,b0,b3,b4,b5,b6,b7,e1,n3_0,n3_1,n3_2,FE,FF,Ch,Ci,Cj]<;>(repeat' apply A7)<;>first|rfl|exact⟨_,rfl⟩|exact⟨_,_,rfl⟩|simp [AP,A8]
   ·unfold FD at hX3;dsimp only at hX3 h;obtain⟨rfl,n3_0,n3_1,n3_2⟩:=hX3
    obtain rfl:=Option.some.inj h
    simp (maxDischargeDepth:=9) only [↓AQ,AR,Ah,↓reduceIte,bj,bk,bl,bm,bo,bp,br,bt,bw,bx,bO,b0,b3,b4,b5,b6,b7,e1,n3_0,n3_1,n3_2,FE,FF,Ch,Ci,Cj]<;>(repeat' apply A7)<;>first|rfl|exact⟨_,rfl⟩|exact⟨_,_,rfl⟩|simp [AP,A8]
 ·rw [if_neg e1]at h
  obtain rfl:=Option.some.inj h
  simp (maxDischargeDepth:=9) only [↓AQ,AR,Ah,↓reduceIte,bj,bk,bl,bm,bo,bp,br,bt,bw,bx,bO,b0,b3,b4,b5,b6,b7,m0,m1,m2,e1,FE,FF,Ch,Ci,Cj]<;>(repeat' apply A7)<;>first|rfl|exact⟨_,rfl⟩|exact⟨_,_,rfl⟩|simp [AP,A8]
theorem Vf(l:AL){r:Int×Int×Bool}(h:Np l=some r):Y.call 81 [bh 3 (AP (bd .i64) l)] []=some (D.tup [bd .i64 r.1,bd .i64 r.2.1,b9 r.2.2],[]):=by
 refine c81 ?_ rfl;unfold k81;unfold Np at h;obtain⟨CY,hl2,h⟩:=Ar h;try dsimp only at h
 simp (maxDischargeDepth:=9) only [↓AQ,AR,Ah,↓reduceIte,bj,bk,bl,bm,bo,bp,br,bt,bw,bx,bO,b0,b3,b4,b5,b6,b7];refine BF (UW l hl2 ?_) ?_
 ·simp (maxDischargeDepth:=9) only [↓AQ,AR,Ah,↓reduceIte,bj,bk,bl,bm,bo,bp,br,bt,bw,bx,bO,b0,b3,b4,b5,b6,b7,FE]<;>(repeat' apply A7)<;>first|rfl|exact⟨_,rfl⟩|exact⟨_,_,rfl⟩|simp [AP,A8]
 ·intro ex2 s2 hX2;rcases CY with q1001_|q1001_
  ·unfold FF at hX2;dsimp only at hX2 h;obtain⟨rfl,n2_0,n2_1,n2_2⟩:=hX2
   obtain rfl:=Option.some.inj h
   simp (maxDischargeDepth:=9) only [↓AQ,AR,Ah,↓reduceIte,bj,bk,bl,bm,bo,bp,br,bt,bw,bx,bO,b0,b3,b4,b5,b6,b7,n2_0,n2_1,n2_2]<;>(repeat' apply A7)<;>first|rfl|exact⟨_,rfl⟩|exact⟨_,_,rfl⟩|simp [AP,A8]
  ·unfold FF at hX2;dsimp only at hX2 h
   obtain rfl:=hX2
   obtain rfl:=Option.some.inj h
   simp (maxDischargeDepth:=9) only [↓AQ,AR,Ah,↓reduceIte,bj,bk,bl,bm,bo,bp,br,bt,bw,bx,bO,b0,b3,b4,b5,b6,b7]<;>(repeat' apply A7)<;>first|rfl|exact⟨_,rfl⟩|exact⟨_,_,rfl⟩|simp [AP,A8]
def FV(outputs:AL)(sum:Int)(Kz:Int):Option ((Int×Int)⊕(Int)):= if Kz<(outputs.length:Int)then ck (0≤Kz∧Kz.toNat<outputs.length)<| some (cb (ca.wrap (sum+(outputs.getD Kz.toNat be)),ca.wrap (Kz+1))) else some (b8 sum)
def J9(outputs:AL)(v:Int×Int):Option (Int):=Im (fun v=>FV outputs v.1 v.2) v
def Ja(AB:Am)(AO:AL)(AA:AL)(task:Int)(outputs:AL):Option (Bool):= if task=1 then (J9 outputs (0,0)).bind fun AY=> ck (outputs.length<1099511627776)<| if(EJ outputs (0:Int) (1:Int))=true then some (decide (AY=1)) else some false else if task=2 then (Nn AB AO AA outputs).bind fun A99=> some (!A99.2.2) else (Np outputs).bind fun A9A=> some (!A9A.2.2)
def UX:SC:= .seq (.ops [oB 22 .lss 3 (tK 21) (tK 20) 3 0]) (.seq (.cond (tK 22) .skip (.exit 1)) (.seq (.block 2 (.seq (.ops [oI 23 26 19 21,oL 24 3 23 3,oA 9 24 3]) (.ops [oM 25 7 3,oM 26 9 3,oB 27 .add 3 (tK 25) (tK 26) 3 3,oA 7 27 3]))) (.ops [oB 28 .add 3 (tK 21) (iK 1) 3 3,oM 21 28 3])))
def fM:SC:= .loop UX
def A2J:SC:= .seq (.ops [oX 3 (.box 47 (tK 0)) 0,oX 6 CV 4]) (.seq (.seq (.ops [oM 16 1 3]) (.block 0 (.seq (.ops [oB 18 .eql 3 (tK 16) (iK 1) 3 4,oA 17 18 4]) (.cond (tK 17) (.seq (.ops [oX 7 (.assign (iK 0)) 3]) (.seq (.seq (.ops [oM 19 2 26,oN 20 19 26,oX 21 (.move (iK 0)) 3]) (.block 1 fM)) (.seq (.ops [oM 29 2 26,oC 30 107 [(tK 29),(iK 0),(iK 1)] [26,3,3] 4,oM 31 30 4,⟨(some 32),(.move (tK 7)),3,(some (some 31,true))⟩,⟨(some 33),(.binOp .eql 3 (tK 32) (iK 1) 3),4,(some (some 31,true))⟩,oX 34 (.pick (tK 31) (tK 33) Ou) 4,oA 6 34 4]) .ret))) (.seq (.ops [oB 36 .eql 3 (tK 16) (iK 2) 3 4,oA 35 36 4]) (.cond (tK 35) (.seq (.ops [oL 38 47 3 47,oM 39 2 26,oC 40 80 [(tK 38),(tK 39)] [47,26] 100,oM 37 40 100,oE 41 37 0 3,oE 42 37 1 3,oE 43 37 2 4,oA 10 41 3,oA 11 42 3,oA 12 43 4]) (.seq (.ops [oM 44 12 4,oX 45 (.unOp .not 4 (tK 44)) 4,oA 6 45 4]) .ret)) .skip)))))) (.seq (.ops [oM 47 2 26,oC 48 81 [(tK 47)] [26] 100,oM 46 48 100,oE 49 46 0 3,oE 50 46 1 3,oE 51 46 2 4,oA 13 49 3,oA 14 50 3,oA 15 51 4]) (.seq (.ops [oM 52 15 4,oX 53 (.unOp .not 4 (tK 52)) 4,oA 6 53 4]) .ret)))
theorem rY:Try.f109.body.map (Ba lends)=some A2J:=by kernel_rfl
theorem A9B:Bz Try.f109 3=true:=by kernel_rfl
theorem AEY{a l:List D}{r:D×List D}(h:C8 Y.env A2J (Fa Ac l.length [cc 6] r) (entry a l))(ha:a.length=3):Y.call 109 a l=some r:=
 Aa (Y:=Y) rfl Try.func109 (ha▸A9B) rY h
def FW(outputs:AL)(sum:Int)(Kz:Int)(s:St):Prop:=s.v 2=bh 3 (AP (bd .i64) outputs)∧s.v 7=bd .i64 sum∧s.v 19=bh 3 (AP (bd .i64) outputs)∧s.v 20=bd .i64 (outputs.length:Int)∧s.v 21=bd .i64 Kz
def Hq(outputs:AL)(r:Int)(ex:Ex)(s:St):Prop:=ex= .exit 1∧s.v 2=bh 3 (AP (bd .i64) outputs)∧s.v 7=bd .i64 r
theorem Rh(outputs:AL){v:Int×Int}{s:St}{r:Int}(h:J9 outputs v=some r)(hM:FW outputs v.1 v.2 s):C8 Y.env fM (Hq outputs r) s:=by
 unfold J9 at h;refine BU (c:=UX) (fun v=>FV outputs v.1 v.2) (fun v s=>FW outputs v.1 v.2 s) (Hq outputs) ?_ h hM;clear h hM s v r;intro v s o hM h;obtain⟨sum,Kz⟩:=v;dsimp only at h hM;unfold FV at h;unfold FW at hM;obtain⟨m0,m1,m2,m3,m4⟩:=hM;unfold UX;by_cases e2:Kz<(outputs.length:Int)
 ·rw [if_pos e2]at h;obtain⟨e3,h⟩:=Bw h
  obtain rfl:=Option.some.inj h
  simp (maxDischargeDepth:=9) only [↓AQ,AR,Ah,↓reduceIte,bj,bk,bl,bm,bo,bp,br,bt,bw,bx,bO,b0,b3,b4,b5,b6,b7,m0,m1,m2,m3,m4,e2,e3.1,e3.2,FW,Hq,Ch,Ci,Cj]<;>(repeat' apply A7)<;>first|rfl|exact⟨_,rfl⟩|exact⟨_,_,rfl⟩|simp [AP,A8]
 ·rw [if_neg e2]at h
  obtain rfl:=Option.some.inj h
  simp (maxDischargeDepth:=9) only [↓AQ,AR,Ah,↓reduceIte,bj,bk,bl,bm,bo,bp,br,bt,bw,bx,bO,b0,b3,b4,b5,b6,b7,m0,m1,m2,m3,m4,e2,FW,Hq,Ch,Ci,Cj]<;>(repeat' apply A7)<;>first|rfl|exact⟨_,rfl⟩|exact⟨_,_,rfl⟩|simp [AP,A8]
theorem UY(AB:Am)(AO:AL)(AA:AL)(task:Int)(outputs:AL){r:Bool}(h:Ja AB AO AA task outputs=some r):Y.call 109 [ce [bh 123 (AP (fun x=>bh 125 (Au .i64 .i64 x)) AB),bh 3 (AP (bd .i64) AO),bh 3 (AP (bd .i64) AA)],bd .i64 task,bh 3 (AP (bd .i64) outputs)] []=some (b9 r,[]):=by
 refine AEY ?_ rfl;unfold A2J;unfold Ja at h;by_cases e1:task=1
 ·rw [if_pos e1]at h;obtain⟨AY,hl3,h⟩:=Ar h;try dsimp only at h
  simp (maxDischargeDepth:=9) only [↓AQ,AR,Ah,↓reduceIte,bj,bk,bl,bm,bo,bp,br,bt,bw,bx,bO,b0,b3,b4,b5,b6,b7,decide_eq_true e1];refine BF (Rh outputs hl3 ?_) ?_
  ·simp (maxDischargeDepth:=9) only [↓AQ,AR,Ah,↓reduceIte,bj,bk,bl,bm,bo,bp,br,bt,bw,bx,bO,b0,b3,b4,b5,b6,b7,decide_eq_true e1,FW]<;>(repeat' apply A7)<;>first|rfl|exact⟨_,rfl⟩|exact⟨_,_,rfl⟩|simp [AP,A8]
  ·intro ex3 s3 hX3;unfold Hq at hX3;obtain⟨rfl,n3_0,n3_1⟩:=hX3;obtain⟨e4,h⟩:=Bw h;have c5:=Tu outputs (0:Int) (1:Int) e4;by_cases e6:(EJ outputs (0:Int) (1:Int))=true
   ·rw [if_pos e6]at h
    obtain rfl:=Option.some.inj h
    simp (maxDischargeDepth:=9) only [↓AQ,AR,Ah,↓reduceIte,bj,bk,bl,bm,bo,bp,br,bt,bw,bx,bO,b0,b3,b4,b5,b6,b7,decide_eq_true e1,n3_0,n3_1,e4,c5,e6]<;>(repeat' apply A7)<;>first|rfl|exact⟨_,rfl⟩|exact⟨_,_,rfl⟩|simp [AP,A8]
   ·rw [if_neg e6]at h;have e6f:(EJ outputs (0:Int) (1:Int))=false:=KR.mpr e6
    obtain rfl:=Option.some.inj h
    simp (maxDischargeDepth:=9) only [↓AQ,AR,Ah,↓reduceIte,bj,bk,bl,bm,bo,bp,br,bt,bw,bx,bO,b0,b3,b4,b5,b6,b7,decide_eq_true e1,n3_0,n3_1,e4,c5,e6f]<;>(repeat' apply A7)<;>first|rfl|exact⟨_,rfl⟩|exact⟨_,_,rfl⟩|simp [AP,A8]
 ·rw [if_neg e1]at h;by_cases e2:task=2
  ·rw [if_pos e2]at h;obtain⟨A99,hl3,h⟩:=Ar h;try dsimp only at h
   have c3:=Ve AB AO AA outputs hl3
   obtain rfl:=Option.some.inj h
   simp (maxDischargeDepth:=9) only [↓AQ,AR,Ah,↓reduceIte,bj,bk,bl,bm,bo,bp,br,bt,bw,bx,bO,b0,b3,b4,b5,b6,b7,e1,decide_eq_true e2,c3]<;>(repeat' apply A7)<;>first|rfl|exact⟨_,rfl⟩|exact⟨_,_,rfl⟩|simp [AP,A8]
  ·rw [if_neg e2]at h;obtain⟨A9A,hl3,h⟩:=Ar h;try dsimp only at h
   have c3:=Vf outputs hl3
   obtain rfl:=Option.some.inj h
   simp (maxDischargeDepth:=9) only [↓AQ,AR,Ah,↓reduceIte,bj,bk,bl,bm,bo,bp,br,bt,bw,bx,bO,b0,b3,b4,b5,b6,b7,e1,e2,c3]<;>(repeat' apply A7)<;>first|rfl|exact⟨_,rfl⟩|exact⟨_,_,rfl⟩|simp [AP,A8]
def CZ(A9:Am)(AU:AL)(AC:AL)(Jb:List (AL×Int))(KF:AL)(BO:Int)(JA:Int):Option ((Int)⊕(Unit)):= if JA<((A9.getD BO.toNat be).length:Int)then ck (0≤JA∧JA.toNat<(A9.getD BO.toNat be).length)<| some (cb (ca.wrap (JA+1))) else some (b8 ())
def Dw(A9:Am)(AU:AL)(AC:AL)(Jb:List (AL×Int))(KF:AL)(BO:Int)(v:Int):Option (Unit):=Im (fun v=>CZ A9 AU AC Jb KF BO v) v
def Ca(A9:Am)(AU:AL)(AC:AL)(Jb:List (AL×Int))(KF:AL)(BO:Int):Option (((List (AL×Int))×AL×Int)⊕(AL)):= if BO<(A9.length:Int)then ck (0≤BO∧BO.toNat<A9.length)<| ck (0≤BO∧BO.toNat<AC.length)<| (Dw A9 AU AC Jb KF BO 0).bind fun AY=> if((J4 Jb [((A9.getD BO.toNat be).length:Int),(AC.getD BO.toNat be),0,0,0,0,0,0,0,0,0,0,0,0]).2)=true then ck (0≤BO∧BO.toNat<KF.length)<| some (cb (Jb,(KF.set BO.toNat ((J4 Jb [((A9.getD BO.toNat be).length:Int),(AC.getD BO.toNat be),0,0,0,0,0,0,0,0,0,0,0,0]).1)),ca.wrap (BO+1))) else ck (0≤BO∧BO.toNat<KF.length)<| some (cb ((Ta Jb [((A9.getD BO.toNat be).length:Int),(AC.getD BO.toNat be),0,0,0,0,0,0,0,0,0,0,0,0] (Jb.length:Int)),(KF.set BO.toNat (Jb.length:Int)),ca.wrap (BO+1))) else some (b8 KF)
def Dx(A9:Am)(AU:AL)(AC:AL)(v:(List (AL×Int))×AL×Int):Option (AL):=Im (fun v=>Ca A9 AU AC v.1 v.2.1 v.2.2) v
def EA(A9:Am)(AU:AL)(AC:AL):Option (AL):= ck (0≤(A9.length:Int)∧(A9.length:Int)<1099511627776)<| (Dx A9 AU AC (([]:List (AL×Int)),(ao A9.length 0),0)).bind fun CY=> some CY
abbrev I9:List Nat:=[44,45,46,47,48,49,50,51,52,53,54,55,56,57,57,51,9,58,58,56,9]
def Qf:SC:= .seq (.ops [oB 38 .lss 3 (tK 37) (tK 36) 3 0]) (.seq (.cond (tK 38) .skip (.exit 2)) (.seq (.block 3 (.seq (.ops [oM 39 37 3,oI 40 123 35 37,oL 41 125 40 125,oX 11 (.alloc 125) 0,oA 10 39 3,oS 125 11 41]) (.seq (.ops [oM 42 1 26,oB 43 .neq 26 (tK 42) mh 26 4]) (.cond (tK 43) (.draws [(⟨[44,10,10],I9,[44]⟩,oM 44 10 3),(⟨[45,44,10],I9,[45]⟩,oB 45 .mul 3 (iK 2) (tK 44) 3 3),(⟨[46,45,45],I9,[46]⟩,oB 46 .add 3 (iK 2) (tK 45) 3 3),(⟨[47,10,10],I9,[47]⟩,oM 47 10 3),(⟨[48,47,10],I9,[48]⟩,oB 48 .mul 3 (iK 2) (tK 47) 3 3),(⟨[49,48,48],I9,[49]⟩,oB 49 .add 3 (iK 3) (tK 48) 3 3),(⟨[50,11,11],I9,[50]⟩,oF 50 125 11 1),(⟨[51,50,11],I9,[51]⟩,oL 51 3 50 3),(⟨[52,1,1],I9,[52]⟩,oM 52 1 26),(⟨[53,11,11],I9,[53]⟩,oF 53 125 11 0),(⟨[54,53,11],I9,[54]⟩,oL 54 3 53 3),(⟨[55,52,54,1,11],I9,[55]⟩,oI 55 26 52 54),(⟨[56,55,1],I9,[56]⟩,oL 56 3 55 3),(⟨[57,9,46,9,46],I9,[57]⟩,oI 57 164 9 46),(⟨[57,51,9,11],I9,[57,51,9]⟩,oS 3 57 51),(⟨[58,9,49,9,49],I9,[58]⟩,oI 58 164 9 49),(⟨[58,56,9,1],I9,[58,56,9]⟩,oS 3 58 56)]) .skip)))) (.ops [oB 59 .add 3 (tK 37) (iK 1) 3 3,oM 37 59 3])))
def Zf:SC:= .loop Qf
def Qg:SC:= .seq (.ops [oB 23 .lss 3 (tK 22) (tK 21) 3 0]) (.seq (.cond (tK 23) .skip (.exit 0)) (.seq (.block 1 (.seq (.ops [oM 24 22 3,oI 25 45 20 22,oL 26 123 25 123,oA 7 24 3,oA 8 26 123]) (.seq (.ops [oM 27 8 123,oN 28 27 123,oF 29 47 2 2,oL 30 26 29 26,oM 31 7 3,oI 32 26 30 31,oL 33 3 32 3,oX 34 (.build 164 #[(0,(tK 28)),(1,(tK 33))]) 164,oX 9 (.alloc 164) 0,oS 164 9 34]) (.seq (.seq (.ops [oM 35 8 123,oN 36 35 123,oX 37 (.move (iK 0)) 3]) (.block 2 Zf)) (.seq (.ops [oM 61 5 162,oL 62 164 9 164,oX 63 (.lookup 162 (tK 61) (tK 62) true) 51,oM 60 63 51,oE 64 60 0 3,oE 65 60 1 4,oA 12 64 3,oA 13 65 4]) (.seq (.seq (.ops [oM 66 13 4,oX 67 (.unOp .not 4 (tK 66)) 4]) (.cond (tK 67) (.seq (.ops [oM 68 5 162,oN 69 68 162,oA 12 69 3]) (.ops [oM 70 5 162,oL 71 164 9 164,oM 72 12 3,⟨none,(.mapUpdate 162 (tK 70) (tK 71) (tK 72)),0,none⟩])) .skip)) (.ops [oM 73 6 26,oM 74 7 3,oM 75 12 3,oI 76 26 73 74,oS 3 76 75]))))))) (.ops [oB 77 .add 3 (tK 22) (iK 1) 3 3,oM 22 77 3])))
def Zg:SC:= .loop Qg
def nX:SC:= .seq (.ops [oX 2 (.box 47 (tK 0)) 0,oX 4 OL 26]) (.seq (.ops [oX 14 (.makeMap 162 none) 162,oA 5 14 162]) (.seq (.ops [oF 15 47 2 0,oL 16 45 15 45,oN 17 16 45,oX 18 (.makeSlice 26 (tK 17) (tK 17)) 26,oA 6 18 26]) (.seq (.seq (.ops [oF 19 47 2 0,oL 20 45 19 45,oN 21 20 45,oX 22 (.move (iK 0)) 3]) (.block 0 Zg)) (.seq (.ops [oM 78 6 26,oA 4 78 26]) .ret))))
theorem nY:Try.f125.body.map (Ba lends)=some nX:=by kernel_rfl
theorem A2K:Bz Try.f125 2=true:=by kernel_rfl
theorem A9C{a l:List D}{r:D×List D}(h:C8 Y.env nX (Fa Ac l.length [cc 4] r) (entry a l))(ha:a.length=2):Y.call 125 a l=some r:=
 Aa (Y:=Y) rfl Try.func125 (ha▸A2K) nY h
def Cb(A9:Am)(AU:AL)(AC:AL)(Jb:List (AL×Int))(KF:AL)(BO:Int)(JA:Int)(s:St):Prop:=s.v 1=D.konst (.slice none 0 0)∧s.v 2=cg [bh 123 (AP (fun x=>bh 125 (Au .i64 .i64 x)) A9),bh 3 (AP (bd .i64) AU),bh 3 (AP (bd .i64) AC)]∧s.v 5=D.mp 164 3 (Pg Jb)∧s.v 6=cd 3 (AP (bd .i64) KF)∧s.v 7=bd .i64 BO∧s.v 9=cg [bd .i64 ((A9.getD BO.toNat be).length:Int),bd .i64 (AC.getD BO.toNat be),bd .i64 0,bd .i64 0,bd .i64 0,bd .i64 0,bd .i64 0,bd .i64 0,bd .i64 0,bd .i64 0,bd .i64 0,bd .i64 0,bd .i64 0,bd .i64 0]∧s.v 20=bh 123 (AP (fun x=>bh 125 (Au .i64 .i64 x)) A9)∧s.v 21=bd .i64 (A9.length:Int)∧s.v 22=bd .i64 BO∧s.v 35=bh 125 (Au .i64 .i64 (A9.getD BO.toNat be))∧s.v 36=bd .i64 ((A9.getD BO.toNat be).length:Int)∧s.v 37=bd .i64 JA
def DN(A9:Am)(AU:AL)(AC:AL)(Jb:List (AL×Int))(KF:AL)(BO:Int)(r:Unit)(ex:Ex)(s:St):Prop:=ex= .exit 2∧s.v 1=D.konst (.slice none 0 0)∧s.v 2=cg [bh 123 (AP (fun x=>bh 125 (Au .i64 .i64 x)) A9),bh 3 (AP (bd .i64) AU),bh 3 (AP (bd .i64) AC)]∧s.v 5=D.mp 164 3 (Pg Jb)∧s.v 6=cd 3 (AP (bd .i64) KF)∧s.v 7=bd .i64 BO∧s.v 9=cg [bd .i64 ((A9.getD BO.toNat be).length:Int),bd .i64 (AC.getD BO.toNat be),bd .i64 0,bd .i64 0,bd .i64 0,bd .i64 0,bd .i64 0,bd .i64 0,bd .i64 0,bd .i64 0,bd .i64 0,bd .i64 0,bd .i64 0,bd .i64 0]∧s.v 20=bh 123 (AP (fun x=>bh 125 (Au .i64 .i64 x)) A9)∧s.v 21=bd .i64 (A9.length:Int)∧s.v 22=bd .i64 BO
theorem M5(A9:Am)(AU:AL)(AC:AL)(Jb:List (AL×Int))(KF:AL)(BO:Int){v:Int}{s:St}{r:Unit}(h:Dw A9 AU AC Jb KF BO v=some r)(hM:Cb A9 AU AC Jb KF BO v s):C8 Y.env Zf (DN A9 AU AC Jb KF BO r) s:=by
 unfold Dw at h;refine BU (c:=Qf) (fun v=>CZ A9 AU AC Jb KF BO v) (fun v s=>Cb A9 AU AC Jb KF BO v s) (DN A9 AU AC Jb KF BO) ?_ h hM;clear h hM s v r;intro JA s o hM h;unfold CZ at h;unfold Cb at hM;obtain⟨m0,m1,m2,m3,m4,m5,m6,m7,m8,m9,m10,m11⟩:=hM;unfold Qf;by_cases e5:JA<((A9.getD BO.toNat be).length:Int)
 ·rw [if_pos e5]at h;obtain⟨e6,h⟩:=Bw h
  obtain rfl:=Option.some.inj h
  simp (maxDischargeDepth:=9) only [↓AQ,AR,Ah,↓reduceIte,bj,bk,bl,bm,bo,bp,br,bt,bw,bx,bO,b0,b3,b4,b5,b6,b7,m0,m1,m2,m3,m4,m5,m6,m7,m8,m9,m10,m11,e5,e6.1,e6.2,Cb,DN,Ch,Ci,Cj]<;>(repeat' apply A7)<;>first|rfl|exact⟨_,rfl⟩|exact⟨_,_,rfl⟩|simp [AP,A8]
 ·rw [if_neg e5]at h
  obtain rfl:=Option.some.inj h
  simp (maxDischargeDepth:=9) only [↓AQ,AR,Ah,↓reduceIte,bj,bk,bl,bm,bo,bp,br,bt,bw,bx,bO,b0,b3,b4,b5,b6,b7,m0,m1,m2,m3,m4,m5,m6,m7,m8,m9,m10,m11,e5,Cb,DN,Ch,Ci,Cj]<;>(repeat' apply A7)<;>first|rfl|exact⟨_,rfl⟩|exact⟨_,_,rfl⟩|simp [AP,A8]
def Bv(A9:Am)(AU:AL)(AC:AL)(Jb:List (AL×Int))(KF:AL)(BO:Int)(s:St):Prop:=s.v 1=D.konst (.slice none 0 0)∧s.v 2=cg [bh 123 (AP (fun x=>bh 125 (Au .i64 .i64 x)) A9),bh 3 (AP (bd .i64) AU),bh 3 (AP (bd .i64) AC)]∧s.v 5=D.mp 164 3 (Pg Jb)∧s.v 6=cd 3 (AP (bd .i64) KF)∧s.v 20=bh 123 (AP (fun x=>bh 125 (Au .i64 .i64 x)) A9)∧s.v 21=bd .i64 (A9.length:Int)∧s.v 22=bd .i64 BO
def Cc(A9:Am)(AU:AL)(AC:AL)(r:AL)(ex:Ex)(s:St):Prop:=ex= .exit 0∧s.v 6=cd 3 (AP (bd .i64) r)
theorem M6(A9:Am)(AU:AL)(AC:AL){v:(List (AL×Int))×AL×Int}{s:St}{r:AL}(h:Dx A9 AU AC v=some r)(hM:Bv A9 AU AC v.1 v.2.1 v.2.2 s):C8 Y.env Zg (Cc A9 AU AC r) s:=by
 unfold Dx at h;refine BU (c:=Qg) (fun v=>Ca A9 AU AC v.1 v.2.1 v.2.2) (fun v s=>Bv A9 AU AC v.1 v.2.1 v.2.2 s) (Cc A9 AU AC) ?_ h hM;clear h hM s v r;intro v s o hM h;obtain⟨Jb,KF,BO⟩:=v;dsimp only at h hM;unfold Ca at h;unfold Bv at hM;obtain⟨m0,m1,m2,m3,m4,m5,m6⟩:=hM;unfold Qg;by_cases e2:BO<(A9.length:Int)
 ·rw [if_pos e2]at h;obtain⟨e3,h⟩:=Bw h;obtain⟨e4,h⟩:=Bw h;obtain⟨AY,hl6,h⟩:=Ar h;try dsimp only at h
  simp (maxDischargeDepth:=9) only [↓AQ,AR,Ah,↓reduceIte,bj,bk,bl,bm,bo,bp,br,bt,bw,bx,bO,b0,b3,b4,b5,b6,b7,m0,m1,m2,m3,m4,m5,m6,e2,e3.1,e3.2,e4.1,e4.2];refine BF (M5 A9 AU AC Jb KF BO hl6 ?_) ?_
  ·simp (maxDischargeDepth:=9) only [↓AQ,AR,Ah,↓reduceIte,bj,bk,bl,bm,bo,bp,br,bt,bw,bx,bO,b0,b3,b4,b5,b6,b7,m0,m1,m2,m3,m4,m5,m6,e2,e3.1,e3.2,e4.1,e4.2,Cb]<;>(repeat' apply A7)<;>first|rfl|exact⟨_,rfl⟩|exact⟨_,_,rfl⟩|simp [AP,A8]
  ·intro ex6 s6 hX6;unfold DN at hX6;obtain⟨rfl,n6_0,n6_1,n6_2,n6_3,n6_4,n6_5,n6_6,n6_7,n6_8⟩:=hX6;by_cases e7:((J4 Jb [((A9.getD BO.toNat be).length:Int),(AC.getD BO.toNat be),0,0,0,0,0,0,0,0,0,0,0,0]).2)=true
   ·rw [if_pos e7]at h;obtain⟨e8,h⟩:=Bw h
    obtain rfl:=Option.some.inj h
    simp (maxDischargeDepth:=9) only [↓AQ,AR,Ah,↓reduceIte,bj,bk,bl,bm,bo,bp,br,bt,bw,bx,bO,b0,b3,b4,b5,b6,b7,e2,e3.1,e3.2,e4.1,e4.2,n6_0,n6_1,n6_2,n6_3,n6_4,n6_5,n6_6,n6_7,n6_8,e7,e8.1,e8.2,Bv,Cc,Ch,Ci,Cj]<;>(repeat' apply A7)<;>first|rfl|exact⟨_,rfl⟩|exact⟨_,_,rfl⟩|simp [AP,A8]
   ·rw [if_neg e7]at h;have e7f:((J4 Jb [((A9.getD BO.toNat be).length:Int),(AC.getD BO.toNat be),0,0,0,0,0,0,0,0,0,0,0,0]).2)=false:=KR.mpr e7;obtain⟨e8,h⟩:=Bw h
    obtain rfl:=Option.some.inj h
    simp (maxDischargeDepth:=9) only [↓AQ,AR,Ah,↓reduceIte,bj,bk,bl,bm,bo,bp,br,bt,bw,bx,bO,b0,b3,b4,b5,b6,b7,e2,e3.1,e3.2,e4.1,e4.2,n6_0,n6_1,n6_2,n6_3,n6_4,n6_5,n6_6,n6_7,n6_8,e7f,e8.1,e8.2,Bv,Cc,Ch,Ci,Cj]<;>(repeat' apply A7)<;>first|rfl|exact⟨_,rfl⟩|exact⟨_,_,rfl⟩|simp [AP,A8]
 ·rw [if_neg e2]at h
  obtain rfl:=Option.some.inj h
  simp (maxDischargeDepth:=9) only [↓AQ,AR,Ah,↓reduceIte,bj,bk,bl,bm,bo,bp,br,bt,bw,bx,bO,b0,b3,b4,b5,b6,b7,m0,m1,m2,m3,m4,m5,m6,e2,Bv,Cc,Ch,Ci,Cj]<;>(repeat' apply A7)<;>first|rfl|exact⟨_,rfl⟩|exact⟨_,_,rfl⟩|simp [AP,A8]
theorem JB(A9:Am)(AU:AL)(AC:AL){r:AL}(h:EA A9 AU AC=some r):Y.call 125 [ce [bh 123 (AP (fun x=>bh 125 (Au .i64 .i64 x)) A9),bh 3 (AP (bd .i64) AU),bh 3 (AP (bd .i64) AC)],D.konst (.slice none 0 0)] []=some (cd 3 (AP (bd .i64) r),[]):=by
 refine A9C ?_ rfl;unfold nX;unfold EA at h;obtain⟨e1,h⟩:=Bw h;obtain⟨CY,hl3,h⟩:=Ar h;try dsimp only at h
 simp (maxDischargeDepth:=9) only [↓AQ,AR,Ah,↓reduceIte,bj,bk,bl,bm,bo,bp,br,bt,bw,bx,bO,b0,b3,b4,b5,b6,b7,e1.1,e1.2];refine BF (M6 A9 AU AC hl3 ?_) ?_
 ·simp (maxDischargeDepth:=9) only [↓AQ,AR,Ah,↓reduceIte,bj,bk,bl,bm,bo,bp,br,bt,bw,bx,bO,b0,b3,b4,b5,b6,b7,e1.1,e1.2,Bv]<;>(repeat' apply A7)<;>first|rfl|exact⟨_,rfl⟩|exact⟨_,_,rfl⟩|simp [AP,A8]
 ·intro ex3 s3 hX3;unfold Cc at hX3;obtain⟨rfl,n3_0⟩:=hX3
  obtain rfl:=Option.some.inj h
  simp (maxDischargeDepth:=9) only [↓AQ,AR,Ah,↓reduceIte,bj,bk,bl,bm,bo,bp,br,bt,bw,bx,bO,b0,b3,b4,b5,b6,b7,e1.1,e1.2,n3_0]<;>(repeat' apply A7)<;>first|rfl|exact⟨_,rfl⟩|exact⟨_,_,rfl⟩|simp [AP,A8]
def De(A9:Am)(AU:AL)(AC:AL)(Ib:AL)(Jb:List (AL×Int))(KF:AL)(BO:Int)(HV:AL)(JA:Int):Option ((AL×Int)⊕(AL)):= if JA<((A9.getD BO.toNat be).length:Int)then ck (0≤JA∧JA.toNat<(A9.getD BO.toNat be).length)<| ck (0<Ib.length)<| ck (0≤(BJ (A9.getD BO.toNat be) JA.toNat)∧(BJ (A9.getD BO.toNat be) JA.toNat).toNat<Ib.length)<| ck (0≤ca.wrap (2+(ca.wrap (2*JA)))∧(ca.wrap (2+(ca.wrap (2*JA)))).toNat<14)<| ck (((ca.wrap (2+(ca.wrap (2*JA)))).toNat)<HV.length)<| ck (0≤ca.wrap (3+(ca.wrap (2*JA)))∧(ca.wrap (3+(ca.wrap (2*JA)))).toNat<14)<| ck (((ca.wrap (3+(ca.wrap (2*JA)))).toNat)<HV.length)<| some (cb (((HV.set ((ca.wrap (2+(ca.wrap (2*JA)))).toNat) (CO (A9.getD BO.toNat be) JA.toNat)).set ((ca.wrap (3+(ca.wrap (2*JA)))).toNat) (Ib.getD ((BJ (A9.getD BO.toNat be) JA.toNat).toNat) be)),ca.wrap (JA+1))) else some (b8 HV)
def EW(A9:Am)(AU:AL)(AC:AL)(Ib:AL)(Jb:List (AL×Int))(KF:AL)(BO:Int)(v:AL×Int):Option (AL):=Im (fun v=>De A9 AU AC Ib Jb KF BO v.1 v.2) v
def Df(A9:Am)(AU:AL)(AC:AL)(Ib:AL)(Jb:List (AL×Int))(KF:AL)(BO:Int):Option (((List (AL×Int))×AL×Int)⊕(AL)):= if BO<(A9.length:Int)then ck (0≤BO∧BO.toNat<A9.length)<| ck (0≤BO∧BO.toNat<AC.length)<| (EW A9 AU AC Ib Jb KF BO ([((A9.getD BO.toNat be).length:Int),(AC.getD BO.toNat be),0,0,0,0,0,0,0,0,0,0,0,0],0)).bind fun AY=> ck (AY.length≤14∧14≤AY.length)<| if((J4 Jb AY).2)=true then ck (0≤BO∧BO.toNat<KF.length)<| some (cb (Jb,(KF.set BO.toNat ((J4 Jb AY).1)),ca.wrap (BO+1))) else ck (0≤BO∧BO.toNat<KF.length)<| some (cb ((Ta Jb AY (Jb.length:Int)),(KF.set BO.toNat (Jb.length:Int)),ca.wrap (BO+1))) else some (b8 KF)
def FX(A9:Am)(AU:AL)(AC:AL)(Ib:AL)(v:(List (AL×Int))×AL×Int):Option (AL):=Im (fun v=>Df A9 AU AC Ib v.1 v.2.1 v.2.2) v
def Gp(A9:Am)(AU:AL)(AC:AL)(Ib:AL):Option (AL):= ck (0≤(A9.length:Int)∧(A9.length:Int)<1099511627776)<| (FX A9 AU AC Ib (([]:List (AL×Int)),(ao A9.length 0),0)).bind fun CY=> some CY
def UZ:SC:= .seq (.ops [oB 38 .lss 3 (tK 37) (tK 36) 3 0]) (.seq (.cond (tK 38) .skip (.exit 2)) (.seq (.block 3 (.seq (.ops [oM 39 37 3,oI 40 123 35 37,oL 41 125 40 125,oX 11 (.alloc 125) 0,oA 10 39 3,oS 125 11 41]) (.seq (.ops [oM 42 1 26,oB 43 .neq 26 (tK 42) mh 26 4]) (.cond (tK 43) (.draws [(⟨[44,10,10],I9,[44]⟩,oM 44 10 3),(⟨[45,44,10],I9,[45]⟩,oB 45 .mul 3 (iK 2) (tK 44) 3 3),(⟨[46,45,45],I9,[46]⟩,oB 46 .add 3 (iK 2) (tK 45) 3 3),(⟨[47,10,10],I9,[47]⟩,oM 47 10 3),(⟨[48,47,10],I9,[48]⟩,oB 48 .mul 3 (iK 2) (tK 47) 3 3),(⟨[49,48,48],I9,[49]⟩,oB 49 .add 3 (iK 3) (tK 48) 3 3),(⟨[50,11,11],I9,[50]⟩,oF 50 125 11 1),(⟨[51,50,11],I9,[51]⟩,oL 51 3 50 3),(⟨[52,1,1],I9,[52]⟩,oM 52 1 26),(⟨[53,11,11],I9,[53]⟩,oF 53 125 11 0),(⟨[54,53,11],I9,[54]⟩,oL 54 3 53 3),(⟨[55,52,54,1,11],I9,[55]⟩,oI 55 26 52 54),(⟨[56,55,1],I9,[56]⟩,oL 56 3 55 3),(⟨[57,9,46,9,46],I9,[57]⟩,oI 57 164 9 46),(⟨[57,51,9,11],I9,[57,51,9]⟩,oS 3 57 51),(⟨[58,9,49,9,49],I9,[58]⟩,oI 58 164 9 49),(⟨[58,56,9,1],I9,[58,56,9]⟩,oS 3 58 56)]) .skip)))) (.ops [oB 59 .add 3 (tK 37) (iK 1) 3 3,oM 37 59 3])))
def fO:SC:= .loop UZ
def Ua:SC:= .seq (.ops [oB 23 .lss 3 (tK 22) (tK 21) 3 0]) (.seq (.cond (tK 23) .skip (.exit 0)) (.seq (.block 1 (.seq (.ops [oM 24 22 3,oI 25 45 20 22,oL 26 123 25 123,oA 7 24 3,oA 8 26 123]) (.seq (.ops [oM 27 8 123,oN 28 27 123,oF 29 47 2 2,oL 30 26 29 26,oM 31 7 3,oI 32 26 30 31,oL 33 3 32 3,oX 34 (.build 164 #[(0,(tK 28)),(1,(tK 33))]) 164,oX 9 (.alloc 164) 0,oS 164 9 34]) (.seq (.seq (.ops [oM 35 8 123,oN 36 35 123,oX 37 (.move (iK 0)) 3]) (.block 2 fO)) (.seq (.ops [oM 61 5 162,oL 62 164 9 164,oX 63 (.lookup 162 (tK 61) (tK 62) true) 51,oM 60 63 51,oE 64 60 0 3,oE 65 60 1 4,oA 12 64 3,oA 13 65 4]) (.seq (.seq (.ops [oM 66 13 4,oX 67 (.unOp .not 4 (tK 66)) 4]) (.cond (tK 67) (.seq (.ops [oM 68 5 162,oN 69 68 162,oA 12 69 3]) (.ops [oM 70 5 162,oL 71 164 9 164,oM 72 12 3,⟨none,(.mapUpdate 162 (tK 70) (tK 71) (tK 72)),0,none⟩])) .skip)) (.ops [oM 73 6 26,oM 74 7 3,oM 75 12 3,oI 76 26 73 74,oS 3 76 75]))))))) (.ops [oB 77 .add 3 (tK 22) (iK 1) 3 3,oM 22 77 3])))
def fP:SC:= .loop Ua
def A2L:SC:= .seq (.ops [oX 2 (.box 47 (tK 0)) 0,oX 4 OL 26]) (.seq (.ops [oX 14 (.makeMap 162 none) 162,oA 5 14 162]) (.seq (.ops [oF 15 47 2 0,oL 16 45 15 45,oN 17 16 45,oX 18 (.makeSlice 26 (tK 17) (tK 17)) 26,oA 6 18 26]) (.seq (.seq (.ops [oF 19 47 2 0,oL 20 45 19 45,oN 21 20 45,oX 22 (.move (iK 0)) 3]) (.block 0 fP)) (.seq (.ops [oM 78 6 26,oA 4 78 26]) .ret))))
theorem rZ:Try.f125.body.map (Ba lends)=some A2L:=by kernel_rfl
theorem A9D:Bz Try.f125 2=true:=by kernel_rfl
theorem AEZ{a l:List D}{r:D×List D}(h:C8 Y.env A2L (Fa Ac l.length [cc 4] r) (entry a l))(ha:a.length=2):Y.call 125 a l=some r:=
 Aa (Y:=Y) rfl Try.func125 (ha▸A9D) rZ h
def Dh(A9:Am)(AU:AL)(AC:AL)(Ib:AL)(Jb:List (AL×Int))(KF:AL)(BO:Int)(HV:AL)(JA:Int)(s:St):Prop:=s.v 1=bh 3 (AP (bd .i64) Ib)∧s.v 2=cg [bh 123 (AP (fun x=>bh 125 (Au .i64 .i64 x)) A9),bh 3 (AP (bd .i64) AU),bh 3 (AP (bd .i64) AC)]∧s.v 5=D.mp 164 3 (Pg Jb)∧s.v 6=cd 3 (AP (bd .i64) KF)∧s.v 7=bd .i64 BO∧s.v 9=cg (AP (bd .i64) HV)∧s.v 20=bh 123 (AP (fun x=>bh 125 (Au .i64 .i64 x)) A9)∧s.v 21=bd .i64 (A9.length:Int)∧s.v 22=bd .i64 BO∧s.v 35=bh 125 (Au .i64 .i64 (A9.getD BO.toNat be))∧s.v 36=bd .i64 ((A9.getD BO.toNat be).length:Int)∧s.v 37=bd .i64 JA
def Eh(A9:Am)(AU:AL)(AC:AL)(Ib:AL)(Jb:List (AL×Int))(KF:AL)(BO:Int)(r:AL)(ex:Ex)(s:St):Prop:=ex= .exit 2∧s.v 1=bh 3 (AP (bd .i64) Ib)∧s.v 2=cg [bh 123 (AP (fun x=>bh 125 (Au .i64 .i64 x)) A9),bh 3 (AP (bd .i64) AU),bh 3 (AP (bd .i64) AC)]∧s.v 5=D.mp 164 3 (Pg Jb)∧s.v 6=cd 3 (AP (bd .i64) KF)∧s.v 7=bd .i64 BO∧s.v 9=cg (AP (bd .i64) r)∧s.v 20=bh 123 (AP (fun x=>bh 125 (Au .i64 .i64 x)) A9)∧s.v 21=bd .i64 (A9.length:Int)∧s.v 22=bd .i64 BO
theorem OM(A9:Am)(AU:AL)(AC:AL)(Ib:AL)(Jb:List (AL×Int))(KF:AL)(BO:Int){v:AL×Int}{s:St}{r:AL}(h:EW A9 AU AC Ib Jb KF BO v=some r)(hM:Dh A9 AU AC Ib Jb KF BO v.1 v.2 s):C8 Y.env fO (Eh A9 AU AC Ib Jb KF BO r) s:=by
 unfold EW at h;refine BU (c:=UZ) (fun v=>De A9 AU AC Ib Jb KF BO v.1 v.2) (fun v s=>Dh A9 AU AC Ib Jb KF BO v.1 v.2 s) (Eh A9 AU AC Ib Jb KF BO) ?_ h hM;clear h hM s v r;intro v s o hM h;obtain⟨HV,JA⟩:=v;dsimp only at h hM;unfold De at h;unfold Dh at hM;obtain⟨m0,m1,m2,m3,m4,m5,m6,m7,m8,m9,m10,m11⟩:=hM;unfold UZ;by_cases e5:JA<((A9.getD BO.toNat be).length:Int)
 ·rw [if_pos e5]at h;obtain⟨e6,h⟩:=Bw h;obtain⟨e7,h⟩:=Bw h;obtain⟨e8,h⟩:=Bw h;obtain⟨e9,h⟩:=Bw h;obtain⟨e10,h⟩:=Bw h;obtain⟨e11,h⟩:=Bw h;obtain⟨e12,h⟩:=Bw h
  obtain rfl:=Option.some.inj h
  simp (maxDischargeDepth:=9) only [↓AQ,AR,Ah,↓reduceIte,bj,bk,bl,bm,bo,bp,br,bt,bw,bx,bO,b0,b3,b4,b5,b6,b7,m0,m1,m2,m3,m4,m5,m6,m7,m8,m9,m10,m11,e5,e6.1,e6.2,e7,e8.1,e8.2,e9.1,e9.2,e10,e11.1,e11.2,e12,Dh,Eh,Ch,Ci,Cj]<;>(repeat' apply A7)<;>first|rfl|exact⟨_,rfl⟩|exact⟨_,_,rfl⟩|simp [AP,A8]
 ·rw [if_neg e5]at h
  obtain rfl:=Option.some.inj h
  simp (maxDischargeDepth:=9) only [↓AQ,AR,Ah,↓reduceIte,bj,bk,bl,bm,bo,bp,br,bt,bw,bx,bO,b0,b3,b4,b5,b6,b7,m0,m1,m2,m3,m4,m5,m6,m7,m8,m9,m10,m11,e5,Dh,Eh,Ch,Ci,Cj]<;>(repeat' apply A7)<;>first|rfl|exact⟨_,rfl⟩|exact⟨_,_,rfl⟩|simp [AP,A8]
def Ct(A9:Am)(AU:AL)(AC:AL)(Ib:AL)(Jb:List (AL×Int))(KF:AL)(BO:Int)(s:St):Prop:=s.v 1=bh 3 (AP (bd .i64) Ib)∧s.v 2=cg [bh 123 (AP (fun x=>bh 125 (Au .i64 .i64 x)) A9),bh 3 (AP (bd .i64) AU),bh 3 (AP (bd .i64) AC)]∧s.v 5=D.mp 164 3 (Pg Jb)∧s.v 6=cd 3 (AP (bd .i64) KF)∧s.v 20=bh 123 (AP (fun x=>bh 125 (Au .i64 .i64 x)) A9)∧s.v 21=bd .i64 (A9.length:Int)∧s.v 22=bd .i64 BO
def Di(A9:Am)(AU:AL)(AC:AL)(Ib:AL)(r:AL)(ex:Ex)(s:St):Prop:=ex= .exit 0∧s.v 6=cd 3 (AP (bd .i64) r)
theorem OO(A9:Am)(AU:AL)(AC:AL)(Ib:AL){v:(List (AL×Int))×AL×Int}{s:St}{r:AL}(h:FX A9 AU AC Ib v=some r)(hM:Ct A9 AU AC Ib v.1 v.2.1 v.2.2 s):C8 Y.env fP (Di A9 AU AC Ib r) s:=by
 unfold FX at h;refine BU (c:=Ua) (fun v=>Df A9 AU AC Ib v.1 v.2.1 v.2.2) (fun v s=>Ct A9 AU AC Ib v.1 v.2.1 v.2.2 s) (Di A9 AU AC Ib) ?_ h hM;clear h hM s v r;intro v s o hM h;obtain⟨Jb,KF,BO⟩:=v;dsimp only at h hM;unfold Df at h;unfold Ct at hM;obtain⟨m0,m1,m2,m3,m4,m5,m6⟩:=hM;unfold Ua;by_cases e2:BO<(A9.length:Int)
 ·rw [if_pos e2]at h;obtain⟨e3,h⟩:=Bw h;obtain⟨e4,h⟩:=Bw h;obtain⟨AY,hl6,h⟩:=Ar h;try dsimp only at h
  simp (maxDischargeDepth:=9) only [↓AQ,AR,Ah,↓reduceIte,bj,bk,bl,bm,bo,bp,br,bt,bw,bx,bO,b0,b3,b4,b5,b6,b7,m0,m1,m2,m3,m4,m5,m6,e2,e3.1,e3.2,e4.1,e4.2];refine BF (OM A9 AU AC Ib Jb KF BO hl6 ?_) ?_
  ·simp (maxDischargeDepth:=9) only [↓AQ,AR,Ah,↓reduceIte,bj,bk,bl,bm,bo,bp,br,bt,bw,bx,bO,b0,b3,b4,b5,b6,b7,m0,m1,m2,m3,m4,m5,m6,e2,e3.1,e3.2,e4.1,e4.2,Dh]<;>(repeat' apply A7)<;>first|rfl|exact⟨_,rfl⟩|exact⟨_,_,rfl⟩|simp [AP,A8]
  ·intro ex6 s6 hX6;unfold Eh at hX6;obtain⟨rfl,n6_0,n6_1,n6_2,n6_3,n6_4,n6_5,n6_6,n6_7,n6_8⟩:=hX6;obtain⟨e7,h⟩:=Bw h;by_cases e8:((J4 Jb AY).2)=true
   ·rw [if_pos e8]at h;obtain⟨e9,h⟩:=Bw h
    obtain rfl:=Option.some.inj h
    simp (maxDischargeDepth:=9) only [↓AQ,AR,Ah,↓reduceIte,bj,bk,bl,bm,bo,bp,br,bt,bw,bx,bO,b0,b3,b4,b5,b6,b7,e2,e3.1,e3.2,e4.1,e4.2,n6_0,n6_1,n6_2,n6_3,n6_4,n6_5,n6_6,n6_7,n6_8,e7.1,e7.2,e8,e9.1,e9.2,Ct,Di,Ch,Ci,Cj]<;>(repeat' apply A7)<;>first|rfl|exact⟨_,rfl⟩|exact⟨_,_,rfl⟩|simp [AP,A8]
   ·rw [if_neg e8]at h;have e8f:((J4 Jb AY).2)=false:=KR.mpr e8;obtain⟨e9,h⟩:=Bw h
    obtain rfl:=Option.some.inj h
    simp (maxDischargeDepth:=9) only [↓AQ,AR,Ah,↓reduceIte,bj,bk,bl,bm,bo,bp,br,bt,bw,bx,bO,b0,b3,b4,b5,b6,b7,e2,e3.1,e3.2,e4.1,e4.2,n6_0,n6_1,n6_2,n6_3,n6_4,n6_5,n6_6,n6_7,n6_8,e7.1,e7.2,e8f,e9.1,e9.2,Ct,Di,Ch,Ci,Cj]<;>(repeat' apply A7)<;>first|rfl|exact⟨_,rfl⟩|exact⟨_,_,rfl⟩|simp [AP,A8]
 ·rw [if_neg e2]at h
  obtain rfl:=Option.some.inj h
  simp (maxDischargeDepth:=9) only [↓AQ,AR,Ah,↓reduceIte,bj,bk,bl,bm,bo,bp,br,bt,bw,bx,bO,b0,b3,b4,b5,b6,b7,m0,m1,m2,m3,m4,m5,m6,e2,Ct,Di,Ch,Ci,Cj]<;>(repeat' apply A7)<;>first|rfl|exact⟨_,rfl⟩|exact⟨_,_,rfl⟩|simp [AP,A8]
theorem Kg(A9:Am)(AU:AL)(AC:AL)(Ib:AL){r:AL}(h:Gp A9 AU AC Ib=some r):Y.call 125 [ce [bh 123 (AP (fun x=>bh 125 (Au .i64 .i64 x)) A9),bh 3 (AP (bd .i64) AU),bh 3 (AP (bd .i64) AC)],bh 3 (AP (bd .i64) Ib)] []=some (cd 3 (AP (bd .i64) r),[]):=by
 refine AEZ ?_ rfl;unfold A2L;unfold Gp at h;obtain⟨e1,h⟩:=Bw h;obtain⟨CY,hl3,h⟩:=Ar h;try dsimp only at h
 simp (maxDischargeDepth:=9) only [↓AQ,AR,Ah,↓reduceIte,bj,bk,bl,bm,bo,bp,br,bt,bw,bx,bO,b0,b3,b4,b5,b6,b7,e1.1,e1.2];refine BF (OO A9 AU AC Ib hl3 ?_) ?_
 ·simp (maxDischargeDepth:=9) only [↓AQ,AR,Ah,↓reduceIte,bj,bk,bl,bm,bo,bp,br,bt,bw,bx,bO,b0,b3,b4,b5,b6,b7,e1.1,e1.2,Ct]<;>(repeat' apply A7)<;>first|rfl|exact⟨_,rfl⟩|exact⟨_,_,rfl⟩|simp [AP,A8]
 ·intro ex3 s3 hX3;unfold Di at hX3;obtain⟨rfl,n3_0⟩:=hX3
  obtain rfl:=Option.some.inj h
  simp (maxDischargeDepth:=9) only [↓AQ,AR,Ah,↓reduceIte,bj,bk,bl,bm,bo,bp,br,bt,bw,bx,bO,b0,b3,b4,b5,b6,b7,e1.1,e1.2,n3_0]<;>(repeat' apply A7)<;>first|rfl|exact⟨_,rfl⟩|exact⟨_,_,rfl⟩|simp [AP,A8]
def FY(A9:Am)(AU:AL)(AC:AL)(Ib:AL)(NB:Int)(Nq:Int)(Kh:Int):Option ((Int)⊕(Unit⊕Unit)):= if Kh<((A9.getD NB.toNat be).length:Int)then ck (0≤Kh∧Kh.toNat<(A9.getD NB.toNat be).length)<| ck (0≤Nq∧Nq.toNat<A9.length)<| ck (0≤Kh∧Kh.toNat<(A9.getD Nq.toNat be).length)<| if 0<(Ib.length:Int)then if(CO (A9.getD NB.toNat be) Kh.toNat)=(CO (A9.getD Nq.toNat be) Kh.toNat)then ck (0≤(BJ (A9.getD NB.toNat be) Kh.toNat)∧(BJ (A9.getD NB.toNat be) Kh.toNat).toNat<Ib.length)<| ck (0≤(BJ (A9.getD Nq.toNat be) Kh.toNat)∧(BJ (A9.getD Nq.toNat be) Kh.toNat).toNat<Ib.length)<| if(Ib.getD ((BJ (A9.getD NB.toNat be) Kh.toNat).toNat) be)=(Ib.getD ((BJ (A9.getD Nq.toNat be) Kh.toNat).toNat) be)then some (cb (ca.wrap (Kh+1))) else some (b8 (cb ())) else some (b8 (cb ())) else some (cb (ca.wrap (Kh+1))) else some (b8 (b8 ()))
def JC(A9:Am)(AU:AL)(AC:AL)(Ib:AL)(NB:Int)(Nq:Int)(v:Int):Option (Unit⊕Unit):=Im (fun v=>FY A9 AU AC Ib NB Nq v) v
def M7(A9:Am)(AU:AL)(AC:AL)(Ib:AL)(NB:Int)(Nq:Int):Option (Bool):=
 ck (0≤NB∧NB.toNat<A9.length)<|
 ck (0≤Nq∧Nq.toNat<A9.length)<|
 if((A9.getD NB.toNat be).length:Int)=((A9.getD Nq.toNat be).length:Int)then
  ck (0≤NB∧NB.toNat<AC.length)<|
  ck (0≤Nq∧Nq.toNat<AC.length)<|
  if(AC.getD NB.toNat be)=(AC.getD Nq.toNat be)then
   (JC A9 AU AC Ib NB Nq 0).bind fun AY=>
   match AY with
   | .inl q1000_=>
    some false
   | .inr q1000_=>
    some true
  else
   some false
 else
  some false
abbrev Ki:List Nat:=[57,58,59,60,61,62,63,64,65,66,67,68,69,70,71,72,73,74,75,76,77,78,79]
def Ub:SC:= .seq (.ops [oB 45 .lss 3 (tK 44) (tK 43) 3 0]) (.seq (.cond (tK 45) .skip (.exit 0)) (.seq (.block 1 (.seq (.ops [oM 46 44 3,oI 47 123 42 44,oL 48 125 47 125,oX 10 (.alloc 125) 0,oA 9 46 3,oS 125 10 48]) (.seq (.ops [oF 49 47 4 0,oL 50 45 49 45,oM 51 3 3,oI 52 45 50 51,oL 53 123 52 123,oM 54 9 3,oI 55 123 53 54,oL 56 125 55 125,oX 11 (.alloc 125) 0,oS 125 11 56]) (.seq (.draws [(⟨[57,1,1],Ki,[57]⟩,oM 57 1 26),(⟨[58,57,1],Ki,[58]⟩,oN 58 57 26),(⟨[59,58,58],Ki,[59]⟩,oB 59 .gtr 3 (tK 58) (iK 0) 3 4),(⟨[60,59,59],Ki,[60]⟩,oM 60 59 4),(⟨[61,10,10,60],Ki,[61]⟩,⟨(some 61),(.fieldAddr 125 (tK 10) 1),0,(some (some 60,true))⟩),(⟨[62,61,10,60],Ki,[62]⟩,⟨(some 62),(.load 3 (tK 61)),3,(some (some 60,true))⟩),(⟨[63,11,11,60],Ki,[63]⟩,⟨(some 63),(.fieldAddr 125 (tK 11) 1),0,(some (some 60,true))⟩),(⟨[64,63,11,60],Ki,[64]⟩,⟨(some 64),(.load 3 (tK 63)),3,(some (some 60,true))⟩),(⟨[65,62,64,10,11,60],Ki,[65]⟩,⟨(some 65),(.binOp .neq 3 (tK 62) (tK 64) 3),4,(some (some 60,true))⟩),(⟨[66,65,65,60],Ki,[66]⟩,⟨(some 66),(.move (tK 65)),4,(some (some 60,true))⟩),(⟨[67,1,1,66],Ki,[67]⟩,⟨(some 67),(.move (tK 1)),26,(some (some 66,false))⟩),(⟨[68,10,10,66],Ki,[68]⟩,⟨(some 68),(.fieldAddr 125 (tK 10) 0),0,(some (some 66,false))⟩),
 (⟨[69,68,10,66],Ki,[69]⟩,⟨(some 69),(.load 3 (tK 68)),3,(some (some 66,false))⟩),(⟨[70,67,69,1,10,66],Ki,[70]⟩,⟨(some 70),(.indexAddr 26 (tK 67) (tK 69)),0,(some (some 66,false))⟩),(⟨[71,70,1,66],Ki,[71]⟩,⟨(some 71),(.load 3 (tK 70)),3,(some (some 66,false))⟩),(⟨[72,1,1,66],Ki,[72]⟩,⟨(some 72),(.move (tK 1)),26,(some (some 66,false))⟩),(⟨[73,11,11,66],Ki,[73]⟩,⟨(some 73),(.fieldAddr 125 (tK 11) 0),0,(some (some 66,false))⟩),(⟨[74,73,11,66],Ki,[74]⟩,⟨(some 74),(.load 3 (tK 73)),3,(some (some 66,false))⟩),(⟨[75,72,74,1,11,66],Ki,[75]⟩,⟨(some 75),(.indexAddr 26 (tK 72) (tK 74)),0,(some (some 66,false))⟩),(⟨[76,75,1,66],Ki,[76]⟩,⟨(some 76),(.load 3 (tK 75)),3,(some (some 66,false))⟩),(⟨[77,71,76,1,1,66],Ki,[77]⟩,⟨(some 77),(.binOp .neq 3 (tK 71) (tK 76) 3),4,(some (some 66,false))⟩),(⟨[78,66,77,65,77,60],Ki,[78]⟩,⟨(some 78),(.pick (tK 66) Fw (tK 77)),4,(some (some 60,true))⟩),(⟨[79,60,78,59,78],Ki,[79]⟩,oX 79 (.pick (tK 60) (tK 78) Ou) 4)]) (.cond (tK 79) (.seq (.ops [oX 8 CV 4]) .ret) .skip))))) (.ops [oB 80 .add 3 (tK 44) (iK 1) 3 3,oM 44 80 3])))
def fQ:SC:= .loop Ub
abbrev Jo:List Nat:=[12,13,14,15,16,17,18,19,20,21,22,23,24,25,26,27,28,29,30,31,32,33,34,35,36,37]
def A2M:SC:= .seq (.ops [oX 4 (.box 47 (tK 0)) 0,oX 8 CV 4]) (.seq (.seq (.draws [(⟨[12,4,4],Jo,[12]⟩,oF 12 47 4 0),(⟨[13,12,4],Jo,[13]⟩,oL 13 45 12 45),(⟨[14,2,2],Jo,[14]⟩,oM 14 2 3),(⟨[15,13,14,4,2],Jo,[15]⟩,oI 15 45 13 14),(⟨[16,15,4],Jo,[16]⟩,oL 16 123 15 123),(⟨[17,16,4],Jo,[17]⟩,oN 17 16 123),(⟨[18,4,4],Jo,[18]⟩,oF 18 47 4 0),(⟨[19,18,4],Jo,[19]⟩,oL 19 45 18 45),(⟨[20,3,3],Jo,[20]⟩,oM 20 3 3),(⟨[21,19,20,4,3],Jo,[21]⟩,oI 21 45 19 20),(⟨[22,21,4],Jo,[22]⟩,oL 22 123 21 123),(⟨[23,22,4],Jo,[23]⟩,oN 23 22 123),(⟨[24,17,23,17,23],Jo,[24]⟩,oB 24 .neq 3 (tK 17) (tK 23) 3 4),(⟨[25,24,24],Jo,[25]⟩,oM 25 24 4),(⟨[26,4,4,25],Jo,[26]⟩,⟨(some 26),(.fieldAddr 47 (tK 4) 2),0,(some (some 25,false))⟩),(⟨[27,26,4,25],Jo,[27]⟩,⟨(some 27),(.load 26 (tK 26)),26,(some (some 25,false))⟩),(⟨[28,2,2,25],Jo,[28]⟩,⟨(some 28),(.move (tK 2)),3,(some (some 25,false))⟩),(⟨[29,27,28,4,2,25],Jo,[29]⟩,⟨(some 29),(.indexAddr 26 (tK 27) (tK 28)),0,(some (some 25,false))⟩),(⟨[30,29,4,25],Jo,[30]⟩,⟨(some 30),(.load 3 (tK 29)),3,(some (some 25,false))⟩),(⟨[31,4,4,25],Jo,[31]⟩,⟨(some 31),(.fieldAddr 47 (tK 4) 2),0,(some (some 25,false))⟩),(⟨[32,31,4,25],Jo,[32]⟩,⟨(some 32),(.load 26 (tK 31)),26,(some (some 25,false))⟩),
 (⟨[33,3,3,25],Jo,[33]⟩,⟨(some 33),(.move (tK 3)),3,(some (some 25,false))⟩),(⟨[34,32,33,4,3,25],Jo,[34]⟩,⟨(some 34),(.indexAddr 26 (tK 32) (tK 33)),0,(some (some 25,false))⟩),(⟨[35,34,4,25],Jo,[35]⟩,⟨(some 35),(.load 3 (tK 34)),3,(some (some 25,false))⟩),(⟨[36,30,35,4,4,25],Jo,[36]⟩,⟨(some 36),(.binOp .neq 3 (tK 30) (tK 35) 3),4,(some (some 25,false))⟩),(⟨[37,25,36,24,36],Jo,[37]⟩,oX 37 (.pick (tK 25) Fw (tK 36)) 4)]) (.cond (tK 37) (.seq (.ops [oX 8 CV 4]) .ret) .skip)) (.seq (.seq (.ops [oF 38 47 4 0,oL 39 45 38 45,oM 40 2 3,oI 41 45 39 40,oL 42 123 41 123,oN 43 42 123,oX 44 (.move (iK 0)) 3]) (.block 0 fQ)) (.seq (.ops [oX 8 (.assign Fw) 4]) .ret)))
theorem rf:Try.f150.body.map (Ba lends)=some A2M:=by kernel_rfl
theorem A9E:Bz Try.f150 4=true:=by kernel_rfl
theorem AEa{a l:List D}{r:D×List D}(h:C8 Y.env A2M (Fa Ac l.length [cc 8] r) (entry a l))(ha:a.length=4):Y.call 150 a l=some r:=
 Aa (Y:=Y) rfl Try.func150 (ha▸A9E) rf h
def DR(A9:Am)(AU:AL)(AC:AL)(Ib:AL)(NB:Int)(Nq:Int)(Kh:Int)(s:St):Prop:=s.v 1=bh 3 (AP (bd .i64) Ib)∧s.v 3=bd .i64 Nq∧s.v 4=cg [bh 123 (AP (fun x=>bh 125 (Au .i64 .i64 x)) A9),bh 3 (AP (bd .i64) AU),bh 3 (AP (bd .i64) AC)]∧s.v 42=bh 125 (Au .i64 .i64 (A9.getD NB.toNat be))∧s.v 43=bd .i64 ((A9.getD NB.toNat be).length:Int)∧s.v 44=bd .i64 Kh
def DT(A9:Am)(AU:AL)(AC:AL)(Ib:AL)(NB:Int)(Nq:Int)(r:Unit⊕Unit)(ex:Ex)(s:St):Prop:=match r with
 | .inl q=>ex= .ret∧s.v 8=b9 false
 | .inr q=>ex= .exit 0
theorem Ri(A9:Am)(AU:AL)(AC:AL)(Ib:AL)(NB:Int)(Nq:Int){v:Int}{s:St}{r:Unit⊕Unit}(h:JC A9 AU AC Ib NB Nq v=some r)(hM:DR A9 AU AC Ib NB Nq v s):C8 Y.env fQ (DT A9 AU AC Ib NB Nq r) s:=by
 unfold JC at h;refine BU (c:=Ub) (fun v=>FY A9 AU AC Ib NB Nq v) (fun v s=>DR A9 AU AC Ib NB Nq v s) (DT A9 AU AC Ib NB Nq) ?_ h hM;clear h hM s v r;intro Kh s o hM h;unfold FY at h;unfold DR at hM;obtain⟨m0,m1,m2,m3,m4,m5⟩:=hM;unfold Ub;by_cases e7:Kh<((A9.getD NB.toNat be).length:Int)
 ·rw [if_pos e7]at h;obtain⟨e8,h⟩:=Bw h;obtain⟨e9,h⟩:=Bw h;obtain⟨e10,h⟩:=Bw h;by_cases e11:0<(Ib.length:Int)
  ·rw [if_pos e11]at h;by_cases e12:(CO (A9.getD NB.toNat be) Kh.toNat)=(CO (A9.getD Nq.toNat be) Kh.toNat)
   ·rw [if_pos e12]at h;obtain⟨e13,h⟩:=Bw h;obtain⟨e14,h⟩:=Bw h;by_cases e15:(Ib.getD ((BJ (A9.getD NB.toNat be) Kh.toNat).toNat) be)=(Ib.getD ((BJ (A9.getD Nq.toNat be) Kh.toNat).toNat) be)
    ·rw [if_pos e15]at h
     obtain rfl:=Option.some.inj h
     simp (maxDischargeDepth:=9) only [↓AQ,AR,Ah,↓reduceIte,bj,bk,bl,bm,bo,bp,br,bt,bw,bx,bO,b0,b3,b4,b5,b6,b7,m0,m1,m2,m3,m4,m5,e7,e8.1,e8.2,e9.1,e9.2,e10.1,e10.2,e11,decide_eq_true e12,e13.1,e13.2,e14.1,e14.2,decide_eq_true e15,DR,DT,Ch,Ci,Cj]<;>(repeat' apply A7)<;>first|rfl|exact⟨_,rfl⟩|exact⟨_,_,rfl⟩|simp [AP,A8]
    ·rw [if_neg e15]at h
     obtain rfl:=Option.some.inj h
     simp (maxDischargeDepth:=9) only [↓AQ,AR,Ah,↓reduceIte,bj,bk,bl,bm,bo,bp,br,bt,bw,bx,bO,b0,b3,b4,b5,b6,b7,m0,m1,m2,m3,m4,m5,e7,e8.1,e8.2,e9.1,e9.2,e10.1,e10.2,e11,decide_eq_true e12,e13.1,e13.2,e14.1,e14.2,e15,DR,DT,Ch,Ci,Cj]<;>(repeat' apply A7)<;>first|rfl|exact⟨_,rfl⟩|exact⟨_,_,rfl⟩|simp [AP,A8]
   ·rw [if_neg e12]at h
    obtain rfl:=Option.some.inj h
    simp (maxDischargeDepth:=9) only [↓AQ,AR,Ah,↓reduceIte,bj,bk,bl,bm,bo,bp,br,bt,bw,bx,bO,b0,b3,b4,b5,b6,b7,m0,m1,m2,m3,m4,m5,e7,e8.1,e8.2,e9.1,e9.2,e10.1,e10.2,e11,e12,DR,DT,Ch,Ci,Cj]<;>(repeat' apply A7)<;>first|rfl|exact⟨_,rfl⟩|exact⟨_,_,rfl⟩|simp [AP,A8]
  ·rw [if_neg e11]at h
   obtain rfl:=Option.some.inj h
   simp (maxDischargeDepth:=9) only [↓AQ,AR,Ah,↓reduceIte,bj,bk,bl,bm,bo,bp,br,bt,bw,bx,bO,b0,b3,b4,b5,b6,b7,m0,m1,m2,m3,m4,m5,e7,e8.1,e8.2,e9.1,e9.2,e10.1,e10.2,e11,DR,DT,Ch,Ci,Cj]<;>(repeat' apply A7)<;>first|rfl|exact⟨_,rfl⟩|exact⟨_,_,rfl⟩|simp [AP,A8]
 ·rw [if_neg e7]at h
  obtain rfl:=Option.some.inj h
  simp (maxDischargeDepth:=9) only [↓AQ,AR,Ah,↓reduceIte,bj,bk,bl,bm,bo,bp,br,bt,bw,bx,bO,b0,b3,b4,b5,b6,b7,m0,m1,m2,m3,m4,m5,e7,DR,DT,Ch,Ci,Cj]<;>(repeat' apply A7)<;>first|rfl|exact⟨_,rfl⟩|exact⟨_,_,rfl⟩|simp [AP,A8]
theorem Uc(A9:Am)(AU:AL)(AC:AL)(Ib:AL)(NB:Int)(Nq:Int){r:Bool}(h:M7 A9 AU AC Ib NB Nq=some r):Y.call 150 [ce [bh 123 (AP (fun x=>bh 125 (Au .i64 .i64 x)) A9),bh 3 (AP (bd .i64) AU),bh 3 (AP (bd .i64) AC)],bh 3 (AP (bd .i64) Ib),bd .i64 NB,bd .i64 Nq] []=some (b9 r,[]):=by
 refine AEa ?_ rfl;unfold A2M;unfold M7 at h;obtain⟨e1,h⟩:=Bw h;obtain⟨e2,h⟩:=Bw h;by_cases e3:((A9.getD NB.toNat be).length:Int)=((A9.getD Nq.toNat be).length:Int)
 ·rw [if_pos e3]at h;obtain⟨e4,h⟩:=Bw h;obtain⟨e5,h⟩:=Bw h;by_cases e6:(AC.getD NB.toNat be)=(AC.getD Nq.toNat be)
  ·rw [if_pos e6]at h;obtain⟨AY,hl8,h⟩:=Ar h;try dsimp only at h
   simp (maxDischargeDepth:=9) only [↓AQ,AR,Ah,↓reduceIte,bj,bk,bl,bm,bo,bp,br,bt,bw,bx,bO,b0,b3,b4,b5,b6,b7,e1.1,e1.2,e2.1,e2.2,decide_eq_true e3,e4.1,e4.2,e5.1,e5.2,decide_eq_true e6];refine BF (Ri A9 AU AC Ib NB Nq hl8 ?_) ?_
   ·simp (maxDischargeDepth:=9) only [↓AQ,AR,Ah,↓reduceIte,bj,bk,bl,bm,bo,bp,br,bt,bw,bx,bO,b0,b3,b4,b5,b6,b7,e1.1,e1.2,e2.1,e2.2,decide_eq_true e3,e4.1,e4.2,e5.1,e5.2,decide_eq_true e6,DR]<;>(repeat' apply A7)<;>first|rfl|exact⟨_,rfl⟩|exact⟨_,_,rfl⟩|simp [AP,A8]
   ·intro ex8 s8 hX8;rcases AY with q1000_|q1000_
    ·unfold DT at hX8;dsimp only at hX8 h;obtain⟨rfl,n8_0⟩:=hX8
     obtain rfl:=Option.some.inj h
     simp (maxDischargeDepth:=9) only [↓AQ,AR,Ah,↓reduceIte,bj,bk,bl,bm,bo,bp,br,bt,bw,bx,bO,b0,b3,b4,b5,b6,b7,e1.1,e1.2,e2.1,e2.2,decide_eq_true e3,e4.1,e4.2,e5.1,e5.2,decide_eq_true e6,n8_0]<;>(repeat' apply A7)<;>first|rfl|exact⟨_,rfl⟩|exact⟨_,_,rfl⟩|simp [AP,A8]
    ·unfold DT at hX8;dsimp only at hX8 h
     obtain rfl:=hX8
     obtain rfl:=Option.some.inj h
     simp (maxDischargeDepth:=9) only [↓AQ,AR,Ah,↓reduceIte,bj,bk,bl,bm,bo,bp,br,bt,bw,bx,bO,b0,b3,b4,b5,b6,b7,e1.1,e1.2,e2.1,e2.2,decide_eq_true e3,e4.1,e4.2,e5.1,e5.2,decide_eq_true e6]<;>(repeat' apply A7)<;>first|rfl|exact⟨_,rfl⟩|exact⟨_,_,rfl⟩|simp [AP,A8]
  ·rw [if_neg e6]at h
   obtain rfl:=Option.some.inj h
   simp (maxDischargeDepth:=9) only [↓AQ,AR,Ah,↓reduceIte,bj,bk,bl,bm,bo,bp,br,bt,bw,bx,bO,b0,b3,b4,b5,b6,b7,e1.1,e1.2,e2.1,e2.2,decide_eq_true e3,e4.1,e4.2,e5.1,e5.2,e6]<;>(repeat' apply A7)<;>first|rfl|exact⟨_,rfl⟩|exact⟨_,_,rfl⟩|simp [AP,A8]
 ·rw [if_neg e3]at h
  obtain rfl:=Option.some.inj h
  simp (maxDischargeDepth:=9) only [↓AQ,AR,Ah,↓reduceIte,bj,bk,bl,bm,bo,bp,br,bt,bw,bx,bO,b0,b3,b4,b5,b6,b7,e1.1,e1.2,e2.1,e2.2,e3]<;>(repeat' apply A7)<;>first|rfl|exact⟨_,rfl⟩|exact⟨_,_,rfl⟩|simp [AP,A8]
def Cm(AB:Am)(AO:AL)(AA:AL)(class_:AL)(out:AL)(many:Int)(Hr:Int)(at_:Int)(u:Int):Option ((Int×Int)⊕(Int)):= if u<Hr then if at_<0 then (M7 AB AO AA class_ u Hr).bind fun Kj=> if Kj=true then some (cb (u,ca.wrap (u+1))) else some (cb (at_,ca.wrap (u+1))) else some (b8 at_) else some (b8 at_)
def Ik(AB:Am)(AO:AL)(AA:AL)(class_:AL)(out:AL)(many:Int)(Hr:Int)(v:Int×Int):Option (Int):=Im (fun v=>Cm AB AO AA class_ out many Hr v.1 v.2) v
def Gq(AB:Am)(AO:AL)(AA:AL)(class_:AL)(out:AL)(many:Int)(Hr:Int):Option ((AL×Int×Int)⊕(AL)):= if Hr<(AB.length:Int)then (Ik AB AO AA class_ out many Hr ((-1),0)).bind fun AY=> if 0≤AY then ck (0≤AY∧AY.toNat<out.length)<| ck (0≤Hr∧Hr.toNat<out.length)<| some (cb ((out.set Hr.toNat (out.getD AY.toNat be)),many,ca.wrap (Hr+1))) else ck (0≤Hr∧Hr.toNat<out.length)<| some (cb ((out.set Hr.toNat many),ca.wrap (many+1),ca.wrap (Hr+1))) else some (b8 out)
def Jp(AB:Am)(AO:AL)(AA:AL)(class_:AL)(v:AL×Int×Int):Option (AL):=Im (fun v=>Gq AB AO AA class_ v.1 v.2.1 v.2.2) v
def Kk(AB:Am)(AO:AL)(AA:AL)(class_:AL):Option (AL):= ck (0≤(AB.length:Int)∧(AB.length:Int)<1099511627776)<| (Jp AB AO AA class_ ((ao AB.length 0),0,0)).bind fun CY=> some CY
def Ud:SC:= .seq (.seq (.ops [oM 20 9 3,oM 21 7 3,oB 22 .lss 3 (tK 20) (tK 21) 3 4,oM 23 22 4,⟨(some 24),(.move (tK 8)),3,(some (some 23,true))⟩,⟨(some 25),(.binOp .lss 3 (tK 24) (iK 0) 3),4,(some (some 23,true))⟩,oX 26 (.pick (tK 23) (tK 25) Ou) 4]) (.cond (tK 26) .skip (.exit 2))) (.seq (.block 3 (.seq (.ops [oL 29 47 2 47,oM 30 1 26,oM 31 9 3,oM 32 7 3,oC 33 150 [(tK 29),(tK 30),(tK 31),(tK 32)] [47,26,3,3] 4]) (.cond (tK 33) (.ops [oM 34 9 3,oA 8 34 3]) .skip))) (.ops [oM 27 9 3,oB 28 .add 3 (tK 27) (iK 1) 3 3,oA 9 28 3]))
def fT:SC:= .loop Ud
def Ue:SC:= .seq (.ops [oB 18 .lss 3 (tK 17) (tK 16) 3 0]) (.seq (.cond (tK 18) .skip (.exit 0)) (.seq (.block 1 (.seq (.ops [oM 19 17 3,oA 7 19 3]) (.seq (.ops [oX 8 Ot 3]) (.seq (.seq (.ops [oX 9 (.assign (iK 0)) 3]) (.block 2 fT)) (.seq (.ops [oM 35 8 3,oB 36 .geq 3 (tK 35) (iK 0) 3 4]) (.cond (tK 36) (.ops [oM 37 5 26,oM 38 7 3,oM 39 5 26,oM 40 8 3,oI 41 26 39 40,oL 42 3 41 3,oI 43 26 37 38,oS 3 43 42]) (.seq (.ops [oM 44 5 26,oM 45 7 3,oM 46 6 3,oI 47 26 44 45,oS 3 47 46]) (.ops [oM 48 6 3,oB 49 .add 3 (tK 48) (iK 1) 3 3,oA 6 49 3])))))))) (.ops [oB 50 .add 3 (tK 17) (iK 1) 3 3,oM 17 50 3])))
def fU:SC:= .loop Ue
def A2N:SC:= .seq (.ops [oX 2 (.box 47 (tK 0)) 0,oX 4 OL 26]) (.seq (.ops [oF 10 47 2 0,oL 11 45 10 45,oN 12 11 45,oX 13 (.makeSlice 26 (tK 12) (tK 12)) 26,oA 5 13 26]) (.seq (.ops [oX 6 (.assign (iK 0)) 3]) (.seq (.seq (.ops [oF 14 47 2 0,oL 15 45 14 45,oN 16 15 45,oX 17 (.move (iK 0)) 3]) (.block 0 fU)) (.seq (.ops [oM 51 5 26,oA 4 51 26]) .ret))))
theorem rq:Try.f110.body.map (Ba lends)=some A2N:=by kernel_rfl
theorem A9F:Bz Try.f110 2=true:=by kernel_rfl
theorem AEb{a l:List D}{r:D×List D}(h:C8 Y.env A2N (Fa Ac l.length [cc 4] r) (entry a l))(ha:a.length=2):Y.call 110 a l=some r:=
 Aa (Y:=Y) rfl Try.func110 (ha▸A9F) rq h
def ER(AB:Am)(AO:AL)(AA:AL)(class_:AL)(out:AL)(many:Int)(Hr:Int)(at_:Int)(u:Int)(s:St):Prop:=s.v 1=bh 3 (AP (bd .i64) class_)∧s.v 2=cg [bh 123 (AP (fun x=>bh 125 (Au .i64 .i64 x)) AB),bh 3 (AP (bd .i64) AO),bh 3 (AP (bd .i64) AA)]∧s.v 5=cd 3 (AP (bd .i64) out)∧s.v 6=bd .i64 many∧s.v 7=bd .i64 Hr∧s.v 8=bd .i64 at_∧s.v 9=bd .i64 u∧s.v 16=bd .i64 (AB.length:Int)∧s.v 17=bd .i64 Hr
def FH(AB:Am)(AO:AL)(AA:AL)(class_:AL)(out:AL)(many:Int)(Hr:Int)(r:Int)(ex:Ex)(s:St):Prop:=ex= .exit 2∧s.v 1=bh 3 (AP (bd .i64) class_)∧s.v 2=cg [bh 123 (AP (fun x=>bh 125 (Au .i64 .i64 x)) AB),bh 3 (AP (bd .i64) AO),bh 3 (AP (bd .i64) AA)]∧s.v 5=cd 3 (AP (bd .i64) out)∧s.v 6=bd .i64 many∧s.v 7=bd .i64 Hr∧s.v 8=bd .i64 r∧s.v 16=bd .i64 (AB.length:Int)∧s.v 17=bd .i64 Hr
theorem Uf(AB:Am)(AO:AL)(AA:AL)(class_:AL)(out:AL)(many:Int)(Hr:Int){v:Int×Int}{s:St}{r:Int}(h:Ik AB AO AA class_ out many Hr v=some r)(hM:ER AB AO AA class_ out many Hr v.1 v.2 s):C8 Y.env fT (FH AB AO AA class_ out many Hr r) s:=by
 unfold Ik at h;refine BU (c:=Ud) (fun v=>Cm AB AO AA class_ out many Hr v.1 v.2) (fun v s=>ER AB AO AA class_ out many Hr v.1 v.2 s) (FH AB AO AA class_ out many Hr) ?_ h hM;clear h hM s v r;intro v s o hM h;obtain⟨at_,u⟩:=v;dsimp only at h hM;unfold Cm at h;unfold ER at hM;obtain⟨m0,m1,m2,m3,m4,m5,m6,m7,m8⟩:=hM;unfold Ud;by_cases e3:u<Hr
 ·rw [if_pos e3]at h;by_cases e4:at_<0
  ·rw [if_pos e4]at h;obtain⟨Kj,hl5,h⟩:=Ar h;try dsimp only at h
   have c5:=Uc AB AO AA class_ u Hr hl5;by_cases e6:Kj=true
   ·rw [if_pos e6]at h
    obtain rfl:=Option.some.inj h
    simp (maxDischargeDepth:=9) only [↓AQ,AR,Ah,↓reduceIte,bj,bk,bl,bm,bo,bp,br,bt,bw,bx,bO,b0,b3,b4,b5,b6,b7,m0,m1,m2,m3,m4,m5,m6,m7,m8,e3,e4,c5,e6,ER,FH,Ch,Ci,Cj]<;>(repeat' apply A7)<;>first|rfl|exact⟨_,rfl⟩|exact⟨_,_,rfl⟩|simp [AP,A8]
   ·rw [if_neg e6]at h;have e6f:Kj=false:=KR.mpr e6
    obtain rfl:=Option.some.inj h
    simp (maxDischargeDepth:=9) only [↓AQ,AR,Ah,↓reduceIte,bj,bk,bl,bm,bo,bp,br,bt,bw,bx,bO,b0,b3,b4,b5,b6,b7,m0,m1,m2,m3,m4,m5,m6,m7,m8,e3,e4,c5,e6f,ER,FH,Ch,Ci,Cj]<;>(repeat' apply A7)<;>first|rfl|exact⟨_,rfl⟩|exact⟨_,_,rfl⟩|simp [AP,A8]
  ·rw [if_neg e4]at h
   obtain rfl:=Option.some.inj h
   simp (maxDischargeDepth:=9) only [↓AQ,AR,Ah,↓reduceIte,bj,bk,bl,bm,bo,bp,br,bt,bw,bx,bO,b0,b3,b4,b5,b6,b7,m0,m1,m2,m3,m4,m5,m6,m7,m8,e3,e4,ER,FH,Ch,Ci,Cj]<;>(repeat' apply A7)<;>first|rfl|exact⟨_,rfl⟩|exact⟨_,_,rfl⟩|simp [AP,A8]
 ·rw [if_neg e3]at h
  obtain rfl:=Option.some.inj h
  simp (maxDischargeDepth:=9) only [↓AQ,AR,Ah,↓reduceIte,bj,bk,bl,bm,bo,bp,br,bt,bw,bx,bO,b0,b3,b4,b5,b6,b7,m0,m1,m2,m3,m4,m5,m6,m7,m8,e3,ER,FH,Ch,Ci,Cj]<;>(repeat' apply A7)<;>first|rfl|exact⟨_,rfl⟩|exact⟨_,_,rfl⟩|simp [AP,A8]
def FI(AB:Am)(AO:AL)(AA:AL)(class_:AL)(out:AL)(many:Int)(Hr:Int)(s:St):Prop:=s.v 1=bh 3 (AP (bd .i64) class_)∧s.v 2=cg [bh 123 (AP (fun x=>bh 125 (Au .i64 .i64 x)) AB),bh 3 (AP (bd .i64) AO),bh 3 (AP (bd .i64) AA)]∧s.v 5=cd 3 (AP (bd .i64) out)∧s.v 6=bd .i64 many∧s.v 16=bd .i64 (AB.length:Int)∧s.v 17=bd .i64 Hr
def Gr(AB:Am)(AO:AL)(AA:AL)(class_:AL)(r:AL)(ex:Ex)(s:St):Prop:=ex= .exit 0∧s.v 5=cd 3 (AP (bd .i64) r)
theorem Ug(AB:Am)(AO:AL)(AA:AL)(class_:AL){v:AL×Int×Int}{s:St}{r:AL}(h:Jp AB AO AA class_ v=some r)(hM:FI AB AO AA class_ v.1 v.2.1 v.2.2 s):C8 Y.env fU (Gr AB AO AA class_ r) s:=by
 unfold Jp at h;refine BU (c:=Ue) (fun v=>Gq AB AO AA class_ v.1 v.2.1 v.2.2) (fun v s=>FI AB AO AA class_ v.1 v.2.1 v.2.2 s) (Gr AB AO AA class_) ?_ h hM;clear h hM s v r;intro v s o hM h;obtain⟨out,many,Hr⟩:=v;dsimp only at h hM;unfold Gq at h;unfold FI at hM;obtain⟨m0,m1,m2,m3,m4,m5⟩:=hM;unfold Ue;by_cases e2:Hr<(AB.length:Int)
 ·rw [if_pos e2]at h;obtain⟨AY,hl4,h⟩:=Ar h;try dsimp only at h
  simp (maxDischargeDepth:=9) only [↓AQ,AR,Ah,↓reduceIte,bj,bk,bl,bm,bo,bp,br,bt,bw,bx,bO,b0,b3,b4,b5,b6,b7,m0,m1,m2,m3,m4,m5,e2];refine BF (Uf AB AO AA class_ out many Hr hl4 ?_) ?_
  ·simp (maxDischargeDepth:=9) only [↓AQ,AR,Ah,↓reduceIte,bj,bk,bl,bm,bo,bp,br,bt,bw,bx,bO,b0,b3,b4,b5,b6,b7,m0,m1,m2,m3,m4,m5,e2,ER]<;>(repeat' apply A7)<;>first|rfl|exact⟨_,rfl⟩|exact⟨_,_,rfl⟩|simp [AP,A8]
  ·intro ex4 s4 hX4;unfold FH at hX4;obtain⟨rfl,n4_0,n4_1,n4_2,n4_3,n4_4,n4_5,n4_6,n4_7⟩:=hX4;by_cases e5:0≤AY
   ·rw [if_pos e5]at h;obtain⟨e6,h⟩:=Bw h;obtain⟨e7,h⟩:=Bw h
    obtain rfl:=Option.some.inj h
    simp (maxDischargeDepth:=9) only [↓AQ,AR,Ah,↓reduceIte,bj,bk,bl,bm,bo,bp,br,bt,bw,bx,bO,b0,b3,b4,b5,b6,b7,e2,n4_0,n4_1,n4_2,n4_3,n4_4,n4_5,n4_6,n4_7,e5,e6.1,e6.2,e7.1,e7.2,FI,Gr,Ch,Ci,Cj]<;>(repeat' apply A7)<;>first|rfl|exact⟨_,rfl⟩|exact⟨_,_,rfl⟩|simp [AP,A8]
   ·rw [if_neg e5]at h;obtain⟨e6,h⟩:=Bw h
    obtain rfl:=Option.some.inj h
    simp (maxDischargeDepth:=9) only [↓AQ,AR,Ah,↓reduceIte,bj,bk,bl,bm,bo,bp,br,bt,bw,bx,bO,b0,b3,b4,b5,b6,b7,e2,n4_0,n4_1,n4_2,n4_3,n4_4,n4_5,n4_6,n4_7,e5,e6.1,e6.2,FI,Gr,Ch,Ci,Cj]<;>(repeat' apply A7)<;>first|rfl|exact⟨_,rfl⟩|exact⟨_,_,rfl⟩|simp [AP,A8]
 ·rw [if_neg e2]at h
  obtain rfl:=Option.some.inj h
  simp (maxDischargeDepth:=9) only [↓AQ,AR,Ah,↓reduceIte,bj,bk,bl,bm,bo,bp,br,bt,bw,bx,bO,b0,b3,b4,b5,b6,b7,m0,m1,m2,m3,m4,m5,e2,FI,Gr,Ch,Ci,Cj]<;>(repeat' apply A7)<;>first|rfl|exact⟨_,rfl⟩|exact⟨_,_,rfl⟩|simp [AP,A8]
theorem Ld(AB:Am)(AO:AL)(AA:AL)(class_:AL){r:AL}(h:Kk AB AO AA class_=some r):Y.call 110 [ce [bh 123 (AP (fun x=>bh 125 (Au .i64 .i64 x)) AB),bh 3 (AP (bd .i64) AO),bh 3 (AP (bd .i64) AA)],bh 3 (AP (bd .i64) class_)] []=some (cd 3 (AP (bd .i64) r),[]):=by
 refine AEb ?_ rfl;unfold A2N;unfold Kk at h;obtain⟨e1,h⟩:=Bw h;obtain⟨CY,hl3,h⟩:=Ar h;try dsimp only at h
 simp (maxDischargeDepth:=9) only [↓AQ,AR,Ah,↓reduceIte,bj,bk,bl,bm,bo,bp,br,bt,bw,bx,bO,b0,b3,b4,b5,b6,b7,e1.1,e1.2];refine BF (Ug AB AO AA class_ hl3 ?_) ?_
 ·simp (maxDischargeDepth:=9) only [↓AQ,AR,Ah,↓reduceIte,bj,bk,bl,bm,bo,bp,br,bt,bw,bx,bO,b0,b3,b4,b5,b6,b7,e1.1,e1.2,FI]<;>(repeat' apply A7)<;>first|rfl|exact⟨_,rfl⟩|exact⟨_,_,rfl⟩|simp [AP,A8]
 ·intro ex3 s3 hX3;unfold Gr at hX3;obtain⟨rfl,n3_0⟩:=hX3
  obtain rfl:=Option.some.inj h
  simp (maxDischargeDepth:=9) only [↓AQ,AR,Ah,↓reduceIte,bj,bk,bl,bm,bo,bp,br,bt,bw,bx,bO,b0,b3,b4,b5,b6,b7,e1.1,e1.2,n3_0]<;>(repeat' apply A7)<;>first|rfl|exact⟨_,rfl⟩|exact⟨_,_,rfl⟩|simp [AP,A8]
def EX(AB:Am)(AO:AL)(AA:AL)(t_1:Int)(class_:AL):Option ((Int×AL)⊕(AL)):= if 0<t_1 then (Kk AB AO AA class_).bind fun Ip=> some (cb (ca.wrap (t_1-1),Ip)) else some (b8 class_)
def Ht(AB:Am)(AO:AL)(AA:AL)(v:Int×AL):Option (AL):=Im (fun v=>EX AB AO AA v.1 v.2) v
def Fp(AB:Am)(AO:AL)(AA:AL)(t_:Int):Option (AL):= (Kk AB AO AA []).bind fun nA=> (Ht AB AO AA (t_,nA)).bind fun AY=> some AY
def Xt:SC:= .seq (.seq (.ops [oM 8 1 3,oB 9 .gtr 3 (tK 8) (iK 0) 3 4]) (.cond (tK 9) .skip (.exit 0))) (.seq (.block 1 (.ops [oL 12 47 2 47,oM 13 5 26,oC 14 110 [(tK 12),(tK 13)] [47,26] 26,oA 5 14 26])) (.ops [oM 10 1 3,oB 11 .sub 3 (tK 10) (iK 1) 3 3,oA 1 11 3]))
def nZ:SC:= .loop Xt
def k64:SC:= .seq (.ops [oX 2 (.box 47 (tK 0)) 0,oX 4 OL 26]) (.seq (.ops [oL 6 47 2 47,oC 7 110 [(tK 6),mh] [47,26] 26,oA 5 7 26]) (.seq (.block 0 nZ) (.seq (.ops [oM 15 5 26,oA 4 15 26]) .ret)))
theorem A2O:Try.f64.body.map (Ba lends)=some k64:=by kernel_rfl
theorem AEd:Bz Try.f64 2=true:=by kernel_rfl
theorem c64{a l:List D}{r:D×List D}(h:C8 Y.env k64 (Fa Ac l.length [cc 4] r) (entry a l))(ha:a.length=2):Y.call 64 a l=some r:=
 Aa (Y:=Y) rfl Try.func64 (ha▸AEd) A2O h
def EY(AB:Am)(AO:AL)(AA:AL)(t_1:Int)(class_:AL)(s:St):Prop:=s.v 1=bd .i64 t_1∧s.v 2=cg [bh 123 (AP (fun x=>bh 125 (Au .i64 .i64 x)) AB),bh 3 (AP (bd .i64) AO),bh 3 (AP (bd .i64) AA)]∧s.v 5=cd 3 (AP (bd .i64) class_)
def FZ(AB:Am)(AO:AL)(AA:AL)(r:AL)(ex:Ex)(s:St):Prop:=ex= .exit 0∧s.v 5=cd 3 (AP (bd .i64) r)
theorem Q4(AB:Am)(AO:AL)(AA:AL){v:Int×AL}{s:St}{r:AL}(h:Ht AB AO AA v=some r)(hM:EY AB AO AA v.1 v.2 s):C8 Y.env nZ (FZ AB AO AA r) s:=by
 unfold Ht at h;refine BU (c:=Xt) (fun v=>EX AB AO AA v.1 v.2) (fun v s=>EY AB AO AA v.1 v.2 s) (FZ AB AO AA) ?_ h hM;clear h hM s v r;intro v s o hM h;obtain⟨t_1,class_⟩:=v;dsimp only at h hM;unfold EX at h;unfold EY at hM;obtain⟨m0,m1,m2⟩:=hM;unfold Xt;by_cases e2:0<t_1
 ·rw [if_pos e2]at h;obtain⟨Ip,hl3,h⟩:=Ar h;try dsimp only at h
  have c3:=Ld AB AO AA class_ hl3
  obtain rfl:=Option.some.inj h
  simp (maxDischargeDepth:=9) only [↓AQ,AR,Ah,↓reduceIte,bj,bk,bl,bm,bo,bp,br,bt,bw,bx,bO,b0,b3,b4,b5,b6,b7,m0,m1,m2,e2,c3,EY,FZ,Ch,Ci,Cj]<;>(repeat' apply A7)<;>first|rfl|exact⟨_,rfl⟩|exact⟨_,_,rfl⟩|simp [AP,A8]
 ·rw [if_neg e2]at h
  obtain rfl:=Option.some.inj h
  simp (maxDischargeDepth:=9) only [↓AQ,AR,Ah,↓reduceIte,bj,bk,bl,bm,bo,bp,br,bt,bw,bx,bO,b0,b3,b4,b5,b6,b7,m0,m1,m2,e2,EY,FZ,Ch,Ci,Cj]<;>(repeat' apply A7)<;>first|rfl|exact⟨_,rfl⟩|exact⟨_,_,rfl⟩|simp [AP,A8]
theorem Jc(AB:Am)(AO:AL)(AA:AL)(t_:Int){r:AL}(h:Fp AB AO AA t_=some r):Y.call 64 [ce [bh 123 (AP (fun x=>bh 125 (Au .i64 .i64 x)) AB),bh 3 (AP (bd .i64) AO),bh 3 (AP (bd .i64) AA)],bd .i64 t_] []=some (cd 3 (AP (bd .i64) r),[]):=by
 refine c64 ?_ rfl;unfold k64;unfold Fp at h;obtain⟨nA,hl1,h⟩:=Ar h;try dsimp only at h
 have c1:=Ld AB AO AA [] hl1;simp only [Jj,qX,Lx,XJ,V3,QG,V4]at c1;obtain⟨AY,hl3,h⟩:=Ar h;try dsimp only at h
 simp (maxDischargeDepth:=9) only [↓AQ,AR,Ah,↓reduceIte,bj,bk,bl,bm,bo,bp,br,bt,bw,bx,bO,b0,b3,b4,b5,b6,b7,c1];refine BF (Q4 AB AO AA hl3 ?_) ?_
 ·simp (maxDischargeDepth:=9) only [↓AQ,AR,Ah,↓reduceIte,bj,bk,bl,bm,bo,bp,br,bt,bw,bx,bO,b0,b3,b4,b5,b6,b7,c1,EY]<;>(repeat' apply A7)<;>first|rfl|exact⟨_,rfl⟩|exact⟨_,_,rfl⟩|simp [AP,A8]
 ·intro ex3 s3 hX3;unfold FZ at hX3;obtain⟨rfl,n3_0⟩:=hX3
  obtain rfl:=Option.some.inj h
  simp (maxDischargeDepth:=9) only [↓AQ,AR,Ah,↓reduceIte,bj,bk,bl,bm,bo,bp,br,bt,bw,bx,bO,b0,b3,b4,b5,b6,b7,c1,n3_0]<;>(repeat' apply A7)<;>first|rfl|exact⟨_,rfl⟩|exact⟨_,_,rfl⟩|simp [AP,A8]
def Be(x_:AL)(m_:Int)(i:Int):Option ((Int×Int)⊕(Int)):= if i<(x_.length:Int)then ck (0≤i∧i.toNat<x_.length)<| some (cb ((SL m_ (x_.getD i.toNat be)),ca.wrap (i+1))) else some (b8 m_)
def Cn(x_:AL)(v:Int×Int):Option (Int):=Im (fun v=>Be x_ v.1 v.2) v
def El(x_:AL):Option (Int):= if(x_.length:Int)<1 then none else ck (0<x_.length)<| (Cn x_ ((x_.getD 0 be),1)).bind fun AY=> some AY
def Uh:SC:= .seq (.seq (.ops [oM 12 4 3,oM 13 0 26,oN 14 13 26,oB 15 .lss 3 (tK 12) (tK 14) 3 4]) (.cond (tK 15) .skip (.exit 0))) (.seq (.block 1 (.ops [oM 18 3 3,oM 19 0 26,oM 20 4 3,oI 21 26 19 20,oL 22 3 21 3,oX 23 (.call ⟨(.builtin .max), #[(tK 18),(tK 22)], #[3,3]⟩) 3,oA 3 23 3])) (.ops [oM 16 4 3,oB 17 .add 3 (tK 16) (iK 1) 3 3,oA 4 17 3]))
def fV:SC:= .loop Uh
def A2P:SC:= .seq (.ops [oX 2 (.assign (iK 0)) 3]) (.seq (.seq (.ops [oM 5 0 26,oN 6 5 26,oB 7 .lss 3 (tK 6) (iK 1) 3 4]) (.cond (tK 7) (.ops [oX 8 (.makeInterface 9 (.const (.string {data:= #[115,108,105,99,101,115,46,77,97,120,58,32,101,109,112,116,121,32,108,105,115,116]}))) 20,⟨none,(.panic (tK 8)),0,none⟩]) .skip)) (.seq (.ops [oM 9 0 26,oX 10 (.indexAddr 26 (tK 9) (iK 0)) 0,oL 11 3 10 3,oA 3 11 3]) (.seq (.seq (.ops [oX 4 (.assign (iK 1)) 3]) (.block 0 fV)) (.seq (.ops [oM 24 3 3,oA 2 24 3]) .ret))))
theorem ru:Try.f157.body.map (Ba lends)=some A2P:=by kernel_rfl
theorem A9G:Bz Try.f157 1=true:=by kernel_rfl
theorem AEe{a l:List D}{r:D×List D}(h:C8 Y.env A2P (Fa Ac l.length [cc 2] r) (entry a l))(ha:a.length=1):Y.call 157 a l=some r:=
 Aa (Y:=Y) rfl Try.func157 (ha▸A9G) ru h
def Bf(x_:AL)(m_:Int)(i:Int)(s:St):Prop:=s.v 0=bh 3 (AP (bd .i64) x_)∧s.v 3=bd .i64 m_∧s.v 4=bd .i64 i
def CS(x_:AL)(r:Int)(ex:Ex)(s:St):Prop:=ex= .exit 0∧s.v 3=bd .i64 r
theorem KG(x_:AL){v:Int×Int}{s:St}{r:Int}(h:Cn x_ v=some r)(hM:Bf x_ v.1 v.2 s):C8 Y.env fV (CS x_ r) s:=by
 unfold Cn at h;refine BU (c:=Uh) (fun v=>Be x_ v.1 v.2) (fun v s=>Bf x_ v.1 v.2 s) (CS x_) ?_ h hM;clear h hM s v r;intro v s o hM h;obtain⟨m_,i⟩:=v;dsimp only at h hM;unfold Be at h;unfold Bf at hM;obtain⟨m0,m1,m2⟩:=hM;unfold Uh;by_cases e3:i<(x_.length:Int)
 ·rw [if_pos e3]at h;obtain⟨e4,h⟩:=Bw h
  obtain rfl:=Option.some.inj h
  simp (maxDischargeDepth:=9) only [↓AQ,AR,Ah,↓reduceIte,bj,bk,bl,bm,bo,bp,br,bt,bw,bx,bO,b0,b3,b4,b5,b6,b7,m0,m1,m2,e3,e4.1,e4.2,Bf,CS,Ch,Ci,Cj]<;>(repeat' apply A7)<;>first|rfl|exact⟨_,rfl⟩|exact⟨_,_,rfl⟩|simp [AP,A8]
 ·rw [if_neg e3]at h
  obtain rfl:=Option.some.inj h
  simp (maxDischargeDepth:=9) only [↓AQ,AR,Ah,↓reduceIte,bj,bk,bl,bm,bo,bp,br,bt,bw,bx,bO,b0,b3,b4,b5,b6,b7,m0,m1,m2,e3,Bf,CS,Ch,Ci,Cj]<;>(repeat' apply A7)<;>first|rfl|exact⟨_,rfl⟩|exact⟨_,_,rfl⟩|simp [AP,A8]
theorem Kl(x_:AL){r:Int}(h:El x_=some r):Y.call 157 [bh 3 (AP (bd .i64) x_)] []=some (bd .i64 r,[]):=by
 refine AEe ?_ rfl;unfold A2P;unfold El at h;by_cases e1:(x_.length:Int)<1
 ·rw [if_pos e1]at h;cases h
 ·rw [if_neg e1]at h;obtain⟨e2,h⟩:=Bw h;obtain⟨AY,hl4,h⟩:=Ar h;try dsimp only at h
  simp (maxDischargeDepth:=9) only [↓AQ,AR,Ah,↓reduceIte,bj,bk,bl,bm,bo,bp,br,bt,bw,bx,bO,b0,b3,b4,b5,b6,b7,e1,e2];refine BF (KG x_ hl4 ?_) ?_
  ·simp (maxDischargeDepth:=9) only [↓AQ,AR,Ah,↓reduceIte,bj,bk,bl,bm,bo,bp,br,bt,bw,bx,bO,b0,b3,b4,b5,b6,b7,e1,e2,Bf]<;>(repeat' apply A7)<;>first|rfl|exact⟨_,rfl⟩|exact⟨_,_,rfl⟩|simp [AP,A8]
  ·intro ex4 s4 hX4;unfold CS at hX4;obtain⟨rfl,n4_0⟩:=hX4
   obtain rfl:=Option.some.inj h
   simp (maxDischargeDepth:=9) only [↓AQ,AR,Ah,↓reduceIte,bj,bk,bl,bm,bo,bp,br,bt,bw,bx,bO,b0,b3,b4,b5,b6,b7,e1,e2,n4_0]<;>(repeat' apply A7)<;>first|rfl|exact⟨_,rfl⟩|exact⟨_,_,rfl⟩|simp [AP,A8]
def Ey(class_:AL):Option (Int):= (El class_).bind fun r4_=> some (ca.wrap (r4_+1))
def A2Q:SC:= .seq (.ops [oX 2 (.assign (iK 0)) 3]) (.seq (.ops [oM 3 0 26,oC 4 157 [(tK 3)] [26] 3,oB 5 .add 3 (tK 4) (iK 1) 3 3,oA 2 5 3]) .ret)
theorem ry:Try.f122.body.map (Ba lends)=some A2Q:=by kernel_rfl
theorem A9H:Bz Try.f122 1=true:=by kernel_rfl
theorem AEf{a l:List D}{r:D×List D}(h:C8 Y.env A2Q (Fa Ac l.length [cc 2] r) (entry a l))(ha:a.length=1):Y.call 122 a l=some r:=
 Aa (Y:=Y) rfl Try.func122 (ha▸A9H) ry h
theorem JD(class_:AL){r:Int}(h:Ey class_=some r):Y.call 122 [bh 3 (AP (bd .i64) class_)] []=some (bd .i64 r,[]):=by
 refine AEf ?_ rfl;unfold A2Q;unfold Ey at h;obtain⟨r4_,hl1,h⟩:=Ar h;try dsimp only at h
 have c1:=Kl class_ hl1
 obtain rfl:=Option.some.inj h
 simp (maxDischargeDepth:=9) only [↓AQ,AR,Ah,↓reduceIte,bj,bk,bl,bm,bo,bp,br,bt,bw,bx,bO,b0,b3,b4,b5,b6,b7,c1]<;>(repeat' apply A7)<;>first|rfl|exact⟨_,rfl⟩|exact⟨_,_,rfl⟩|simp [AP,A8]
def Gs(AB:Am)(AO:AL)(AA:AL)(class_:AL)(t_:Int):Option ((AL×Int)⊕(Int×AL)):= (Gp AB AO AA class_).bind fun rz=> (Ey rz).bind fun Xu=> (Ey class_).bind fun Zh=> if Xu=Zh then some (b8 (t_,class_)) else some (cb (rz,ca.wrap (t_+1)))
def Jq(AB:Am)(AO:AL)(AA:AL)(v:AL×Int):Option (Int×AL):=Im (fun v=>Gs AB AO AA v.1 v.2) v
def Nr(AB:Am)(AO:AL)(AA:AL):Option (Int×AL):= (EA AB AO AA).bind fun r8_=> (Jq AB AO AA (r8_,0)).bind fun AY=> some (AY.1,AY.2)
def Xv:SC:= .seq (.block 1 (.seq (.ops [oL 11 47 1 47,oM 12 4 26,oC 13 125 [(tK 11),(tK 12)] [47,26] 26,oA 6 13 26]) (.seq (.seq (.ops [oM 14 6 26,oC 15 122 [(tK 14)] [26] 3,oM 16 4 26,oC 17 122 [(tK 16)] [26] 3,oB 18 .eql 3 (tK 15) (tK 17) 3 4]) (.cond (tK 18) (.seq (.ops [oM 19 5 3,oM 20 4 26,oA 2 19 3,oA 3 20 26]) .ret) .skip)) (.ops [oM 21 6 26,oA 4 21 26])))) (.ops [oM 9 5 3,oB 10 .add 3 (tK 9) (iK 1) 3 3,oA 5 10 3])
def ng:SC:= .loop Xv
def k78:SC:= .seq (.ops [oX 1 (.box 47 (tK 0)) 0,oX 2 (.assign (iK 0)) 3,oX 3 OL 26]) (.seq (.ops [oL 7 47 1 47,oC 8 125 [(tK 7),mh] [47,26] 900013,oA 4 8 26]) (.seq (.ops [oX 5 (.assign (iK 0)) 3]) (.block 0 ng)))
theorem A2R:Try.f78.body.map (Ba lends)=some k78:=by kernel_rfl
theorem AEh:Bz Try.f78 1=true:=by kernel_rfl
theorem c78{a l:List D}{r:D×List D}(h:C8 Y.env k78 (Fa Ac l.length [cc 2,cc 3] r) (entry a l))(ha:a.length=1):Y.call 78 a l=some r:=
 Aa (Y:=Y) rfl Try.func78 (ha▸AEh) A2R h
def Gt(AB:Am)(AO:AL)(AA:AL)(class_:AL)(t_:Int)(s:St):Prop:=s.v 1=cg [bh 123 (AP (fun x=>bh 125 (Au .i64 .i64 x)) AB),bh 3 (AP (bd .i64) AO),bh 3 (AP (bd .i64) AA)]∧s.v 4=cd 3 (AP (bd .i64) class_)∧s.v 5=bd .i64 t_
def IV(AB:Am)(AO:AL)(AA:AL)(r:Int×AL)(ex:Ex)(s:St):Prop:=ex= .ret∧s.v 2=bd .i64 r.1∧s.v 3=cd 3 (AP (bd .i64) r.2)
theorem Ui(AB:Am)(AO:AL)(AA:AL){v:AL×Int}{s:St}{r:Int×AL}(h:Jq AB AO AA v=some r)(hM:Gt AB AO AA v.1 v.2 s):C8 Y.env ng (IV AB AO AA r) s:=by
 unfold Jq at h;refine BU (c:=Xv) (fun v=>Gs AB AO AA v.1 v.2) (fun v s=>Gt AB AO AA v.1 v.2 s) (IV AB AO AA) ?_ h hM;clear h hM s v r;intro v s o hM h;obtain⟨class_,t_⟩:=v;dsimp only at h hM;unfold Gs at h;unfold Gt at hM;obtain⟨m0,m1,m2⟩:=hM;unfold Xv;obtain⟨rz,hl2,h⟩:=Ar h;try dsimp only at h
 have c2:=Kg AB AO AA class_ hl2;obtain⟨Xu,hl3,h⟩:=Ar h;try dsimp only at h
 have c3:=JD rz hl3;obtain⟨Zh,hl4,h⟩:=Ar h;try dsimp only at h
 have c4:=JD class_ hl4;by_cases e5:Xu=Zh
 ·rw [if_pos e5]at h
  obtain rfl:=Option.some.inj h
  simp (maxDischargeDepth:=9) only [↓AQ,AR,Ah,↓reduceIte,bj,bk,bl,bm,bo,bp,br,bt,bw,bx,bO,b0,b3,b4,b5,b6,b7,m0,m1,m2,c2,c3,c4,decide_eq_true e5,Gt,IV,Ch,Ci,Cj]<;>(repeat' apply A7)<;>first|rfl|exact⟨_,rfl⟩|exact⟨_,_,rfl⟩|simp [AP,A8]
 ·rw [if_neg e5]at h
  obtain rfl:=Option.some.inj h
  simp (maxDischargeDepth:=9) only [↓AQ,AR,Ah,↓reduceIte,bj,bk,bl,bm,bo,bp,br,bt,bw,bx,bO,b0,b3,b4,b5,b6,b7,m0,m1,m2,c2,c3,c4,e5,Gt,IV,Ch,Ci,Cj]<;>(repeat' apply A7)<;>first|rfl|exact⟨_,rfl⟩|exact⟨_,_,rfl⟩|simp [AP,A8]
theorem Vg(AB:Am)(AO:AL)(AA:AL){r:Int×AL}(h:Nr AB AO AA=some r):Y.call 78 [ce [bh 123 (AP (fun x=>bh 125 (Au .i64 .i64 x)) AB),bh 3 (AP (bd .i64) AO),bh 3 (AP (bd .i64) AA)]] []=some (D.tup [bd .i64 r.1,cd 3 (AP (bd .i64) r.2)],[]):=by
 refine c78 ?_ rfl;unfold k78;unfold Nr at h;obtain⟨r8_,hl1,h⟩:=Ar h;try dsimp only at h
 have c1:=JB AB AO AA hl1;obtain⟨AY,hl6,h⟩:=Ar h;try dsimp only at h
 simp (maxDischargeDepth:=9) only [↓AQ,AR,Ah,↓reduceIte,bj,bk,bl,bm,bo,bp,br,bt,bw,bx,bO,b0,b3,b4,b5,b6,b7,c1];refine BF (Ui AB AO AA hl6 ?_) ?_
 ·simp (maxDischargeDepth:=9) only [↓AQ,AR,Ah,↓reduceIte,bj,bk,bl,bm,bo,bp,br,bt,bw,bx,bO,b0,b3,b4,b5,b6,b7,c1,Gt]<;>(repeat' apply A7)<;>first|rfl|exact⟨_,rfl⟩|exact⟨_,_,rfl⟩|simp [AP,A8]
 ·intro ex6 s6 hX6;unfold IV at hX6;obtain⟨rfl,n6_0,n6_1⟩:=hX6
  obtain rfl:=Option.some.inj h
  simp (maxDischargeDepth:=9) only [↓AQ,AR,Ah,↓reduceIte,bj,bk,bl,bm,bo,bp,br,bt,bw,bx,bO,b0,b3,b4,b5,b6,b7,c1,n6_0,n6_1]<;>(repeat' apply A7)<;>first|rfl|exact⟨_,rfl⟩|exact⟨_,_,rfl⟩|simp [AP,A8]
def Q5(a:Int)(b:Int):Option (Int):= if b<a then some a else some b
def A2S:SC:= .seq (.ops [oX 4 (.assign (iK 0)) 3]) (.seq (.seq (.ops [oM 5 0 3,oM 6 1 3,oB 7 .gtr 3 (tK 5) (tK 6) 3 4]) (.cond (tK 7) (.seq (.ops [oM 8 0 3,oA 4 8 3]) .ret) .skip)) (.seq (.ops [oM 9 1 3,oA 4 9 3]) .ret))
theorem sD:Try.f176.body.map (Ba lends)=some A2S:=by kernel_rfl
theorem A9I:Bz Try.f176 2=true:=by kernel_rfl
theorem AEi{a l:List D}{r:D×List D}(h:C8 Y.env A2S (Fa Ac l.length [cc 4] r) (entry a l))(ha:a.length=2):Y.call 176 a l=some r:=
 Aa (Y:=Y) rfl Try.func176 (ha▸A9I) sD h
theorem Vh(a:Int)(b:Int){r:Int}(h:Q5 a b=some r):Y.call 176 [bd .i64 a,bd .i64 b] []=some (bd .i64 r,[]):=by
 refine AEi ?_ rfl;unfold A2S;unfold Q5 at h;by_cases e1:b<a
 ·rw [if_pos e1]at h
  obtain rfl:=Option.some.inj h
  simp (maxDischargeDepth:=9) only [↓AQ,AR,Ah,↓reduceIte,bj,bk,bl,bm,bo,bp,br,bt,bw,bx,bO,b0,b3,b4,b5,b6,b7,e1]<;>(repeat' apply A7)<;>first|rfl|exact⟨_,rfl⟩|exact⟨_,_,rfl⟩|simp [AP,A8]
 ·rw [if_neg e1]at h
  obtain rfl:=Option.some.inj h
  simp (maxDischargeDepth:=9) only [↓AQ,AR,Ah,↓reduceIte,bj,bk,bl,bm,bo,bp,br,bt,bw,bx,bO,b0,b3,b4,b5,b6,b7,e1]<;>(repeat' apply A7)<;>first|rfl|exact⟨_,rfl⟩|exact⟨_,_,rfl⟩|simp [AP,A8]
def Gu(class_:AL)(n_:Int)(FK:Int):Option ((Int×Int)⊕(Int)):= if FK<(class_.length:Int)then ck (0≤FK∧FK.toNat<class_.length)<| (Q5 n_ (ca.wrap ((class_.getD FK.toNat be)+1))).bind fun Xu=> some (cb (Xu,ca.wrap (FK+1))) else some (b8 n_)
def Jr(class_:AL)(v:Int×Int):Option (Int):=Im (fun v=>Gu class_ v.1 v.2) v
def Km(class_:AL):Option (Int):= (Jr class_ (0,0)).bind fun AY=> some AY
def Uj:SC:= .seq (.ops [oB 9 .lss 3 (tK 8) (tK 7) 3 0]) (.seq (.cond (tK 9) .skip (.exit 0)) (.seq (.block 1 (.seq (.ops [oI 10 26 6 8,oL 11 3 10 3,oA 5 11 3]) (.ops [oM 12 3 3,oM 13 5 3,oB 14 .add 3 (tK 13) (iK 1) 3 3,oC 15 176 [(tK 12),(tK 14)] [3,3] 3,oA 3 15 3]))) (.ops [oB 16 .add 3 (tK 8) (iK 1) 3 3,oM 8 16 3])))
def fZ:SC:= .loop Uj
def A2T:SC:= .seq (.ops [oX 2 (.assign (iK 0)) 3]) (.seq (.ops [oX 3 (.assign (iK 0)) 3]) (.seq (.seq (.ops [oM 6 0 26,oN 7 6 26,oX 8 (.move (iK 0)) 3]) (.block 0 fZ)) (.seq (.ops [oM 17 3 3,oA 2 17 3]) .ret)))
theorem sG:Try.f159.body.map (Ba lends)=some A2T:=by kernel_rfl
theorem A9J:Bz Try.f159 1=true:=by kernel_rfl
theorem AEj{a l:List D}{r:D×List D}(h:C8 Y.env A2T (Fa Ac l.length [cc 2] r) (entry a l))(ha:a.length=1):Y.call 159 a l=some r:=
 Aa (Y:=Y) rfl Try.func159 (ha▸A9J) sG h
def Gv(class_:AL)(n_:Int)(FK:Int)(s:St):Prop:=s.v 3=bd .i64 n_∧s.v 6=bh 3 (AP (bd .i64) class_)∧s.v 7=bd .i64 (class_.length:Int)∧s.v 8=bd .i64 FK
def IW(class_:AL)(r:Int)(ex:Ex)(s:St):Prop:=ex= .exit 0∧s.v 3=bd .i64 r
theorem Uk(class_:AL){v:Int×Int}{s:St}{r:Int}(h:Jr class_ v=some r)(hM:Gv class_ v.1 v.2 s):C8 Y.env fZ (IW class_ r) s:=by
 unfold Jr at h;refine BU (c:=Uj) (fun v=>Gu class_ v.1 v.2) (fun v s=>Gv class_ v.1 v.2 s) (IW class_) ?_ h hM;clear h hM s v r;intro v s o hM h;obtain⟨n_,FK⟩:=v;dsimp only at h hM;unfold Gu at h;unfold Gv at hM;obtain⟨m0,m1,m2,m3⟩:=hM;unfold Uj;by_cases e1:FK<(class_.length:Int)
 ·rw [if_pos e1]at h;obtain⟨e2,h⟩:=Bw h;obtain⟨Xu,hl3,h⟩:=Ar h;try dsimp only at h
  have c3:=Vh n_ (ca.wrap ((class_.getD FK.toNat be)+1)) hl3
  obtain rfl:=Option.some.inj h
  simp (maxDischargeDepth:=9) only [↓AQ,AR,Ah,↓reduceIte,bj,bk,bl,bm,bo,bp,br,bt,bw,bx,bO,b0,b3,b4,b5,b6,b7,m0,m1,m2,m3,e1,e2.1,e2.2,c3,Gv,IW,Ch,Ci,Cj]<;>(repeat' apply A7)<;>first|rfl|exact⟨_,rfl⟩|exact⟨_,_,rfl⟩|simp [AP,A8]
 ·rw [if_neg e1]at h
  obtain rfl:=Option.some.inj h
  simp (maxDischargeDepth:=9) only [↓AQ,AR,Ah,↓reduceIte,bj,bk,bl,bm,bo,bp,br,bt,bw,bx,bO,b0,b3,b4,b5,b6,b7,m0,m1,m2,m3,e1,Gv,IW,Ch,Ci,Cj]<;>(repeat' apply A7)<;>first|rfl|exact⟨_,rfl⟩|exact⟨_,_,rfl⟩|simp [AP,A8]
theorem Ob(class_:AL){r:Int}(h:Km class_=some r):Y.call 159 [bh 3 (AP (bd .i64) class_)] []=some (bd .i64 r,[]):=by
 refine AEj ?_ rfl;unfold A2T;unfold Km at h;obtain⟨AY,hl2,h⟩:=Ar h;try dsimp only at h
 simp (maxDischargeDepth:=9) only [↓AQ,AR,Ah,↓reduceIte,bj,bk,bl,bm,bo,bp,br,bt,bw,bx,bO,b0,b3,b4,b5,b6,b7];refine BF (Uk class_ hl2 ?_) ?_
 ·simp (maxDischargeDepth:=9) only [↓AQ,AR,Ah,↓reduceIte,bj,bk,bl,bm,bo,bp,br,bt,bw,bx,bO,b0,b3,b4,b5,b6,b7,Gv]<;>(repeat' apply A7)<;>first|rfl|exact⟨_,rfl⟩|exact⟨_,_,rfl⟩|simp [AP,A8]
 ·intro ex2 s2 hX2;unfold IW at hX2;obtain⟨rfl,n2_0⟩:=hX2
  obtain rfl:=Option.some.inj h
  simp (maxDischargeDepth:=9) only [↓AQ,AR,Ah,↓reduceIte,bj,bk,bl,bm,bo,bp,br,bt,bw,bx,bO,b0,b3,b4,b5,b6,b7,n2_0]<;>(repeat' apply A7)<;>first|rfl|exact⟨_,rfl⟩|exact⟨_,_,rfl⟩|simp [AP,A8]
def Ep(AB:Am)(AO:AL)(AA:AL)(class_:AL)(t_:Int):Option ((AL×Int)⊕(Int)):= (Kk AB AO AA class_).bind fun JL=> (Km JL).bind fun Ip=> (Km class_).bind fun M3=> if Ip=M3 then some (b8 t_) else some (cb (JL,ca.wrap (t_+1)))
def IX(AB:Am)(AO:AL)(AA:AL)(v:AL×Int):Option (Int):=Im (fun v=>Ep AB AO AA v.1 v.2) v
def Kn(AB:Am)(AO:AL)(AA:AL):Option (Int):= (Fp AB AO AA (0:Int)).bind fun nA=> (IX AB AO AA (nA,0)).bind fun AY=> some AY
def Ul:SC:= .seq (.block 1 (.seq (.ops [oL 10 47 1 47,oM 11 3 26,oC 12 110 [(tK 10),(tK 11)] [47,26] 26,oA 5 12 26]) (.seq (.seq (.ops [oM 13 5 26,oC 14 159 [(tK 13)] [26] 3,oM 15 3 26,oC 16 159 [(tK 15)] [26] 3,oB 17 .eql 3 (tK 14) (tK 16) 3 4]) (.cond (tK 17) (.seq (.ops [oM 18 4 3,oA 2 18 3]) .ret) .skip)) (.ops [oM 19 5 26,oA 3 19 26])))) (.ops [oM 8 4 3,oB 9 .add 3 (tK 8) (iK 1) 3 3,oA 4 9 3])
def fe:SC:= .loop Ul
def A2U:SC:= .seq (.ops [oX 1 (.box 47 (tK 0)) 0,oX 2 (.assign (iK 0)) 3]) (.seq (.ops [oL 6 47 1 47,oC 7 64 [(tK 6),(iK 0)] [47,3] 26,oA 3 7 26]) (.seq (.ops [oX 4 (.assign (iK 0)) 3]) (.block 0 fe)))
theorem sI:Try.f127.body.map (Ba lends)=some A2U:=by kernel_rfl
theorem A9K:Bz Try.f127 1=true:=by kernel_rfl
theorem AEk{a l:List D}{r:D×List D}(h:C8 Y.env A2U (Fa Ac l.length [cc 2] r) (entry a l))(ha:a.length=1):Y.call 127 a l=some r:=
 Aa (Y:=Y) rfl Try.func127 (ha▸A9K) sI h
def Er(AB:Am)(AO:AL)(AA:AL)(class_:AL)(t_:Int)(s:St):Prop:=s.v 1=cg [bh 123 (AP (fun x=>bh 125 (Au .i64 .i64 x)) AB),bh 3 (AP (bd .i64) AO),bh 3 (AP (bd .i64) AA)]∧s.v 3=cd 3 (AP (bd .i64) class_)∧s.v 4=bd .i64 t_
def GH(AB:Am)(AO:AL)(AA:AL)(r:Int)(ex:Ex)(s:St):Prop:=ex= .ret∧s.v 2=bd .i64 r
theorem Qh(AB:Am)(AO:AL)(AA:AL){v:AL×Int}{s:St}{r:Int}(h:IX AB AO AA v=some r)(hM:Er AB AO AA v.1 v.2 s):C8 Y.env fe (GH AB AO AA r) s:=by
 unfold IX at h;refine BU (c:=Ul) (fun v=>Ep AB AO AA v.1 v.2) (fun v s=>Er AB AO AA v.1 v.2 s) (GH AB AO AA) ?_ h hM;clear h hM s v r;intro v s o hM h;obtain⟨class_,t_⟩:=v;dsimp only at h hM;unfold Ep at h;unfold Er at hM;obtain⟨m0,m1,m2⟩:=hM;unfold Ul;obtain⟨JL,hl2,h⟩:=Ar h;try dsimp only at h
 have c2:=Ld AB AO AA class_ hl2;obtain⟨Ip,hl3,h⟩:=Ar h;try dsimp only at h
 have c3:=Ob JL hl3;obtain⟨M3,hl4,h⟩:=Ar h;try dsimp only at h
 have c4:=Ob class_ hl4;by_cases e5:Ip=M3
 ·rw [if_pos e5]at h
  obtain rfl:=Option.some.inj h
  simp (maxDischargeDepth:=9) only [↓AQ,AR,Ah,↓reduceIte,bj,bk,bl,bm,bo,bp,br,bt,bw,bx,bO,b0,b3,b4,b5,b6,b7,m0,m1,m2,c2,c3,c4,decide_eq_true e5,Er,GH,Ch,Ci,Cj]<;>(repeat' apply A7)<;>first|rfl|exact⟨_,rfl⟩|exact⟨_,_,rfl⟩|simp [AP,A8]
 ·rw [if_neg e5]at h
  obtain rfl:=Option.some.inj h
  simp (maxDischargeDepth:=9) only [↓AQ,AR,Ah,↓reduceIte,bj,bk,bl,bm,bo,bp,br,bt,bw,bx,bO,b0,b3,b4,b5,b6,b7,m0,m1,m2,c2,c3,c4,e5,Er,GH,Ch,Ci,Cj]<;>(repeat' apply A7)<;>first|rfl|exact⟨_,rfl⟩|exact⟨_,_,rfl⟩|simp [AP,A8]
theorem Rj(AB:Am)(AO:AL)(AA:AL){r:Int}(h:Kn AB AO AA=some r):Y.call 127 [ce [bh 123 (AP (fun x=>bh 125 (Au .i64 .i64 x)) AB),bh 3 (AP (bd .i64) AO),bh 3 (AP (bd .i64) AA)]] []=some (bd .i64 r,[]):=by
 refine AEk ?_ rfl;unfold A2U;unfold Kn at h;obtain⟨nA,hl1,h⟩:=Ar h;try dsimp only at h
 have c1:=Jc AB AO AA (0:Int) hl1;obtain⟨AY,hl6,h⟩:=Ar h;try dsimp only at h
 simp (maxDischargeDepth:=9) only [↓AQ,AR,Ah,↓reduceIte,bj,bk,bl,bm,bo,bp,br,bt,bw,bx,bO,b0,b3,b4,b5,b6,b7,c1];refine BF (Qh AB AO AA hl6 ?_) ?_
 ·simp (maxDischargeDepth:=9) only [↓AQ,AR,Ah,↓reduceIte,bj,bk,bl,bm,bo,bp,br,bt,bw,bx,bO,b0,b3,b4,b5,b6,b7,c1,Er]<;>(repeat' apply A7)<;>first|rfl|exact⟨_,rfl⟩|exact⟨_,_,rfl⟩|simp [AP,A8]
 ·intro ex6 s6 hX6;unfold GH at hX6;obtain⟨rfl,n6_0⟩:=hX6
  obtain rfl:=Option.some.inj h
  simp (maxDischargeDepth:=9) only [↓AQ,AR,Ah,↓reduceIte,bj,bk,bl,bm,bo,bp,br,bt,bw,bx,bO,b0,b3,b4,b5,b6,b7,c1,n6_0]<;>(repeat' apply A7)<;>first|rfl|exact⟨_,rfl⟩|exact⟨_,_,rfl⟩|simp [AP,A8]
def M8(AB:Am)(AO:AL)(AA:AL):Option (AL):= (Kn AB AO AA).bind fun r5_=> (Fp AB AO AA r5_).bind fun r6_=> some r6_
def k74:SC:= .seq (.ops [oX 1 (.box 47 (tK 0)) 0,oX 2 OL 26]) (.seq (.draws [(⟨[3,1,1],[3,4,5,6,2,6,6],[3]⟩,oL 3 47 1 47),(⟨[4,1,1],[3,4,5,6,2,6,6],[4]⟩,oL 4 47 1 47),(⟨[5,4,1],[3,4,5,6,2,6,6],[5]⟩,oC 5 127 [(tK 4)] [47] 3),(⟨[6,3,5,1,5],[3,4,5,6,2,6,6],[6]⟩,oC 6 64 [(tK 3),(tK 5)] [47,3] 26),(⟨[2,6,6],[3,4,5,6,2,6,6],[2,6,6]⟩,oA 2 6 26)]) .ret)
theorem A2V:Try.f74.body.map (Ba lends)=some k74:=by kernel_rfl
theorem AEn:Bz Try.f74 1=true:=by kernel_rfl
theorem c74{a l:List D}{r:D×List D}(h:C8 Y.env k74 (Fa Ac l.length [cc 2] r) (entry a l))(ha:a.length=1):Y.call 74 a l=some r:=
 Aa (Y:=Y) rfl Try.func74 (ha▸AEn) A2V h
theorem Um(AB:Am)(AO:AL)(AA:AL){r:AL}(h:M8 AB AO AA=some r):Y.call 74 [ce [bh 123 (AP (fun x=>bh 125 (Au .i64 .i64 x)) AB),bh 3 (AP (bd .i64) AO),bh 3 (AP (bd .i64) AA)]] []=some (cd 3 (AP (bd .i64) r),[]):=by
 refine c74 ?_ rfl;unfold k74;unfold M8 at h;obtain⟨r5_,hl1,h⟩:=Ar h;try dsimp only at h
 have c1:=Rj AB AO AA hl1;obtain⟨r6_,hl2,h⟩:=Ar h;try dsimp only at h
 have c2:=Jc AB AO AA r5_ hl2
 obtain rfl:=Option.some.inj h
 simp (maxDischargeDepth:=9) only [↓AQ,AR,Ah,↓reduceIte,bj,bk,bl,bm,bo,bp,br,bt,bw,bx,bO,b0,b3,b4,b5,b6,b7,c1,c2]<;>(repeat' apply A7)<;>first|rfl|exact⟨_,rfl⟩|exact⟨_,_,rfl⟩|simp [AP,A8]
end Go.Proofs.Ytclkfhhdikfcpaa
end
