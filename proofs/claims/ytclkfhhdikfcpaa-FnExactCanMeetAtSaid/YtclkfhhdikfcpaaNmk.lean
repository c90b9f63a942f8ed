/- Functions of the program as plain functions, and what they compute. Conditions: those in each lemma. -/
import Derived.Test.YtclkfhhdikfcpaaL6
import Derived.Test.YtclkfhhdikfcpaaNis
open Dv.D renaming int → bd,sl → bh,own → cd,bool → b9,box → cg,agg → ce
open Nat renaming reduceEqDiff → bj,reduceLT → bk,reduceLeDiff → bl,reduceAdd → bm,reduceMul → bo,reduceMod → bp,reduceDiv → br,reducePow → bt,reduceSub → bw,reduceBEq → bx
open Int renaming reduceLE → bO,reduceLT → b0,reduceEq → b3,reduceSub → b4,reduceAdd → b5,reduceToNat → b6,reduceNeg → b7
open Inhabited renaming default → be
open Go.IntKind renaming i64 → ca
open Sum renaming inl → cb,inr → b8
open Go.ResultVar renaming tmp → cc
open List renaming replicate → ao
noncomputable section
namespace Go.Proofs.Ytclkfhhdikfcpaa
open Go Dv
set_option linter.unusedSimpArgs false
set_option linter.unusedVariables false
set_option maxRecDepth 100000
set_option maxHeartbeats 4000000
def Cx(AC:Ar)(Bj:Int)(out1:List (Int×Int×Int×Int))(Je:Int):Option (((List (Int×Int×Int×Int))×Int)⊕((List (Int×Int×Int×Int)))):= if Je<((AC.getD Bj.toNat be).length:Int)then ck (0≤Je∧Je.toNat<(AC.getD Bj.toNat be).length)<| if Bj<(BJ (AC.getD Bj.toNat be) Je.toNat)then ck (out1.length*4+4<1099511627776)<| some (cb ((out1++[(Bj,Je,(BJ (AC.getD Bj.toNat be) Je.toNat),(CG (AC.getD Bj.toNat be) Je.toNat))]),ca.wrap (Je+1))) else if Bj=(BJ (AC.getD Bj.toNat be) Je.toNat)then if Je≤(CG (AC.getD Bj.toNat be) Je.toNat)then ck (out1.length*4+4<1099511627776)<| some (cb ((out1++[(Bj,Je,(BJ (AC.getD Bj.toNat be) Je.toNat),(CG (AC.getD Bj.toNat be) Je.toNat))]),ca.wrap (Je+1))) else some (cb (out1,ca.wrap (Je+1))) else some (cb (out1,ca.wrap (Je+1))) else some (b8 out1)
def EX(AC:Ar)(Bj:Int)(v:(List (Int×Int×Int×Int))×Int):Option ((List (Int×Int×Int×Int))):=Io (fun v=>Cx AC Bj v.1 v.2) v
def Cy(AC:Ar)(out:List (Int×Int×Int×Int))(Bj:Int):Option (((List (Int×Int×Int×Int))×Int)⊕((List (Int×Int×Int×Int)))):= if Bj<(AC.length:Int)then ck (0≤Bj∧Bj.toNat<AC.length)<| (EX AC Bj (out,0)).bind fun AZ=> some (cb (AZ,ca.wrap (Bj+1))) else some (b8 out)
def Fj(AC:Ar)(v:(List (Int×Int×Int×Int))×Int):Option ((List (Int×Int×Int×Int))):=Io (fun v=>Cy AC v.1 v.2) v
def Fz(AC:Ar)(AY:AL)(AJ:AL):Option ((List (Int×Int×Int×Int))):= (Fj AC ([],0)).bind fun CW=> some CW
def TW:SC:= .seq (.ops [oB 19 .lss 3 (tK 18) (tK 17) 3 0]) (.seq (.cond (tK 19) .skip (.exit 2)) (.seq (.block 3 (.seq (.ops [oM 20 18 3,oI 21 123 16 18,oL 22 125 21 125,oX 7 (.alloc 125) 0,oA 6 20 3,oS 125 7 22]) (.seq (.ops [oM 23 4 3,oF 24 125 7 0,oL 25 3 24 3,oB 26 .lss 3 (tK 23) (tK 25) 3 4,oM 27 26 4,⟨(some 28),(.move (tK 4)),3,(some (some 27,false))⟩,⟨(some 29),(.fieldAddr 125 (tK 7) 0),0,(some (some 27,false))⟩,⟨(some 30),(.load 3 (tK 29)),3,(some (some 27,false))⟩,⟨(some 31),(.binOp .eql 3 (tK 28) (tK 30) 3),4,(some (some 27,false))⟩,⟨(some 32),(.move (tK 31)),4,(some (some 27,false))⟩,⟨(some 33),(.move (tK 6)),3,(some (some 32,true))⟩,⟨(some 34),(.fieldAddr 125 (tK 7) 1),0,(some (some 32,true))⟩,⟨(some 35),(.load 3 (tK 34)),3,(some (some 32,true))⟩,⟨(some 36),(.binOp .leq 3 (tK 33) (tK 35) 3),4,(some (some 32,true))⟩,⟨(some 37),(.pick (tK 32) (tK 36) O5),4,(some (some 27,false))⟩,oX 38 (.pick (tK 27) FR (tK 37)) 4]) (.cond (tK 38) (.ops [oM 39 3 135,oM 40 4 3,oM 41 6 3,oF 42 125 7 0,oL 43 3 42 3,oF 44 125 7 1,oL 45 3 44 3,oX 46 (.build 137 #[(0,(tK 40)),(1,(tK 41)),(2,(tK 43)),(3,(tK 45))]) 137,oX 47 (.buildSlice 135 1 #[(0,(tK 46))]) 135,oX 48 (.call ⟨(.builtin .append), #[(tK 39),(tK 47)], #[135,135]⟩) 135,
 oA 3 48 135]) .skip)))) (.ops [oB 49 .add 3 (tK 18) (iK 1) 3 3,oM 18 49 3])))
def d9:SC:= .loop TW
def TY:SC:= .seq (.ops [oB 12 .lss 3 (tK 11) (tK 10) 3 0]) (.seq (.cond (tK 12) .skip (.exit 0)) (.seq (.block 1 (.seq (.ops [oM 13 11 3,oI 14 45 9 11,oL 15 123 14 123,oA 4 13 3,oA 5 15 123]) (.seq (.ops [oM 16 5 123,oN 17 16 123,oX 18 (.move (iK 0)) 3]) (.block 2 d9)))) (.ops [oB 50 .add 3 (tK 11) (iK 1) 3 3,oM 11 50 3])))
def dA:SC:= .loop TY
def A10:SC:= .seq (.ops [oX 1 (.box 47 (tK 0)) 0,oX 2 O3 135]) (.seq (.ops [oX 3 O3 135]) (.seq (.seq (.ops [oF 8 47 1 0,oL 9 45 8 45,oN 10 9 45,oX 11 (.move (iK 0)) 3]) (.block 0 dA)) (.seq (.ops [oM 51 3 135,oA 2 51 135]) .ret)))
theorem pO:Try.f118.body.map (Bi lends)=some A10:=by kernel_rfl
theorem A7u:CL Try.f118 1=true:=by kernel_rfl
theorem ADB{a l:List D}{r:D×List D}(h:CK Y.env A10 (Fx Ac l.length [cc 2] r) (entry a l))(ha:a.length=1):Y.call 118 a l=some r:=
 Ab (Y:=Y) rfl Try.func118 (ha▸A7u) pO h
def BZ(AC:Ar)(Bj:Int)(out1:List (Int×Int×Int×Int))(Je:Int)(s:St):Prop:=s.v 3=cd 137 (KI out1)∧s.v 4=bd .i64 Bj∧s.v 9=bh 123 (AQ (fun x=>bh 125 (Aw .i64 .i64 x)) AC)∧s.v 10=bd .i64 (AC.length:Int)∧s.v 11=bd .i64 Bj∧s.v 16=bh 125 (Aw .i64 .i64 (AC.getD Bj.toNat be))∧s.v 17=bd .i64 ((AC.getD Bj.toNat be).length:Int)∧s.v 18=bd .i64 Je
def Bq(AC:Ar)(Bj:Int)(r:(List (Int×Int×Int×Int)))(ex:Ex)(s:St):Prop:=ex= .exit 2∧s.v 3=cd 137 (KI r)∧s.v 9=bh 123 (AQ (fun x=>bh 125 (Aw .i64 .i64 x)) AC)∧s.v 10=bd .i64 (AC.length:Int)∧s.v 11=bd .i64 Bj
theorem ML(AC:Ar)(Bj:Int){v:(List (Int×Int×Int×Int))×Int}{s:St}{r:(List (Int×Int×Int×Int))}(h:EX AC Bj v=some r)(hM:BZ AC Bj v.1 v.2 s):CK Y.env d9 (Bq AC Bj r) s:=by
 unfold EX at h;refine Bc (c:=TW) (fun v=>Cx AC Bj v.1 v.2) (fun v s=>BZ AC Bj v.1 v.2 s) (Bq AC Bj) ?_ h hM;clear h hM s v r;intro v s o hM h;obtain⟨out1,Je⟩:=v;dsimp only at h hM;unfold Cx at h;unfold BZ at hM;obtain⟨m0,m1,m2,m3,m4,m5,m6,m7⟩:=hM;unfold TW;by_cases e3:Je<((AC.getD Bj.toNat be).length:Int)
 ·rw [if_pos e3]at h;obtain⟨e4,h⟩:=Bw h;by_cases e5:Bj<(BJ (AC.getD Bj.toNat be) Je.toNat)
  ·rw [if_pos e5]at h;obtain⟨e6,h⟩:=Bw h
   obtain rfl:=Option.some.inj h
   simp (maxDischargeDepth:=9) only [↓AP,AR,Ai,↓reduceIte,bj,bk,bl,bm,bo,bp,br,bt,bw,bx,bO,b0,b3,b4,b5,b6,b7,m0,m1,m2,m3,m4,m5,m6,m7,e3,e4.1,e4.2,e5,e6,BZ,Bq,Cm,Cn,Co]<;>(repeat' apply A7)<;>first|rfl|exact⟨_,rfl⟩|exact⟨_,_,rfl⟩|simp [AQ,A8]
  ·rw [if_neg e5]at h;by_cases e6:Bj=(BJ (AC.getD Bj.toNat be) Je.toNat)
   ·rw [if_pos e6]at h;by_cases e7:Je≤(CG (AC.getD Bj.toNat be) Je.toNat)
    ·rw [if_pos e7]at h;obtain⟨e8,h⟩:=Bw h
     obtain rfl:=Option.some.inj h
     simp (maxDischargeDepth:=9) only [↓AP,AR,Ai,↓reduceIte,bj,bk,bl,bm,bo,bp,br,bt,bw,bx,bO,b0,b3,b4,b5,b6,b7,m0,m1,m2,m3,m4,m5,m6,m7,e3,e4.1,e4.2,e5,decide_eq_true e6,e7,e8,BZ,Bq,Cm,Cn,Co]<;>(repeat' apply A7)<;>first|rfl|exact⟨_,rfl⟩|exact⟨_,_,rfl⟩|simp [AQ,A8]
    ·rw [if_neg e7]at h
     obtain rfl:=Option.some.inj h
     simp (maxDischargeDepth:=9) only [↓AP,AR,Ai,↓reduceIte,bj,bk,bl,bm,bo,bp,br,bt,bw,bx,bO,b0,b3,b4,b5,b6,b7,m0,m1,m2,m3,m4,m5,m6,m7,e3,e4.1,e4.2,e5,decide_eq_true e6,e7,BZ,Bq,Cm,Cn,Co]<;>(repeat' apply A7)<;>first|rfl|exact⟨_,rfl⟩|exact⟨_,_,rfl⟩|simp [AQ,A8]
   ·rw [if_neg e6]at h
    obtain rfl:=Option.some.inj h
    simp (maxDischargeDepth:=9) only [↓AP,AR,Ai,↓reduceIte,bj,bk,bl,bm,bo,bp,br,bt,bw,bx,bO,b0,b3,b4,b5,b6,b7,m0,m1,m2,m3,m4,m5,m6,m7,e3,e4.1,e4.2,e5,e6,BZ,Bq,Cm,Cn,Co]<;>(repeat' apply A7)<;>first|rfl|exact⟨_,rfl⟩|exact⟨_,_,rfl⟩|simp [AQ,A8]
 ·rw [if_neg e3]at h
  obtain rfl:=Option.some.inj h
  simp (maxDischargeDepth:=9) only [↓AP,AR,Ai,↓reduceIte,bj,bk,bl,bm,bo,bp,br,bt,bw,bx,bO,b0,b3,b4,b5,b6,b7,m0,m1,m2,m3,m4,m5,m6,m7,e3,BZ,Bq,Cm,Cn,Co]<;>(repeat' apply A7)<;>first|rfl|exact⟨_,rfl⟩|exact⟨_,_,rfl⟩|simp [AQ,A8]
def Cz(AC:Ar)(out:List (Int×Int×Int×Int))(Bj:Int)(s:St):Prop:=s.v 3=cd 137 (KI out)∧s.v 9=bh 123 (AQ (fun x=>bh 125 (Aw .i64 .i64 x)) AC)∧s.v 10=bd .i64 (AC.length:Int)∧s.v 11=bd .i64 Bj
def Dl(AC:Ar)(r:(List (Int×Int×Int×Int)))(ex:Ex)(s:St):Prop:=ex= .exit 0∧s.v 3=cd 137 (KI r)
theorem MM(AC:Ar){v:(List (Int×Int×Int×Int))×Int}{s:St}{r:(List (Int×Int×Int×Int))}(h:Fj AC v=some r)(hM:Cz AC v.1 v.2 s):CK Y.env dA (Dl AC r) s:=by
 unfold Fj at h;refine Bc (c:=TY) (fun v=>Cy AC v.1 v.2) (fun v s=>Cz AC v.1 v.2 s) (Dl AC) ?_ h hM;clear h hM s v r;intro v s o hM h;obtain⟨out,Bj⟩:=v;dsimp only at h hM;unfold Cy at h;unfold Cz at hM;obtain⟨m0,m1,m2,m3⟩:=hM;unfold TY;by_cases e1:Bj<(AC.length:Int)
 ·rw [if_pos e1]at h;obtain⟨e2,h⟩:=Bw h;obtain⟨AZ,hl4,h⟩:=BA h;try dsimp only at h
  simp (maxDischargeDepth:=9) only [↓AP,AR,Ai,↓reduceIte,bj,bk,bl,bm,bo,bp,br,bt,bw,bx,bO,b0,b3,b4,b5,b6,b7,m0,m1,m2,m3,e1,e2.1,e2.2];refine BM (ML AC Bj hl4 ?_) ?_
  ·simp (maxDischargeDepth:=9) only [↓AP,AR,Ai,↓reduceIte,bj,bk,bl,bm,bo,bp,br,bt,bw,bx,bO,b0,b3,b4,b5,b6,b7,m0,m1,m2,m3,e1,e2.1,e2.2,BZ]<;>(repeat' apply A7)<;>first|rfl|exact⟨_,rfl⟩|exact⟨_,_,rfl⟩|simp [AQ,A8]
  ·intro ex4 s4 hX4;unfold Bq at hX4;obtain⟨rfl,n4_0,n4_1,n4_2,n4_3⟩:=hX4
   obtain rfl:=Option.some.inj h
   simp (maxDischargeDepth:=9) only [↓AP,AR,Ai,↓reduceIte,bj,bk,bl,bm,bo,bp,br,bt,bw,bx,bO,b0,b3,b4,b5,b6,b7,e1,e2.1,e2.2,n4_0,n4_1,n4_2,n4_3,Cz,Dl,Cm,Cn,Co]<;>(repeat' apply A7)<;>first|rfl|exact⟨_,rfl⟩|exact⟨_,_,rfl⟩|simp [AQ,A8]
 ·rw [if_neg e1]at h
  obtain rfl:=Option.some.inj h
  simp (maxDischargeDepth:=9) only [↓AP,AR,Ai,↓reduceIte,bj,bk,bl,bm,bo,bp,br,bt,bw,bx,bO,b0,b3,b4,b5,b6,b7,m0,m1,m2,m3,e1,Cz,Dl,Cm,Cn,Co]<;>(repeat' apply A7)<;>first|rfl|exact⟨_,rfl⟩|exact⟨_,_,rfl⟩|simp [AQ,A8]
theorem Mw(AC:Ar)(AY:AL)(AJ:AL){r:(List (Int×Int×Int×Int))}(h:Fz AC AY AJ=some r):Y.call 118 [ce [bh 123 (AQ (fun x=>bh 125 (Aw .i64 .i64 x)) AC),bh 3 (AQ (bd .i64) AY),bh 3 (AQ (bd .i64) AJ)]] []=some (cd 137 (KI r),[]):=by
 refine ADB ?_ rfl;unfold A10;unfold Fz at h;obtain⟨CW,hl2,h⟩:=BA h;try dsimp only at h
 simp (maxDischargeDepth:=9) only [↓AP,AR,Ai,↓reduceIte,bj,bk,bl,bm,bo,bp,br,bt,bw,bx,bO,b0,b3,b4,b5,b6,b7];refine BM (MM AC hl2 ?_) ?_
 ·simp (maxDischargeDepth:=9) only [↓AP,AR,Ai,↓reduceIte,bj,bk,bl,bm,bo,bp,br,bt,bw,bx,bO,b0,b3,b4,b5,b6,b7,Cz]<;>(repeat' apply A7)<;>first|rfl|exact⟨_,rfl⟩|exact⟨_,_,rfl⟩|simp [AQ,A8]
 ·intro ex2 s2 hX2;unfold Dl at hX2;obtain⟨rfl,n2_0⟩:=hX2
  obtain rfl:=Option.some.inj h
  simp (maxDischargeDepth:=9) only [↓AP,AR,Ai,↓reduceIte,bj,bk,bl,bm,bo,bp,br,bt,bw,bx,bO,b0,b3,b4,b5,b6,b7,n2_0]<;>(repeat' apply A7)<;>first|rfl|exact⟨_,rfl⟩|exact⟨_,_,rfl⟩|simp [AQ,A8]
def AX(s_:List (Int×Int×Int×Int))(f:Int→Int→Int→Int→Option Bool)(Gf:Int):Option ((Int)⊕(Int⊕Unit)):= if Gf<(s_.length:Int)then ck (0≤Gf∧Gf.toNat<s_.length)<| (f (q4a s_ Gf.toNat) (q4b s_ Gf.toNat) (q4c s_ Gf.toNat) (q4d s_ Gf.toNat)).bind fun WY=> if WY=true then some (b8 (cb Gf)) else some (cb (ca.wrap (Gf+1))) else some (b8 (b8 ()))
def Ae(s_:List (Int×Int×Int×Int))(f:Int→Int→Int→Int→Option Bool)(v:Int):Option (Int⊕Unit):=Io (fun v=>AX s_ f v) v
def Af(s_:List (Int×Int×Int×Int))(f:Int→Int→Int→Int→Option Bool):Option (Int):=
 (Ae s_ f 0).bind fun AZ=>
 match AZ with
 | .inl q1000_=>
  some q1000_
 | .inr q1000_=>
  some (-1)
def TZ:SC:= .seq (.ops [oB 9 .lss 3 (tK 8) (tK 7) 3 0]) (.seq (.cond (tK 9) .skip (.exit 0)) (.seq (.block 1 (.seq (.ops [oM 10 8 3,oA 5 10 3]) (.seq (.ops [oM 11 1 139,oM 12 0 135,oM 13 5 3,oI 14 135 12 13,oL 15 137 14 137,oX 16 (.call ⟨(.value (tK 11)), #[(tK 15)], #[137]⟩) 4]) (.cond (tK 16) (.seq (.ops [oM 17 5 3,oA 4 17 3]) .ret) .skip)))) (.ops [oB 18 .add 3 (tK 8) (iK 1) 3 3,oM 8 18 3])))
def dB:SC:= .loop TZ
def A11:SC:= .seq (.ops [oX 4 (.assign (iK 0)) 3]) (.seq (.seq (.ops [oM 6 0 135,oN 7 6 135,oX 8 (.move (iK 0)) 3]) (.block 0 dB)) (.seq (.ops [oX 4 O4 3]) .ret))
theorem pQ:Try.f156.body.map (Bi lends)=some A11:=by kernel_rfl
theorem A7v:CL Try.f156 2=true:=by kernel_rfl
theorem ADC{a l:List D}{r:D×List D}(h:CK Y.env A11 (Fx Ac l.length [cc 4] r) (entry a l))(ha:a.length=2):Y.call 156 a l=some r:=
 Ab (Y:=Y) rfl Try.func156 (ha▸A7v) pQ h
def AU(s_:List (Int×Int×Int×Int))(f:Int→Int→Int→Int→Option Bool)(f_f:FuncId)(f_c:List D)(Gf:Int)(s:St):Prop:=s.v 0=bh 137 (KI s_)∧s.v 1=D.clo f_f f_c∧s.v 7=bd .i64 (s_.length:Int)∧s.v 8=bd .i64 Gf
def AV(s_:List (Int×Int×Int×Int))(f:Int→Int→Int→Int→Option Bool)(f_f:FuncId)(f_c:List D)(r:Int⊕Unit)(ex:Ex)(s:St):Prop:=match r with
 | .inl q=>ex= .ret∧s.v 4=bd .i64 q
 | .inr q=>ex= .exit 0
theorem Bh(s_:List (Int×Int×Int×Int))(f:Int→Int→Int→Int→Option Bool)(f_f:FuncId)(f_c:List D)(f_h: ∀(a0_0:Int) (a0_1:Int) (a0_2:Int) (a0_3:Int) (r:Bool),f a0_0 a0_1 a0_2 a0_3=some r→Y.call f_f (ce [bd .i64 a0_0,bd .i64 a0_1,bd .i64 a0_2,bd .i64 a0_3]::f_c) []=some (b9 r,[]))(f_l:lends f_f=false){v:Int}{s:St}{r:Int⊕Unit}(h:Ae s_ f v=some r)(hM:AU s_ f f_f f_c v s):CK Y.env dB (AV s_ f f_f f_c r) s:=by
 unfold Ae at h;refine Bc (c:=TZ) (fun v=>AX s_ f v) (fun v s=>AU s_ f f_f f_c v s) (AV s_ f f_f f_c) ?_ h hM;clear h hM s v r;intro Gf s o hM h;unfold AX at h;unfold AU at hM;obtain⟨m0,m1,m2,m3⟩:=hM;unfold TZ;by_cases e1:Gf<(s_.length:Int)
 ·rw [if_pos e1]at h;obtain⟨e2,h⟩:=Bw h;obtain⟨WY,hl3,h⟩:=BA h;try dsimp only at h
  have c3:=f_h _ _ _ _ _ hl3;by_cases e4:WY=true
  ·rw [if_pos e4]at h
   obtain rfl:=Option.some.inj h
   simp (maxDischargeDepth:=9) only [↓AP,AR,Ai,↓reduceIte,bj,bk,bl,bm,bo,bp,br,bt,bw,bx,bO,b0,b3,b4,b5,b6,b7,m0,m1,m2,m3,f_l,e1,e2.1,e2.2,c3,e4,AU,AV,Cm,Cn,Co]<;>(repeat' apply A7)<;>first|rfl|exact⟨_,rfl⟩|exact⟨_,_,rfl⟩|simp [AQ,A8]
  ·rw [if_neg e4]at h;have e4f:WY=false:=JF.mpr e4
   obtain rfl:=Option.some.inj h
   simp (maxDischargeDepth:=9) only [↓AP,AR,Ai,↓reduceIte,bj,bk,bl,bm,bo,bp,br,bt,bw,bx,bO,b0,b3,b4,b5,b6,b7,m0,m1,m2,m3,f_l,e1,e2.1,e2.2,c3,e4f,AU,AV,Cm,Cn,Co]<;>(repeat' apply A7)<;>first|rfl|exact⟨_,rfl⟩|exact⟨_,_,rfl⟩|simp [AQ,A8]
 ·rw [if_neg e1]at h
  obtain rfl:=Option.some.inj h
  simp (maxDischargeDepth:=9) only [↓AP,AR,Ai,↓reduceIte,bj,bk,bl,bm,bo,bp,br,bt,bw,bx,bO,b0,b3,b4,b5,b6,b7,m0,m1,m2,m3,f_l,e1,AU,AV,Cm,Cn,Co]<;>(repeat' apply A7)<;>first|rfl|exact⟨_,rfl⟩|exact⟨_,_,rfl⟩|simp [AQ,A8]
theorem Bl(s_:List (Int×Int×Int×Int))(f:Int→Int→Int→Int→Option Bool)(f_f:FuncId)(f_c:List D)(f_h: ∀(a0_0:Int) (a0_1:Int) (a0_2:Int) (a0_3:Int) (r:Bool),f a0_0 a0_1 a0_2 a0_3=some r→Y.call f_f (ce [bd .i64 a0_0,bd .i64 a0_1,bd .i64 a0_2,bd .i64 a0_3]::f_c) []=some (b9 r,[]))(f_l:lends f_f=false){r:Int}(h:Af s_ f=some r):Y.call 156 [bh 137 (KI s_),D.clo f_f f_c] []=some (bd .i64 r,[]):=by
 refine ADC ?_ rfl;unfold A11;unfold Af at h;obtain⟨AZ,hl2,h⟩:=BA h;try dsimp only at h
 simp (maxDischargeDepth:=9) only [↓AP,AR,Ai,↓reduceIte,bj,bk,bl,bm,bo,bp,br,bt,bw,bx,bO,b0,b3,b4,b5,b6,b7,f_l];refine BM (Bh s_ f f_f f_c f_h f_l hl2 ?_) ?_
 ·simp (maxDischargeDepth:=9) only [↓AP,AR,Ai,↓reduceIte,bj,bk,bl,bm,bo,bp,br,bt,bw,bx,bO,b0,b3,b4,b5,b6,b7,f_l,AU]<;>(repeat' apply A7)<;>first|rfl|exact⟨_,rfl⟩|exact⟨_,_,rfl⟩|simp [AQ,A8]
 ·intro ex2 s2 hX2;rcases AZ with q1000_|q1000_
  ·unfold AV at hX2;dsimp only at hX2 h;obtain⟨rfl,n2_0⟩:=hX2
   obtain rfl:=Option.some.inj h
   simp (maxDischargeDepth:=9) only [↓AP,AR,Ai,↓reduceIte,bj,bk,bl,bm,bo,bp,br,bt,bw,bx,bO,b0,b3,b4,b5,b6,b7,f_l,n2_0]<;>(repeat' apply A7)<;>first|rfl|exact⟨_,rfl⟩|exact⟨_,_,rfl⟩|simp [AQ,A8]
  ·unfold AV at hX2;dsimp only at hX2 h
   obtain rfl:=hX2
   obtain rfl:=Option.some.inj h
   simp (maxDischargeDepth:=9) only [↓AP,AR,Ai,↓reduceIte,bj,bk,bl,bm,bo,bp,br,bt,bw,bx,bO,b0,b3,b4,b5,b6,b7,f_l]<;>(repeat' apply A7)<;>first|rfl|exact⟨_,rfl⟩|exact⟨_,_,rfl⟩|simp [AQ,A8]
def Aa(s_:List (Int×Int×Int×Int))(f:Int→Int→Int→Int→Option Bool):Option (Bool):= (Af s_ f).bind fun l8=> some (decide (0≤l8))
def A12:SC:= .seq (.ops [oX 4 CJ 4]) (.seq (.ops [oM 5 0 135,oM 6 1 139,oC 7 156 [(tK 5),(tK 6)] [135,139] 3,oB 8 .geq 3 (tK 7) (iK 0) 3 4,oA 4 8 4]) .ret)
theorem pR:Try.f117.body.map (Bi lends)=some A12:=by kernel_rfl
theorem A7w:CL Try.f117 2=true:=by kernel_rfl
theorem ADE{a l:List D}{r:D×List D}(h:CK Y.env A12 (Fx Ac l.length [cc 4] r) (entry a l))(ha:a.length=2):Y.call 117 a l=some r:=
 Ab (Y:=Y) rfl Try.func117 (ha▸A7w) pR h
theorem Bb(s_:List (Int×Int×Int×Int))(f:Int→Int→Int→Int→Option Bool)(f_f:FuncId)(f_c:List D)(f_h: ∀(a0_0:Int) (a0_1:Int) (a0_2:Int) (a0_3:Int) (r:Bool),f a0_0 a0_1 a0_2 a0_3=some r→Y.call f_f (ce [bd .i64 a0_0,bd .i64 a0_1,bd .i64 a0_2,bd .i64 a0_3]::f_c) []=some (b9 r,[]))(f_l:lends f_f=false){r:Bool}(h:Aa s_ f=some r):Y.call 117 [bh 137 (KI s_),D.clo f_f f_c] []=some (b9 r,[]):=by
 refine ADE ?_ rfl;unfold A12;unfold Aa at h;obtain⟨l8,hl1,h⟩:=BA h;try dsimp only at h
 have c1:=Bl s_ f f_f f_c f_h f_l hl1
 obtain rfl:=Option.some.inj h
 simp (maxDischargeDepth:=9) only [↓AP,AR,Ai,↓reduceIte,bj,bk,bl,bm,bo,bp,br,bt,bw,bx,bO,b0,b3,b4,b5,b6,b7,f_l,c1]<;>(repeat' apply A7)<;>first|rfl|exact⟨_,rfl⟩|exact⟨_,_,rfl⟩|simp [AQ,A8]
def LB(e_v:Int)(e_i:Int)(e_w:Int)(e_j:Int)(c0_:AL):Option (Bool):= ck (0≤e_v∧e_v.toNat<c0_.length)<| ck (0≤e_w∧e_w.toNat<c0_.length)<| some (decide ((c0_.getD e_v.toNat be)=(c0_.getD e_w.toNat be)))
abbrev iI:List Nat:=[4,5,6,7,8,9,10,11,12,13,14,3,14,14]
def A13:SC:= .seq (.ops [oX 2 (.box 137 (tK 0)) 0,oX 3 CJ 4]) (.seq (.draws [(⟨[4,1,1],iI,[4]⟩,oL 4 26 1 26),(⟨[5,2,2],iI,[5]⟩,oF 5 137 2 0),(⟨[6,5,2],iI,[6]⟩,oL 6 3 5 3),(⟨[7,4,6,1,2],iI,[7]⟩,oI 7 26 4 6),(⟨[8,7,1],iI,[8]⟩,oL 8 3 7 3),(⟨[9,1,1],iI,[9]⟩,oL 9 26 1 26),(⟨[10,2,2],iI,[10]⟩,oF 10 137 2 2),(⟨[11,10,2],iI,[11]⟩,oL 11 3 10 3),(⟨[12,9,11,1,2],iI,[12]⟩,oI 12 26 9 11),(⟨[13,12,1],iI,[13]⟩,oL 13 3 12 3),(⟨[14,8,13,1,1],iI,[14]⟩,oB 14 .eql 3 (tK 8) (tK 13) 3 4),(⟨[3,14,14],iI,[3,14,14]⟩,oA 3 14 4)]) .ret)
theorem pU:Try.f119.body.map (Bi lends)=some A13:=by kernel_rfl
theorem A7x:CL Try.f119 2=true:=by kernel_rfl
theorem ADF{a l:List D}{r:D×List D}(h:CK Y.env A13 (Fx Ac l.length [cc 3] r) (entry a l))(ha:a.length=2):Y.call 119 a l=some r:=
 Ab (Y:=Y) rfl Try.func119 (ha▸A7x) pU h
theorem Ta(e_v:Int)(e_i:Int)(e_w:Int)(e_j:Int)(c0_:AL){r:Bool}(h:LB e_v e_i e_w e_j c0_=some r):Y.call 119 [ce [bd .i64 e_v,bd .i64 e_i,bd .i64 e_w,bd .i64 e_j],D.cptr [bh 3 (AQ (bd .i64) c0_)]] []=some (b9 r,[]):=by
 refine ADF ?_ rfl;unfold A13;unfold LB at h;obtain⟨e1,h⟩:=Bw h;obtain⟨e2,h⟩:=Bw h
 obtain rfl:=Option.some.inj h
 simp (maxDischargeDepth:=9) only [↓AP,AR,Ai,↓reduceIte,bj,bk,bl,bm,bo,bp,br,bt,bw,bx,bO,b0,b3,b4,b5,b6,b7,e1.1,e1.2,e2.1,e2.2]<;>(repeat' apply A7)<;>first|rfl|exact⟨_,rfl⟩|exact⟨_,_,rfl⟩|simp [AQ,A8]
def BS(s_:AL)(k:Int)(k1:Int)(k2:Int)(EY:AL):Option ((Int×Int×AL)⊕(Int×AL)):= if k2<(((s_.length-k.toNat):Nat):Int)then ck (0≤k2∧k2.toNat<(s_.length-k.toNat))<| ck (k.toNat+(s_.length-k.toNat)≤EY.length)<| ck (k.toNat+k2.toNat<EY.length)<| ck (0≤ca.wrap (k2-1)∧(ca.wrap (k2-1)).toNat<(s_.length-k.toNat))<| ck (k.toNat+(ca.wrap (k2-1)).toNat<EY.length)<| if(EY.getD (k.toNat+k2.toNat) be)=(EY.getD (k.toNat+(ca.wrap (k2-1)).toNat) be)then some (cb (k1,ca.wrap (k2+1),EY)) else ck (0≤k1∧k1.toNat<EY.length)<| some (cb (ca.wrap (k1+1),ca.wrap (k2+1),(EY.set k1.toNat (EY.getD (k.toNat+k2.toNat) be)))) else some (b8 (k1,EY))
def Bz(s_:AL)(k:Int)(v:Int×Int×AL):Option (Int×AL):=Io (fun v=>BS s_ k v.1 v.2.1 v.2.2) v
def BU(s_:AL)(k:Int):Option ((Int)⊕((AL)⊕Unit)):= if k<(s_.length:Int)then ck (0≤k∧k.toNat<s_.length)<| ck (0≤ca.wrap (k-1)∧(ca.wrap (k-1)).toNat<s_.length)<| if(s_.getD k.toNat be)=(s_.getD ((ca.wrap (k-1)).toNat) be)then ck (0≤k)<| ck (k.toNat≤s_.length)<| (Bz s_ k (k,1,s_)).bind fun AZ=> ck (0≤AZ.1)<| ck (AZ.1.toNat≤AZ.2.length)<| ck (AZ.1.toNat+(AZ.2.length-AZ.1.toNat)≤AZ.2.length)<| ck (AZ.1.toNat≤(qZ AZ.2 AZ.1.toNat (ao (AZ.2.length-AZ.1.toNat) 0)).length)<| some (b8 (cb ((qZ AZ.2 AZ.1.toNat (ao (AZ.2.length-AZ.1.toNat) 0)).take AZ.1.toNat))) else some (cb (ca.wrap (k+1))) else some (b8 (b8 ()))
def Cj(s_:AL)(v:Int):Option ((AL)⊕Unit):=Io (fun v=>BU s_ v) v
def Cc(s_:AL):Option (AL):=
 if(s_.length:Int)<2 then
  some s_
 else
  (Cj s_ 1).bind fun CW=>
  match CW with
  | .inl q1001_=>
   some q1001_
  | .inr q1001_=>
   some s_
abbrev mY:List Nat:=[35,36,37,38,39,40,41,42,43,44]
def Tc:SC:= .seq (.seq (.ops [oM 29 5 3,oM 30 4 26,oN 31 30 26,oB 32 .lss 3 (tK 29) (tK 31) 3 4]) (.cond (tK 32) .skip (.exit 2))) (.seq (.block 3 (.seq (.draws [(⟨[35,4,4],mY,[35]⟩,oM 35 4 26),(⟨[36,5,5],mY,[36]⟩,oM 36 5 3),(⟨[37,35,36,4,5],mY,[37]⟩,oI 37 26 35 36),(⟨[38,37,4],mY,[38]⟩,oL 38 3 37 3),(⟨[39,4,4],mY,[39]⟩,oM 39 4 26),(⟨[40,5,5],mY,[40]⟩,oM 40 5 3),(⟨[41,40,5],mY,[41]⟩,oB 41 .sub 3 (tK 40) (iK 1) 3 3),(⟨[42,39,41,4,41],mY,[42]⟩,oI 42 26 39 41),(⟨[43,42,4],mY,[43]⟩,oL 43 3 42 3),(⟨[44,38,43,4,4],mY,[44]⟩,oB 44 .neq 3 (tK 38) (tK 43) 3 4)]) (.cond (tK 44) (.seq (.ops [oM 45 0 26,oM 46 3 3,oM 47 4 26,oM 48 5 3,oI 49 26 47 48,oL 50 3 49 3,oI 51 26 45 46,oS 3 51 50]) (.ops [oM 52 3 3,oB 53 .add 3 (tK 52) (iK 1) 3 3,oA 3 53 3])) .skip))) (.ops [oM 33 5 3,oB 34 .add 3 (tK 33) (iK 1) 3 3,oA 5 34 3]))
def dC:SC:= .loop Tc
abbrev Ul:List Nat:=[16,17,18,19,20,21,22,23,24,25]
def Td:SC:= .seq (.seq (.ops [oM 10 3 3,oM 11 0 26,oN 12 11 26,oB 13 .lss 3 (tK 10) (tK 12) 3 4]) (.cond (tK 13) .skip (.exit 0))) (.seq (.block 1 (.seq (.draws [(⟨[16,0,0],Ul,[16]⟩,oM 16 0 26),(⟨[17,3,3],Ul,[17]⟩,oM 17 3 3),(⟨[18,16,17,0,3],Ul,[18]⟩,oI 18 26 16 17),(⟨[19,18,0],Ul,[19]⟩,oL 19 3 18 3),(⟨[20,0,0],Ul,[20]⟩,oM 20 0 26),(⟨[21,3,3],Ul,[21]⟩,oM 21 3 3),(⟨[22,21,3],Ul,[22]⟩,oB 22 .sub 3 (tK 21) (iK 1) 3 3),(⟨[23,20,22,0,22],Ul,[23]⟩,oI 23 26 20 22),(⟨[24,23,0],Ul,[24]⟩,oL 24 3 23 3),(⟨[25,19,24,0,0],Ul,[25]⟩,oB 25 .eql 3 (tK 19) (tK 24) 3 4)]) (.cond (tK 25) (.seq (.ops [oM 26 0 26,oM 27 3 3,oX 28 (.slice 26 (tK 26) (some (tK 27)) none none) 900001,oA 4 28 26]) (.seq (.seq (.ops [oX 5 (.assign (iK 1)) 3]) (.block 2 dC)) (.seq (.ops [oM 54 0 26,oM 55 3 3,oX 56 (.slice 26 (tK 54) (some (tK 55)) none none) 900001,⟨none,(.call ⟨(.builtin .clear), #[(tK 56)], #[26]⟩),0,none⟩]) (.seq (.ops [oM 57 0 26,oM 58 3 3,oX 59 (.slice 26 (tK 57) none (some (tK 58)) none) 900002,oA 2 59 26]) .ret)))) .skip))) (.ops [oM 14 3 3,oB 15 .add 3 (tK 14) (iK 1) 3 3,oA 3 15 3]))
def dD:SC:= .loop Td
def A14:SC:= .seq (.ops [oX 2 O3 26]) (.seq (.seq (.ops [oM 6 0 26,oN 7 6 26,oB 8 .lss 3 (tK 7) (iK 2) 3 4]) (.cond (tK 8) (.seq (.ops [oM 9 0 26,oA 2 9 26]) .ret) .skip)) (.seq (.seq (.ops [oX 3 (.assign (iK 1)) 3]) (.block 0 dD)) (.seq (.ops [oM 60 0 26,oA 2 60 26]) .ret)))
theorem pV:Try.f120.body.map (Bi lends)=some A14:=by kernel_rfl
theorem A7y:CL Try.f120 1=true:=by kernel_rfl
theorem ADG{a l:List D}{r:D×List D}(h:CK Y.env A14 (Fx Ac l.length [cc 2] r) (entry a l))(ha:a.length=1):Y.call 120 a l=some r:=
 Ab (Y:=Y) rfl Try.func120 (ha▸A7y) pV h
def BG(s_:AL)(k:Int)(k1:Int)(k2:Int)(EY:AL)(s:St):Prop:=(∃w_,s.v 0=D.vw [100000] (s.k 100000) w_)∧s.v 3=bd .i64 k1∧(∃w_,s.v 4=D.vs 3 [100000] (s.k 100000) w_ k.toNat (s_.length-k.toNat))∧s.v 5=bd .i64 k2∧s.v 100000=cd 3 (AQ (bd .i64) EY)
def BV(s_:AL)(k:Int)(r:Int×AL)(ex:Ex)(s:St):Prop:=ex= .exit 2∧(∃w_,s.v 0=D.vw [100000] (s.k 100000) w_)∧s.v 3=bd .i64 r.1∧s.v 100000=cd 3 (AQ (bd .i64) r.2)
theorem Ip(s_:AL)(k:Int){v:Int×Int×AL}{s:St}{r:Int×AL}(h:Bz s_ k v=some r)(hM:BG s_ k v.1 v.2.1 v.2.2 s):CK Y.env dC (BV s_ k r) s:=by
 unfold Bz at h;refine Bc (c:=Tc) (fun v=>BS s_ k v.1 v.2.1 v.2.2) (fun v s=>BG s_ k v.1 v.2.1 v.2.2 s) (BV s_ k) ?_ h hM;clear h hM s v r;intro v s o hM h;obtain⟨k1,k2,EY⟩:=v;dsimp only at h hM;unfold BS at h;unfold BG at hM;obtain⟨⟨w0_,m0⟩,m1,⟨w2_,m2⟩,m3,m4⟩:=hM;unfold Tc;by_cases e8:k2<(((s_.length-k.toNat):Nat):Int)
 ·rw [if_pos e8]at h;obtain⟨e9,h⟩:=Bw h;obtain⟨e10,h⟩:=Bw h;obtain⟨e11,h⟩:=Bw h;obtain⟨e12,h⟩:=Bw h;obtain⟨e13,h⟩:=Bw h;by_cases e14:(EY.getD (k.toNat+k2.toNat) be)=(EY.getD (k.toNat+(ca.wrap (k2-1)).toNat) be)
  ·rw [if_pos e14]at h
   obtain rfl:=Option.some.inj h
   simp (maxDischargeDepth:=9) only [↓AP,AR,Ai,↓reduceIte,bj,bk,bl,bm,bo,bp,br,bt,bw,bx,bO,b0,b3,b4,b5,b6,b7,m0,m1,m2,m3,m4,e8,e9.1,e9.2,e10,e11,e12.1,e12.2,e13,decide_eq_true e14,BG,BV,Cm,Cn,Co]<;>(repeat' apply A7)<;>first|rfl|exact⟨_,rfl⟩|exact⟨_,_,rfl⟩|simp [AQ,A8]
  ·rw [if_neg e14]at h;obtain⟨e15,h⟩:=Bw h
   obtain rfl:=Option.some.inj h
   simp (maxDischargeDepth:=9) only [↓AP,AR,Ai,↓reduceIte,bj,bk,bl,bm,bo,bp,br,bt,bw,bx,bO,b0,b3,b4,b5,b6,b7,m0,m1,m2,m3,m4,e8,e9.1,e9.2,e10,e11,e12.1,e12.2,e13,e14,e15.1,e15.2,BG,BV,Cm,Cn,Co]<;>(repeat' apply A7)<;>first|rfl|exact⟨_,rfl⟩|exact⟨_,_,rfl⟩|simp [AQ,A8]
 ·rw [if_neg e8]at h
  obtain rfl:=Option.some.inj h
  simp (maxDischargeDepth:=9) only [↓AP,AR,Ai,↓reduceIte,bj,bk,bl,bm,bo,bp,br,bt,bw,bx,bO,b0,b3,b4,b5,b6,b7,m0,m1,m2,m3,m4,e8,BG,BV,Cm,Cn,Co]<;>(repeat' apply A7)<;>first|rfl|exact⟨_,rfl⟩|exact⟨_,_,rfl⟩|simp [AQ,A8]
def BH(s_:AL)(k:Int)(s:St):Prop:=(∃w_,s.v 0=D.vw [100000] (s.k 100000) w_)∧s.v 3=bd .i64 k∧s.v 100000=cd 3 (AQ (bd .i64) s_)
def BI(s_:AL)(r:(AL)⊕Unit)(ex:Ex)(s:St):Prop:=match r with
 | .inl q=>ex= .ret∧s.v 2=cd 3 (AQ (bd .i64) q)∧s.v 100000=D.undef
 | .inr q=>ex= .exit 0∧(∃w_,s.v 0=D.vw [100000] (s.k 100000) w_)∧s.v 100000=cd 3 (AQ (bd .i64) s_)
theorem Iq(s_:AL){v:Int}{s:St}{r:(AL)⊕Unit}(h:Cj s_ v=some r)(hM:BH s_ v s):CK Y.env dD (BI s_ r) s:=by
 unfold Cj at h;refine Bc (c:=Td) (fun v=>BU s_ v) (fun v s=>BH s_ v s) (BI s_) ?_ h hM;clear h hM s v r;intro k s o hM h;unfold BU at h;unfold BH at hM;obtain⟨⟨w0_,m0⟩,m1,m2⟩:=hM;unfold Td;by_cases e2:k<(s_.length:Int)
 ·rw [if_pos e2]at h;obtain⟨e3,h⟩:=Bw h;obtain⟨e4,h⟩:=Bw h;by_cases e5:(s_.getD k.toNat be)=(s_.getD ((ca.wrap (k-1)).toNat) be)
  ·rw [if_pos e5]at h;obtain⟨e6,h⟩:=Bw h;obtain⟨e7,h⟩:=Bw h;obtain⟨AZ,hl9,h⟩:=BA h;try dsimp only at h
   simp (maxDischargeDepth:=9) only [↓AP,AR,Ai,↓reduceIte,bj,bk,bl,bm,bo,bp,br,bt,bw,bx,bO,b0,b3,b4,b5,b6,b7,m0,m1,m2,e2,e3.1,e3.2,e4.1,e4.2,decide_eq_true e5,e6,e7];refine BM (Ip s_ k hl9 ?_) ?_
   ·simp (maxDischargeDepth:=9) only [↓AP,AR,Ai,↓reduceIte,bj,bk,bl,bm,bo,bp,br,bt,bw,bx,bO,b0,b3,b4,b5,b6,b7,m0,m1,m2,e2,e3.1,e3.2,e4.1,e4.2,decide_eq_true e5,e6,e7,BG]<;>(repeat' apply A7)<;>first|rfl|exact⟨_,rfl⟩|exact⟨_,_,rfl⟩|simp [AQ,A8]
   ·intro ex9 s9 hX9;unfold BV at hX9;obtain⟨rfl,⟨w0_,n9_0⟩,n9_1,n9_2⟩:=hX9;obtain⟨e10,h⟩:=Bw h;obtain⟨e11,h⟩:=Bw h;obtain⟨e12,h⟩:=Bw h;obtain⟨e13,h⟩:=Bw h
    obtain rfl:=Option.some.inj h
    simp (maxDischargeDepth:=9) only [↓AP,AR,Ai,↓reduceIte,bj,bk,bl,bm,bo,bp,br,bt,bw,bx,bO,b0,b3,b4,b5,b6,b7,e2,e3.1,e3.2,e4.1,e4.2,decide_eq_true e5,e6,e7,n9_0,n9_1,n9_2,e10,e11,e12,e13,BH,BI,Cm,Cn,Co]<;>(repeat' apply A7)<;>first|rfl|exact⟨_,rfl⟩|exact⟨_,_,rfl⟩|simp [AQ,A8]
  ·rw [if_neg e5]at h
   obtain rfl:=Option.some.inj h
   simp (maxDischargeDepth:=9) only [↓AP,AR,Ai,↓reduceIte,bj,bk,bl,bm,bo,bp,br,bt,bw,bx,bO,b0,b3,b4,b5,b6,b7,m0,m1,m2,e2,e3.1,e3.2,e4.1,e4.2,e5,BH,BI,Cm,Cn,Co]<;>(repeat' apply A7)<;>first|rfl|exact⟨_,rfl⟩|exact⟨_,_,rfl⟩|simp [AQ,A8]
 ·rw [if_neg e2]at h
  obtain rfl:=Option.some.inj h
  simp (maxDischargeDepth:=9) only [↓AP,AR,Ai,↓reduceIte,bj,bk,bl,bm,bo,bp,br,bt,bw,bx,bO,b0,b3,b4,b5,b6,b7,m0,m1,m2,e2,BH,BI,Cm,Cn,Co]<;>(repeat' apply A7)<;>first|rfl|exact⟨_,rfl⟩|exact⟨_,_,rfl⟩|simp [AQ,A8]
theorem J9(s_:AL){r:AL}(h:Cc s_=some r):Y.call 120 [D.vw [100000] 0 0] [cd 3 (AQ (bd .i64) s_)]=some (cd 3 (AQ (bd .i64) r),[D.undef]):=by
 refine ADG ?_ rfl;unfold A14;unfold Cc at h;by_cases e1:(s_.length:Int)<2
 ·rw [if_pos e1]at h
  obtain rfl:=Option.some.inj h
  simp (maxDischargeDepth:=9) only [↓AP,AR,Ai,↓reduceIte,bj,bk,bl,bm,bo,bp,br,bt,bw,bx,bO,b0,b3,b4,b5,b6,b7,e1]<;>(repeat' apply A7)<;>first|rfl|exact⟨_,rfl⟩|exact⟨_,_,rfl⟩|simp [AQ,A8]
 ·rw [if_neg e1]at h;obtain⟨CW,hl3,h⟩:=BA h;try dsimp only at h
  simp (maxDischargeDepth:=9) only [↓AP,AR,Ai,↓reduceIte,bj,bk,bl,bm,bo,bp,br,bt,bw,bx,bO,b0,b3,b4,b5,b6,b7,e1];refine BM (Iq s_ hl3 ?_) ?_
  ·simp (maxDischargeDepth:=9) only [↓AP,AR,Ai,↓reduceIte,bj,bk,bl,bm,bo,bp,br,bt,bw,bx,bO,b0,b3,b4,b5,b6,b7,e1,BH]<;>(repeat' apply A7)<;>first|rfl|exact⟨_,rfl⟩|exact⟨_,_,rfl⟩|simp [AQ,A8]
  ·intro ex3 s3 hX3;rcases CW with q1001_|q1001_
   ·unfold BI at hX3;dsimp only at hX3 h;obtain⟨rfl,n3_0,n3_1⟩:=hX3
    obtain rfl:=Option.some.inj h
    simp (maxDischargeDepth:=9) only [↓AP,AR,Ai,↓reduceIte,bj,bk,bl,bm,bo,bp,br,bt,bw,bx,bO,b0,b3,b4,b5,b6,b7,e1,n3_0,n3_1]<;>(repeat' apply A7)<;>first|rfl|exact⟨_,rfl⟩|exact⟨_,_,rfl⟩|simp [AQ,A8]
   ·unfold BI at hX3;dsimp only at hX3 h;obtain⟨rfl,⟨w0_,n3_0⟩,n3_1⟩:=hX3
    obtain rfl:=Option.some.inj h
    simp (maxDischargeDepth:=9) only [↓AP,AR,Ai,↓reduceIte,bj,bk,bl,bm,bo,bp,br,bt,bw,bx,bO,b0,b3,b4,b5,b6,b7,e1,n3_0,n3_1]<;>(repeat' apply A7)<;>first|rfl|exact⟨_,rfl⟩|exact⟨_,_,rfl⟩|simp [AQ,A8]
def NM(AC:Ar)(AY:AL)(AJ:AL)(task:Int)(outputs:AL):Option (Bool):= if task=1 then (Cf outputs).bind fun JQ=> ck (JQ.length<1099511627776)<| ck (0≤ca.wrap (((Ck JQ).length:Int)-1)∧(ca.wrap (((Ck JQ).length:Int)-1)).toNat<(Ck JQ).length)<| if((Ck JQ).getD ((ca.wrap (((Ck JQ).length:Int)-1)).toNat) be)=1 then if(ca.wrap (((Ck JQ).length:Int)-1))=0 then ck (0<(Ck JQ).length)<| some (decide (0≤((Ck JQ).getD 0 be))) else ck (0≤ca.wrap ((ca.wrap (((Ck JQ).length:Int)-1))-1)∧(ca.wrap ((ca.wrap (((Ck JQ).length:Int)-1))-1)).toNat<(Ck JQ).length)<| if((Ck JQ).getD ((ca.wrap ((ca.wrap (((Ck JQ).length:Int)-1))-1)).toNat) be)=0 then ck (0<(Ck JQ).length)<| some (decide (0≤((Ck JQ).getD 0 be))) else some false else some false else if task=2 then (Fz AC AY AJ).bind fun A15=> (Aa A15 (fun a0_0 a0_1 a0_2 a0_3=>LB a0_0 a0_1 a0_2 a0_3 outputs)).bind fun A7z=> some (!A7z) else (Cf outputs).bind fun lT=> ck (lT.length<1099511627776)<| (Cc (Ck lT)).bind fun az=> some (decide ((az.length:Int)=(outputs.length:Int)))
abbrev bA:List Nat:=[52,53,52,9,54,55,56,57,6,57,57]
def k70:SC:= .seq (.ops [oX 3 (.box 47 (tK 0)) 0,oX 5 (.box 26 (tK 2)) 0,oX 6 CJ 4]) (.seq (.seq (.ops [oM 10 1 3]) (.block 0 (.seq (.ops [oB 12 .eql 3 (tK 10) (iK 1) 3 4,oA 11 12 4]) (.cond (tK 11) (.seq (.ops [oL 13 26 5 26,oC 14 116 [(tK 13)] [26] 132,oC 15 115 [(tK 14)] [132] 26,oA 7 15 26]) (.seq (.ops [oM 16 7 26,oN 17 16 26,oB 18 .sub 3 (tK 17) (iK 1) 3 3,oA 8 18 3]) (.seq (.ops [oM 19 7 26,oM 20 8 3,oI 21 26 19 20,oL 22 3 21 3,oB 23 .eql 3 (tK 22) (iK 1) 3 4,oM 24 23 4,⟨(some 25),(.move (tK 8)),3,(some (some 24,true))⟩,⟨(some 26),(.binOp .eql 3 (tK 25) (iK 0) 3),4,(some (some 24,true))⟩,⟨(some 27),(.move (tK 26)),4,(some (some 24,true))⟩,⟨(some 28),(.move (tK 7)),26,(some (some 27,false))⟩,⟨(some 29),(.move (tK 8)),3,(some (some 27,false))⟩,⟨(some 30),(.binOp .sub 3 (tK 29) (iK 1) 3),3,(some (some 27,false))⟩,⟨(some 31),(.indexAddr 26 (tK 28) (tK 30)),0,(some (some 27,false))⟩,⟨(some 32),(.load 3 (tK 31)),3,(some (some 27,false))⟩,⟨(some 33),(.binOp .eql 3 (tK 32) (iK 0) 3),4,(some (some 27,false))⟩,⟨(some 34),(.pick (tK 27) FR (tK 33)),4,(some (some 24,true))⟩,oX 35 (.pick (tK 24) (tK 34) O5) 4,oM 36 35 4,⟨(some 37),(.move (tK 7)),26,(some (some 36,true))⟩,
 ⟨(some 38),(.indexAddr 26 (tK 37) (iK 0)),0,(some (some 36,true))⟩,⟨(some 39),(.load 3 (tK 38)),3,(some (some 36,true))⟩,⟨(some 40),(.binOp .geq 3 (tK 39) (iK 0) 3),4,(some (some 36,true))⟩,oX 41 (.pick (tK 36) (tK 40) O5) 4,oA 6 41 4]) .ret))) (.seq (.ops [oB 43 .eql 3 (tK 10) (iK 2) 3 4,oA 42 43 4]) (.cond (tK 42) (.seq (.ops [oL 44 47 3 47,oC 45 118 [(tK 44)] [47] 135,oX 46 (.makeFunc (Fn.func 119) #[] #[(tK 5)]) 139,oC 47 117 [(tK 45),(tK 46)] [135,139] 4,oX 48 (.unOp .not 4 (tK 47)) 4,oA 6 48 4]) .ret) .skip)))))) (.seq (.ops [oL 49 26 5 26,oC 50 116 [(tK 49)] [26] 132,oC 51 115 [(tK 50)] [132] 26,oA 9 51 26]) (.seq (.draws [(⟨[52,9,9],bA,[52]⟩,oM 52 9 26),(⟨[53,52,9],bA,[53,52,9]⟩,oC 53 120 [(tK 52)] [26] 26),(⟨[54,53,53],bA,[54]⟩,oN 54 53 26),(⟨[55,5,5],bA,[55]⟩,oL 55 26 5 26),(⟨[56,55,5],bA,[56]⟩,oN 56 55 26),(⟨[57,54,56,54,56],bA,[57]⟩,oB 57 .eql 3 (tK 54) (tK 56) 3 4),(⟨[6,57,57],bA,[6,57,57]⟩,oA 6 57 4)]) .ret)))
theorem A16:Try.f70.body.map (Bi lends)=some k70:=by kernel_rfl
theorem ADI:CL Try.f70 3=true:=by kernel_rfl
theorem c70{a l:List D}{r:D×List D}(h:CK Y.env k70 (Fx Ac l.length [cc 6] r) (entry a l))(ha:a.length=3):Y.call 70 a l=some r:=
 Ab (Y:=Y) rfl Try.func70 (ha▸ADI) A16 h
theorem X3(AC:Ar)(AY:AL)(AJ:AL)(task:Int)(outputs:AL){r:Bool}(h:NM AC AY AJ task outputs=some r):Y.call 70 [ce [bh 123 (AQ (fun x=>bh 125 (Aw .i64 .i64 x)) AC),bh 3 (AQ (bd .i64) AY),bh 3 (AQ (bd .i64) AJ)],bd .i64 task,bh 3 (AQ (bd .i64) outputs)] []=some (b9 r,[]):=by
 refine c70 ?_ rfl;unfold k70;unfold NM at h;by_cases e1:task=1
 ·rw [if_pos e1]at h;obtain⟨JQ,hl2,h⟩:=BA h;try dsimp only at h
  have c2:=FX outputs hl2;obtain⟨e3,h⟩:=Bw h;have c4:=Sr JQ e3;obtain⟨e5,h⟩:=Bw h;by_cases e6:((Ck JQ).getD ((ca.wrap (((Ck JQ).length:Int)-1)).toNat) be)=1
  ·rw [if_pos e6]at h;by_cases e7:(ca.wrap (((Ck JQ).length:Int)-1))=0
   ·rw [if_pos e7]at h;obtain⟨e8,h⟩:=Bw h
    obtain rfl:=Option.some.inj h
    simp (maxDischargeDepth:=9) only [↓AP,AR,Ai,↓reduceIte,bj,bk,bl,bm,bo,bp,br,bt,bw,bx,bO,b0,b3,b4,b5,b6,b7,decide_eq_true e1,c2,e3,c4,e5.1,e5.2,decide_eq_true e6,decide_eq_true e7,e8]<;>(repeat' apply A7)<;>first|rfl|exact⟨_,rfl⟩|exact⟨_,_,rfl⟩|simp [AQ,A8]
   ·rw [if_neg e7]at h;obtain⟨e8,h⟩:=Bw h;by_cases e9:((Ck JQ).getD ((ca.wrap ((ca.wrap (((Ck JQ).length:Int)-1))-1)).toNat) be)=0
    ·rw [if_pos e9]at h;obtain⟨e10,h⟩:=Bw h
     obtain rfl:=Option.some.inj h
     simp (maxDischargeDepth:=9) only [↓AP,AR,Ai,↓reduceIte,bj,bk,bl,bm,bo,bp,br,bt,bw,bx,bO,b0,b3,b4,b5,b6,b7,decide_eq_true e1,c2,e3,c4,e5.1,e5.2,decide_eq_true e6,e7,e8.1,e8.2,decide_eq_true e9,e10]<;>(repeat' apply A7)<;>first|rfl|exact⟨_,rfl⟩|exact⟨_,_,rfl⟩|simp [AQ,A8]
    ·rw [if_neg e9]at h
     obtain rfl:=Option.some.inj h
     simp (maxDischargeDepth:=9) only [↓AP,AR,Ai,↓reduceIte,bj,bk,bl,bm,bo,bp,br,bt,bw,bx,bO,b0,b3,b4,b5,b6,b7,decide_eq_true e1,c2,e3,c4,e5.1,e5.2,decide_eq_true e6,e7,e8.1,e8.2,e9]<;>(repeat' apply A7)<;>first|rfl|exact⟨_,rfl⟩|exact⟨_,_,rfl⟩|simp [AQ,A8]
  ·rw [if_neg e6]at h
   obtain rfl:=Option.some.inj h
   simp (maxDischargeDepth:=9) only [↓AP,AR,Ai,↓reduceIte,bj,bk,bl,bm,bo,bp,br,bt,bw,bx,bO,b0,b3,b4,b5,b6,b7,decide_eq_true e1,c2,e3,c4,e5.1,e5.2,e6]<;>(repeat' apply A7)<;>first|rfl|exact⟨_,rfl⟩|exact⟨_,_,rfl⟩|simp [AQ,A8]
 ·rw [if_neg e1]at h;by_cases e2:task=2
  ·rw [if_pos e2]at h;obtain⟨A15,hl3,h⟩:=BA h;try dsimp only at h
   have c3:=Mw AC AY AJ hl3;obtain⟨A7z,hl4,h⟩:=BA h;try dsimp only at h
   have c4:=Bb A15 (fun a0_0 a0_1 a0_2 a0_3=>LB a0_0 a0_1 a0_2 a0_3 outputs) 119 [D.cptr [bh 3 (AQ (bd .i64) outputs)]] (fun a0_0 a0_1 a0_2 a0_3 _ hh=>Ta a0_0 a0_1 a0_2 a0_3 outputs hh) kr hl4
   obtain rfl:=Option.some.inj h
   simp (maxDischargeDepth:=9) only [↓AP,AR,Ai,↓reduceIte,bj,bk,bl,bm,bo,bp,br,bt,bw,bx,bO,b0,b3,b4,b5,b6,b7,e1,decide_eq_true e2,c3,c4]<;>(repeat' apply A7)<;>first|rfl|exact⟨_,rfl⟩|exact⟨_,_,rfl⟩|simp [AQ,A8]
  ·rw [if_neg e2]at h;obtain⟨lT,hl3,h⟩:=BA h;try dsimp only at h
   have c3:=FX outputs hl3;obtain⟨e4,h⟩:=Bw h;have c5:=Sr lT e4;obtain⟨az,hl6,h⟩:=BA h;try dsimp only at h
   have c6:=J9 (Ck lT) hl6
   obtain rfl:=Option.some.inj h
   simp (maxDischargeDepth:=9) only [↓AP,AR,Ai,↓reduceIte,bj,bk,bl,bm,bo,bp,br,bt,bw,bx,bO,b0,b3,b4,b5,b6,b7,e1,e2,c3,e4,c5,c6]<;>(repeat' apply A7)<;>first|rfl|exact⟨_,rfl⟩|exact⟨_,_,rfl⟩|simp [AQ,A8]
def GN(AC:Ar)(v_:Int)(out:AL)(X4:Int):Option ((AL×Int)⊕(AL)):= if X4<((AC.getD v_.toNat be).length:Int)then ck (0≤X4∧X4.toNat<(AC.getD v_.toNat be).length)<| ck (out.length+1<1099511627776)<| some (cb ((out++[(BJ (AC.getD v_.toNat be) X4.toNat)]),ca.wrap (X4+1))) else some (b8 out)
def KZ(AC:Ar)(v_:Int)(v:AL×Int):Option (AL):=Io (fun v=>GN AC v_ v.1 v.2) v
def Mx(AC:Ar)(AY:AL)(AJ:AL)(v_:Int):Option (AL):= ck (0≤v_∧v_.toNat<AC.length)<| (KZ AC v_ ([],0)).bind fun AZ=> some AZ
def Te:SC:= .seq (.ops [oB 15 .lss 3 (tK 14) (tK 13) 3 0]) (.seq (.cond (tK 15) .skip (.exit 0)) (.seq (.block 1 (.seq (.ops [oI 16 123 12 14,oL 17 125 16 125,oX 7 (.alloc 125) 0,oS 125 7 17]) (.ops [oM 18 5 26,oF 19 125 7 0,oL 20 3 19 3,oX 21 (.buildSlice 26 1 #[(0,(tK 20))]) 26,oX 22 (.call ⟨(.builtin .append), #[(tK 18),(tK 21)], #[26,26]⟩) 26,oA 5 22 26]))) (.ops [oB 23 .add 3 (tK 14) (iK 1) 3 3,oM 14 23 3])))
def dE:SC:= .loop Te
def A17:SC:= .seq (.ops [oX 2 (.box 47 (tK 0)) 0,oX 4 O3 26]) (.seq (.ops [oX 5 O3 26]) (.seq (.seq (.ops [oF 8 47 2 0,oL 9 45 8 45,oM 10 1 3,oI 11 45 9 10,oL 12 123 11 123,oN 13 12 123,oX 14 (.move (iK 0)) 3]) (.block 0 dE)) (.seq (.ops [oM 24 5 26,oA 4 24 26]) .ret)))
theorem pW:Try.f129.body.map (Bi lends)=some A17:=by kernel_rfl
theorem A80:CL Try.f129 2=true:=by kernel_rfl
theorem ADJ{a l:List D}{r:D×List D}(h:CK Y.env A17 (Fx Ac l.length [cc 4] r) (entry a l))(ha:a.length=2):Y.call 129 a l=some r:=
 Ab (Y:=Y) rfl Try.func129 (ha▸A80) pW h
def GQ(AC:Ar)(v_:Int)(out:AL)(X4:Int)(s:St):Prop:=s.v 5=cd 3 (AQ (bd .i64) out)∧s.v 12=bh 125 (Aw .i64 .i64 (AC.getD v_.toNat be))∧s.v 13=bd .i64 ((AC.getD v_.toNat be).length:Int)∧s.v 14=bd .i64 X4
def I6(AC:Ar)(v_:Int)(r:AL)(ex:Ex)(s:St):Prop:=ex= .exit 0∧s.v 5=cd 3 (AQ (bd .i64) r)
theorem Tf(AC:Ar)(v_:Int){v:AL×Int}{s:St}{r:AL}(h:KZ AC v_ v=some r)(hM:GQ AC v_ v.1 v.2 s):CK Y.env dE (I6 AC v_ r) s:=by
 unfold KZ at h;refine Bc (c:=Te) (fun v=>GN AC v_ v.1 v.2) (fun v s=>GQ AC v_ v.1 v.2 s) (I6 AC v_) ?_ h hM;clear h hM s v r;intro v s o hM h;obtain⟨out,X4⟩:=v;dsimp only at h hM;unfold GN at h;unfold GQ at hM;obtain⟨m0,m1,m2,m3⟩:=hM;unfold Te;by_cases e2:X4<((AC.getD v_.toNat be).length:Int)
 ·rw [if_pos e2]at h;obtain⟨e3,h⟩:=Bw h;obtain⟨e4,h⟩:=Bw h
  obtain rfl:=Option.some.inj h
  simp (maxDischargeDepth:=9) only [↓AP,AR,Ai,↓reduceIte,bj,bk,bl,bm,bo,bp,br,bt,bw,bx,bO,b0,b3,b4,b5,b6,b7,m0,m1,m2,m3,e2,e3.1,e3.2,e4,GQ,I6,Cm,Cn,Co]<;>(repeat' apply A7)<;>first|rfl|exact⟨_,rfl⟩|exact⟨_,_,rfl⟩|simp [AQ,A8]
 ·rw [if_neg e2]at h
  obtain rfl:=Option.some.inj h
  simp (maxDischargeDepth:=9) only [↓AP,AR,Ai,↓reduceIte,bj,bk,bl,bm,bo,bp,br,bt,bw,bx,bO,b0,b3,b4,b5,b6,b7,m0,m1,m2,m3,e2,GQ,I6,Cm,Cn,Co]<;>(repeat' apply A7)<;>first|rfl|exact⟨_,rfl⟩|exact⟨_,_,rfl⟩|simp [AQ,A8]
theorem Um(AC:Ar)(AY:AL)(AJ:AL)(v_:Int){r:AL}(h:Mx AC AY AJ v_=some r):Y.call 129 [ce [bh 123 (AQ (fun x=>bh 125 (Aw .i64 .i64 x)) AC),bh 3 (AQ (bd .i64) AY),bh 3 (AQ (bd .i64) AJ)],bd .i64 v_] []=some (cd 3 (AQ (bd .i64) r),[]):=by
 refine ADJ ?_ rfl;unfold A17;unfold Mx at h;obtain⟨e1,h⟩:=Bw h;obtain⟨AZ,hl3,h⟩:=BA h;try dsimp only at h
 simp (maxDischargeDepth:=9) only [↓AP,AR,Ai,↓reduceIte,bj,bk,bl,bm,bo,bp,br,bt,bw,bx,bO,b0,b3,b4,b5,b6,b7,e1.1,e1.2];refine BM (Tf AC v_ hl3 ?_) ?_
 ·simp (maxDischargeDepth:=9) only [↓AP,AR,Ai,↓reduceIte,bj,bk,bl,bm,bo,bp,br,bt,bw,bx,bO,b0,b3,b4,b5,b6,b7,e1.1,e1.2,GQ]<;>(repeat' apply A7)<;>first|rfl|exact⟨_,rfl⟩|exact⟨_,_,rfl⟩|simp [AQ,A8]
 ·intro ex3 s3 hX3;unfold I6 at hX3;obtain⟨rfl,n3_0⟩:=hX3
  obtain rfl:=Option.some.inj h
  simp (maxDischargeDepth:=9) only [↓AP,AR,Ai,↓reduceIte,bj,bk,bl,bm,bo,bp,br,bt,bw,bx,bO,b0,b3,b4,b5,b6,b7,e1.1,e1.2,n3_0]<;>(repeat' apply A7)<;>first|rfl|exact⟨_,rfl⟩|exact⟨_,_,rfl⟩|simp [AQ,A8]
def GR(AC:Ar)(AY:AL)(AJ:AL)(l:AL)(I7:Int)(II:AL)(v_:Int):Option ((Int)⊕(Int⊕Unit)):= if v_<(AC.length:Int)then ck (II.length<1099511627776)<| if(II.contains v_)=true then ck (0≤I7∧I7.toNat<l.length)<| ck (0≤v_∧v_.toNat<l.length)<| if(l.getD I7.toNat be)=(l.getD v_.toNat be)then some (b8 (cb v_)) else some (cb (ca.wrap (v_+1))) else some (cb (ca.wrap (v_+1))) else some (b8 (b8 ()))
def JR(AC:Ar)(AY:AL)(AJ:AL)(l:AL)(I7:Int)(II:AL)(v:Int):Option (Int⊕Unit):=Io (fun v=>GR AC AY AJ l I7 II v) v
def GU(AC:Ar)(AY:AL)(AJ:AL)(l:AL)(I7:Int):Option ((Int)⊕((Int×Int)⊕Unit)):=
 if I7<(AC.length:Int)then
  (Mx AC AY AJ I7).bind fun II=>
  (JR AC AY AJ l I7 II I7).bind fun AZ=>
  match AZ with
  | .inl q1000_=>
   some (b8 (cb (I7,q1000_)))
  | .inr q1000_=>
   some (cb (ca.wrap (I7+1)))
 else
  some (b8 (b8 ()))
def Ka(AC:Ar)(AY:AL)(AJ:AL)(l:AL)(v:Int):Option ((Int×Int)⊕Unit):=Io (fun v=>GU AC AY AJ l v) v
def N7(AC:Ar)(AY:AL)(AJ:AL)(l:AL):Option (Int×Int×Bool):=
 (Ka AC AY AJ l 0).bind fun CW=>
 match CW with
 | .inl q1001_=>
  some (q1001_.1,q1001_.2,true)
 | .inr q1001_=>
  some (0,0,false)
abbrev PD:List Nat:=[27,28,29,30,29,31,32,33,34,35,36,37,38,39,40]
def X5:SC:= .seq (.seq (.ops [oM 20 9 3,oF 21 47 2 0,oL 22 45 21 45,oN 23 22 45,oB 24 .lss 3 (tK 20) (tK 23) 3 4]) (.cond (tK 24) .skip (.exit 2))) (.seq (.block 3 (.seq (.draws [(⟨[27,8,8],PD,[27]⟩,oM 27 8 26),(⟨[28,9,9],PD,[28]⟩,oM 28 9 3),(⟨[29,27,28,8,9],PD,[29]⟩,oC 29 89 [(tK 27),(tK 28)] [26,3] 4),(⟨[30,29,29],PD,[30,29]⟩,oM 30 29 4),(⟨[31,1,1,30],PD,[31]⟩,⟨(some 31),(.move (tK 1)),26,(some (some 30,true))⟩),(⟨[32,7,7,30],PD,[32]⟩,⟨(some 32),(.move (tK 7)),3,(some (some 30,true))⟩),(⟨[33,31,32,1,7,30],PD,[33]⟩,⟨(some 33),(.indexAddr 26 (tK 31) (tK 32)),0,(some (some 30,true))⟩),(⟨[34,33,1,30],PD,[34]⟩,⟨(some 34),(.load 3 (tK 33)),3,(some (some 30,true))⟩),(⟨[35,1,1,30],PD,[35]⟩,⟨(some 35),(.move (tK 1)),26,(some (some 30,true))⟩),(⟨[36,9,9,30],PD,[36]⟩,⟨(some 36),(.move (tK 9)),3,(some (some 30,true))⟩),(⟨[37,35,36,1,9,30],PD,[37]⟩,⟨(some 37),(.indexAddr 26 (tK 35) (tK 36)),0,(some (some 30,true))⟩),(⟨[38,37,1,30],PD,[38]⟩,⟨(some 38),(.load 3 (tK 37)),3,(some (some 30,true))⟩),(⟨[39,34,38,1,1,30],PD,[39]⟩,⟨(some 39),(.binOp .eql 3 (tK 34) (tK 38) 3),4,(some (some 30,true))⟩),(⟨[40,30,39,29,39],PD,[40]⟩,oX 40 (.pick (tK 30) (tK 39) O5) 4)]) (.cond (tK 40) (.seq
 (.ops [oM 41 7 3,oM 42 9 3,oA 4 41 3,oA 5 42 3,oX 6 (.assign FR) 4]) .ret) .skip))) (.ops [oM 25 9 3,oB 26 .add 3 (tK 25) (iK 1) 3 3,oA 9 26 3]))
def lU:SC:= .loop X5
def X6:SC:= .seq (.ops [oB 14 .lss 3 (tK 13) (tK 12) 3 0]) (.seq (.cond (tK 14) .skip (.exit 0)) (.seq (.block 1 (.seq (.ops [oM 15 13 3,oA 7 15 3]) (.seq (.ops [oL 16 47 2 47,oM 17 7 3,oC 18 129 [(tK 16),(tK 17)] [47,3] 26,oA 8 18 26]) (.seq (.ops [oM 19 7 3,oA 9 19 3]) (.block 2 lU))))) (.ops [oB 43 .add 3 (tK 13) (iK 1) 3 3,oM 13 43 3])))
def lV:SC:= .loop X6
def k80:SC:= .seq (.ops [oX 2 (.box 47 (tK 0)) 0,oX 4 (.assign (iK 0)) 3,oX 5 (.assign (iK 0)) 3,oX 6 CJ 4]) (.seq (.seq (.ops [oF 10 47 2 0,oL 11 45 10 45,oN 12 11 45,oX 13 (.move (iK 0)) 3]) (.block 0 lV)) (.seq (.ops [oX 4 (.assign (iK 0)) 3,oX 5 (.assign (iK 0)) 3,oX 6 CJ 4]) .ret))
theorem A18:Try.f80.body.map (Bi lends)=some k80:=by kernel_rfl
theorem ADL:CL Try.f80 2=true:=by kernel_rfl
theorem c80{a l:List D}{r:D×List D}(h:CK Y.env k80 (Fx Ac l.length [cc 4,cc 5,cc 6] r) (entry a l))(ha:a.length=2):Y.call 80 a l=some r:=
 Ab (Y:=Y) rfl Try.func80 (ha▸ADL) A18 h
def EF(AC:Ar)(AY:AL)(AJ:AL)(l:AL)(I7:Int)(II:AL)(v_:Int)(s:St):Prop:=s.v 1=bh 3 (AQ (bd .i64) l)∧s.v 2=cg [bh 123 (AQ (fun x=>bh 125 (Aw .i64 .i64 x)) AC),bh 3 (AQ (bd .i64) AY),bh 3 (AQ (bd .i64) AJ)]∧s.v 7=bd .i64 I7∧s.v 8=cd 3 (AQ (bd .i64) II)∧s.v 9=bd .i64 v_∧s.v 12=bd .i64 (AC.length:Int)∧s.v 13=bd .i64 I7
def EG(AC:Ar)(AY:AL)(AJ:AL)(l:AL)(I7:Int)(II:AL)(r:Int⊕Unit)(ex:Ex)(s:St):Prop:=match r with
 | .inl q=>ex= .ret∧s.v 4=bd .i64 I7∧s.v 5=bd .i64 q∧s.v 6=b9 true
 | .inr q=>ex= .exit 2∧s.v 1=bh 3 (AQ (bd .i64) l)∧s.v 2=cg [bh 123 (AQ (fun x=>bh 125 (Aw .i64 .i64 x)) AC),bh 3 (AQ (bd .i64) AY),bh 3 (AQ (bd .i64) AJ)]∧s.v 12=bd .i64 (AC.length:Int)∧s.v 13=bd .i64 I7
theorem Tg(AC:Ar)(AY:AL)(AJ:AL)(l:AL)(I7:Int)(II:AL){v:Int}{s:St}{r:Int⊕Unit}(h:JR AC AY AJ l I7 II v=some r)(hM:EF AC AY AJ l I7 II v s):CK Y.env lU (EG AC AY AJ l I7 II r) s:=by
 unfold JR at h;refine Bc (c:=X5) (fun v=>GR AC AY AJ l I7 II v) (fun v s=>EF AC AY AJ l I7 II v s) (EG AC AY AJ l I7 II) ?_ h hM;clear h hM s v r;intro v_ s o hM h;unfold GR at h;unfold EF at hM;obtain⟨m0,m1,m2,m3,m4,m5,m6⟩:=hM;unfold X5;by_cases e3:v_<(AC.length:Int)
 ·rw [if_pos e3]at h;obtain⟨e4,h⟩:=Bw h;have c5:=Lm II v_ e4;by_cases e6:(II.contains v_)=true
  ·rw [if_pos e6]at h;obtain⟨e7,h⟩:=Bw h;obtain⟨e8,h⟩:=Bw h;by_cases e9:(l.getD I7.toNat be)=(l.getD v_.toNat be)
   ·rw [if_pos e9]at h
    obtain rfl:=Option.some.inj h
    simp (maxDischargeDepth:=9) only [↓AP,AR,Ai,↓reduceIte,bj,bk,bl,bm,bo,bp,br,bt,bw,bx,bO,b0,b3,b4,b5,b6,b7,m0,m1,m2,m3,m4,m5,m6,e3,e4,c5,e6,e7.1,e7.2,e8.1,e8.2,decide_eq_true e9,EF,EG,Cm,Cn,Co]<;>(repeat' apply A7)<;>first|rfl|exact⟨_,rfl⟩|exact⟨_,_,rfl⟩|simp [AQ,A8]
   ·rw [if_neg e9]at h
    obtain rfl:=Option.some.inj h
    simp (maxDischargeDepth:=9) only [↓AP,AR,Ai,↓reduceIte,bj,bk,bl,bm,bo,bp,br,bt,bw,bx,bO,b0,b3,b4,b5,b6,b7,m0,m1,m2,m3,m4,m5,m6,e3,e4,c5,e6,e7.1,e7.2,e8.1,e8.2,e9,EF,EG,Cm,Cn,Co]<;>(repeat' apply A7)<;>first|rfl|exact⟨_,rfl⟩|exact⟨_,_,rfl⟩|simp [AQ,A8]
  ·rw [if_neg e6]at h;have e6f:(II.contains v_)=false:=JF.mpr e6
   obtain rfl:=Option.some.inj h
   simp (maxDischargeDepth:=9) only [↓AP,AR,Ai,↓reduceIte,bj,bk,bl,bm,bo,bp,br,bt,bw,bx,bO,b0,b3,b4,b5,b6,b7,m0,m1,m2,m3,m4,m5,m6,e3,e4,c5,e6f,EF,EG,Cm,Cn,Co]<;>(repeat' apply A7)<;>first|rfl|exact⟨_,rfl⟩|exact⟨_,_,rfl⟩|simp [AQ,A8]
 ·rw [if_neg e3]at h
  obtain rfl:=Option.some.inj h
  simp (maxDischargeDepth:=9) only [↓AP,AR,Ai,↓reduceIte,bj,bk,bl,bm,bo,bp,br,bt,bw,bx,bO,b0,b3,b4,b5,b6,b7,m0,m1,m2,m3,m4,m5,m6,e3,EF,EG,Cm,Cn,Co]<;>(repeat' apply A7)<;>first|rfl|exact⟨_,rfl⟩|exact⟨_,_,rfl⟩|simp [AQ,A8]
def Ev(AC:Ar)(AY:AL)(AJ:AL)(l:AL)(I7:Int)(s:St):Prop:=s.v 1=bh 3 (AQ (bd .i64) l)∧s.v 2=cg [bh 123 (AQ (fun x=>bh 125 (Aw .i64 .i64 x)) AC),bh 3 (AQ (bd .i64) AY),bh 3 (AQ (bd .i64) AJ)]∧s.v 12=bd .i64 (AC.length:Int)∧s.v 13=bd .i64 I7
def Ew(AC:Ar)(AY:AL)(AJ:AL)(l:AL)(r:(Int×Int)⊕Unit)(ex:Ex)(s:St):Prop:=match r with
 | .inl q=>ex= .ret∧s.v 4=bd .i64 q.1∧s.v 5=bd .i64 q.2∧s.v 6=b9 true
 | .inr q=>ex= .exit 0
theorem Ti(AC:Ar)(AY:AL)(AJ:AL)(l:AL){v:Int}{s:St}{r:(Int×Int)⊕Unit}(h:Ka AC AY AJ l v=some r)(hM:Ev AC AY AJ l v s):CK Y.env lV (Ew AC AY AJ l r) s:=by
 unfold Ka at h;refine Bc (c:=X6) (fun v=>GU AC AY AJ l v) (fun v s=>Ev AC AY AJ l v s) (Ew AC AY AJ l) ?_ h hM;clear h hM s v r;intro I7 s o hM h;unfold GU at h;unfold Ev at hM;obtain⟨m0,m1,m2,m3⟩:=hM;unfold X6;by_cases e1:I7<(AC.length:Int)
 ·rw [if_pos e1]at h;obtain⟨II,hl2,h⟩:=BA h;try dsimp only at h
  have c2:=Um AC AY AJ I7 hl2;obtain⟨AZ,hl4,h⟩:=BA h;try dsimp only at h
  simp (maxDischargeDepth:=9) only [↓AP,AR,Ai,↓reduceIte,bj,bk,bl,bm,bo,bp,br,bt,bw,bx,bO,b0,b3,b4,b5,b6,b7,m0,m1,m2,m3,e1,c2];refine BM (Tg AC AY AJ l I7 II hl4 ?_) ?_
  ·simp (maxDischargeDepth:=9) only [↓AP,AR,Ai,↓reduceIte,bj,bk,bl,bm,bo,bp,br,bt,bw,bx,bO,b0,b3,b4,b5,b6,b7,m0,m1,m2,m3,e1,c2,EF]<;>(repeat' apply A7)<;>first|rfl|exact⟨_,rfl⟩|exact⟨_,_,rfl⟩|simp [AQ,A8]
  ·intro ex4 s4 hX4;rcases AZ with q1000_|q1000_
   ·unfold EG at hX4;dsimp only at hX4 h;obtain⟨rfl,n4_0,n4_1,n4_2⟩:=hX4
    obtain rfl:=Option.some.inj h
    simp (maxDischargeDepth:=9) only [↓AP,AR,Ai,↓reduceIte,bj,bk,bl,bm,bo,bp,br,bt,bw,bx,bO,b0,b3,b4,b5,b6,b7,e1,c2,n4_0,n4_1,n4_2,Ev,Ew,Cm,Cn,Co]<;>(repeat' apply A7)<;>first|rfl|exact⟨_,rfl⟩|exact⟨_,_,rfl⟩|simp [AQ,A8]
   ·unfold EG at hX4;dsimp only at hX4 h;obtain⟨rfl,n4_0,n4_1,n4_2,n4_3⟩:=hX4
    obtain rfl:=Option.some.inj h
    simp (maxDischargeDepth:=9) only [↓AP,AR,Ai,↓reduceIte,bj,bk,bl,bm,bo,bp,br,bt,bw,bx,bO,b0,b3,b4,b5,b6,b7,e1,c2,n4_0,n4_1,n4_2,n4_3,Ev,Ew,Cm,Cn,Co]<;>(repeat' apply A7)<;>first|rfl|exact⟨_,rfl⟩|exact⟨_,_,rfl⟩|simp [AQ,A8]
 ·rw [if_neg e1]at h
  obtain rfl:=Option.some.inj h
  simp (maxDischargeDepth:=9) only [↓AP,AR,Ai,↓reduceIte,bj,bk,bl,bm,bo,bp,br,bt,bw,bx,bO,b0,b3,b4,b5,b6,b7,m0,m1,m2,m3,e1,Ev,Ew,Cm,Cn,Co]<;>(repeat' apply A7)<;>first|rfl|exact⟨_,rfl⟩|exact⟨_,_,rfl⟩|simp [AQ,A8]
theorem Un(AC:Ar)(AY:AL)(AJ:AL)(l:AL){r:Int×Int×Bool}(h:N7 AC AY AJ l=some r):Y.call 80 [ce [bh 123 (AQ (fun x=>bh 125 (Aw .i64 .i64 x)) AC),bh 3 (AQ (bd .i64) AY),bh 3 (AQ (bd .i64) AJ)],bh 3 (AQ (bd .i64) l)] []=some (D.tup [bd .i64 r.1,bd .i64 r.2.1,b9 r.2.2],[]):=by
 refine c80 ?_ rfl;unfold k80;unfold N7 at h;obtain⟨CW,hl2,h⟩:=BA h;try dsimp only at h
 simp (maxDischargeDepth:=9) only [↓AP,AR,Ai,↓reduceIte,bj,bk,bl,bm,bo,bp,br,bt,bw,bx,bO,b0,b3,b4,b5,b6,b7];refine BM (Ti AC AY AJ l hl2 ?_) ?_
 ·simp (maxDischargeDepth:=9) only [↓AP,AR,Ai,↓reduceIte,bj,bk,bl,bm,bo,bp,br,bt,bw,bx,bO,b0,b3,b4,b5,b6,b7,Ev]<;>(repeat' apply A7)<;>first|rfl|exact⟨_,rfl⟩|exact⟨_,_,rfl⟩|simp [AQ,A8]
 ·intro ex2 s2 hX2;rcases CW with q1001_|q1001_
  ·unfold Ew at hX2;dsimp only at hX2 h;obtain⟨rfl,n2_0,n2_1,n2_2⟩:=hX2
   obtain rfl:=Option.some.inj h
   simp (maxDischargeDepth:=9) only [↓AP,AR,Ai,↓reduceIte,bj,bk,bl,bm,bo,bp,br,bt,bw,bx,bO,b0,b3,b4,b5,b6,b7,n2_0,n2_1,n2_2]<;>(repeat' apply A7)<;>first|rfl|exact⟨_,rfl⟩|exact⟨_,_,rfl⟩|simp [AQ,A8]
  ·unfold Ew at hX2;dsimp only at hX2 h
   obtain rfl:=hX2
   obtain rfl:=Option.some.inj h
   simp (maxDischargeDepth:=9) only [↓AP,AR,Ai,↓reduceIte,bj,bk,bl,bm,bo,bp,br,bt,bw,bx,bO,b0,b3,b4,b5,b6,b7]<;>(repeat' apply A7)<;>first|rfl|exact⟨_,rfl⟩|exact⟨_,_,rfl⟩|simp [AQ,A8]
def GV(l:AL)(FY:Int)(v_:Int):Option ((Int)⊕(Int⊕Unit)):= if v_<(l.length:Int)then ck (0≤FY∧FY.toNat<l.length)<| ck (0≤v_∧v_.toNat<l.length)<| if(l.getD FY.toNat be)=(l.getD v_.toNat be)then some (b8 (cb v_)) else some (cb (ca.wrap (v_+1))) else some (b8 (b8 ()))
def JS(l:AL)(FY:Int)(v:Int):Option (Int⊕Unit):=Io (fun v=>GV l FY v) v
def GX(l:AL)(FY:Int):Option ((Int)⊕((Int×Int)⊕Unit)):=
 if FY<(l.length:Int)then
  (JS l FY (ca.wrap (FY+1))).bind fun AZ=>
  match AZ with
  | .inl q1000_=>
   some (b8 (cb (FY,q1000_)))
  | .inr q1000_=>
   some (cb (ca.wrap (FY+1)))
 else
  some (b8 (b8 ()))
def Kb(l:AL)(v:Int):Option ((Int×Int)⊕Unit):=Io (fun v=>GX l v) v
def N8(l:AL):Option (Int×Int×Bool):=
 (Kb l 0).bind fun CW=>
 match CW with
 | .inl q1001_=>
  some (q1001_.1,q1001_.2,true)
 | .inr q1001_=>
  some (0,0,false)
abbrev X7:List Nat:=[20,21,22,23,24,25,26,27,28]
def X8:SC:= .seq (.seq (.ops [oM 14 6 3,oM 15 0 26,oN 16 15 26,oB 17 .lss 3 (tK 14) (tK 16) 3 4]) (.cond (tK 17) .skip (.exit 2))) (.seq (.block 3 (.seq (.draws [(⟨[20,0,0],X7,[20]⟩,oM 20 0 26),(⟨[21,5,5],X7,[21]⟩,oM 21 5 3),(⟨[22,20,21,0,5],X7,[22]⟩,oI 22 26 20 21),(⟨[23,22,0],X7,[23]⟩,oL 23 3 22 3),(⟨[24,0,0],X7,[24]⟩,oM 24 0 26),(⟨[25,6,6],X7,[25]⟩,oM 25 6 3),(⟨[26,24,25,0,6],X7,[26]⟩,oI 26 26 24 25),(⟨[27,26,0],X7,[27]⟩,oL 27 3 26 3),(⟨[28,23,27,0,0],X7,[28]⟩,oB 28 .eql 3 (tK 23) (tK 27) 3 4)]) (.cond (tK 28) (.seq (.ops [oM 29 5 3,oM 30 6 3,oA 2 29 3,oA 3 30 3,oX 4 (.assign FR) 4]) .ret) .skip))) (.ops [oM 18 6 3,oB 19 .add 3 (tK 18) (iK 1) 3 3,oA 6 19 3]))
def lW:SC:= .loop X8
def X9:SC:= .seq (.ops [oB 10 .lss 3 (tK 9) (tK 8) 3 0]) (.seq (.cond (tK 10) .skip (.exit 0)) (.seq (.block 1 (.seq (.ops [oM 11 9 3,oA 5 11 3]) (.seq (.ops [oM 12 5 3,oB 13 .add 3 (tK 12) (iK 1) 3 3,oA 6 13 3]) (.block 2 lW)))) (.ops [oB 31 .add 3 (tK 9) (iK 1) 3 3,oM 9 31 3])))
def lX:SC:= .loop X9
def k81:SC:= .seq (.ops [oX 2 (.assign (iK 0)) 3,oX 3 (.assign (iK 0)) 3,oX 4 CJ 4]) (.seq (.seq (.ops [oM 7 0 26,oN 8 7 26,oX 9 (.move (iK 0)) 3]) (.block 0 lX)) (.seq (.ops [oX 2 (.assign (iK 0)) 3,oX 3 (.assign (iK 0)) 3,oX 4 CJ 4]) .ret))
theorem A19:Try.f81.body.map (Bi lends)=some k81:=by kernel_rfl
theorem ADN:CL Try.f81 1=true:=by kernel_rfl
theorem c81{a l:List D}{r:D×List D}(h:CK Y.env k81 (Fx Ac l.length [cc 2,cc 3,cc 4] r) (entry a l))(ha:a.length=1):Y.call 81 a l=some r:=
 Ab (Y:=Y) rfl Try.func81 (ha▸ADN) A19 h
def Ey(l:AL)(FY:Int)(v_:Int)(s:St):Prop:=s.v 0=bh 3 (AQ (bd .i64) l)∧s.v 5=bd .i64 FY∧s.v 6=bd .i64 v_∧s.v 8=bd .i64 (l.length:Int)∧s.v 9=bd .i64 FY
def Ez(l:AL)(FY:Int)(r:Int⊕Unit)(ex:Ex)(s:St):Prop:=match r with
 | .inl q=>ex= .ret∧s.v 2=bd .i64 FY∧s.v 3=bd .i64 q∧s.v 4=b9 true
 | .inr q=>ex= .exit 2∧s.v 0=bh 3 (AQ (bd .i64) l)∧s.v 8=bd .i64 (l.length:Int)∧s.v 9=bd .i64 FY
theorem Tj(l:AL)(FY:Int){v:Int}{s:St}{r:Int⊕Unit}(h:JS l FY v=some r)(hM:Ey l FY v s):CK Y.env lW (Ez l FY r) s:=by
 unfold JS at h;refine Bc (c:=X8) (fun v=>GV l FY v) (fun v s=>Ey l FY v s) (Ez l FY) ?_ h hM;clear h hM s v r;intro v_ s o hM h;unfold GV at h;unfold Ey at hM;obtain⟨m0,m1,m2,m3,m4⟩:=hM;unfold X8;by_cases e2:v_<(l.length:Int)
 ·rw [if_pos e2]at h;obtain⟨e3,h⟩:=Bw h;obtain⟨e4,h⟩:=Bw h;by_cases e5:(l.getD FY.toNat be)=(l.getD v_.toNat be)
  ·rw [if_pos e5]at h
   obtain rfl:=Option.some.inj h
   simp (maxDischargeDepth:=9) only [↓AP,AR,Ai,↓reduceIte,bj,bk,bl,bm,bo,bp,br,bt,bw,bx,bO,b0,b3,b4,b5,b6,b7,m0,m1,m2,m3,m4,e2,e3.1,e3.2,e4.1,e4.2,decide_eq_true e5,Ey,Ez,Cm,Cn,Co]<;>(repeat' apply A7)<;>first|rfl|exact⟨_,rfl⟩|exact⟨_,_,rfl⟩|simp [AQ,A8]
  ·rw [if_neg e5]at h
   obtain rfl:=Option.some.inj h
   simp (maxDischargeDepth:=9) only [↓AP,AR,Ai,↓reduceIte,bj,bk,bl,bm,bo,bp,br,bt,bw,bx,bO,b0,b3,b4,b5,b6,b7,m0,m1,m2,m3,m4,e2,e3.1,e3.2,e4.1,e4.2,e5,Ey,Ez,Cm,Cn,Co]<;>(repeat' apply A7)<;>first|rfl|exact⟨_,rfl⟩|exact⟨_,_,rfl⟩|simp [AQ,A8]
 ·rw [if_neg e2]at h
  obtain rfl:=Option.some.inj h
  simp (maxDischargeDepth:=9) only [↓AP,AR,Ai,↓reduceIte,bj,bk,bl,bm,bo,bp,br,bt,bw,bx,bO,b0,b3,b4,b5,b6,b7,m0,m1,m2,m3,m4,e2,Ey,Ez,Cm,Cn,Co]<;>(repeat' apply A7)<;>first|rfl|exact⟨_,rfl⟩|exact⟨_,_,rfl⟩|simp [AQ,A8]
def F3(l:AL)(FY:Int)(s:St):Prop:=s.v 0=bh 3 (AQ (bd .i64) l)∧s.v 8=bd .i64 (l.length:Int)∧s.v 9=bd .i64 FY
def F4(l:AL)(r:(Int×Int)⊕Unit)(ex:Ex)(s:St):Prop:=match r with
 | .inl q=>ex= .ret∧s.v 2=bd .i64 q.1∧s.v 3=bd .i64 q.2∧s.v 4=b9 true
 | .inr q=>ex= .exit 0
theorem Tm(l:AL){v:Int}{s:St}{r:(Int×Int)⊕Unit}(h:Kb l v=some r)(hM:F3 l v s):CK Y.env lX (F4 l r) s:=by
 unfold Kb at h;refine Bc (c:=X9) (fun v=>GX l v) (fun v s=>F3 l v s) (F4 l) ?_ h hM;clear h hM s v r;intro FY s o hM h;unfold GX at h;unfold F3 at hM;obtain⟨m0,m1,m2⟩:=hM;unfold X9;by_cases e1:FY<(l.length:Int)
 ·rw [if_pos e1]at h;obtain⟨AZ,hl3,h⟩:=BA h;try dsimp only at h
  simp (maxDischargeDepth:=9) only [↓AP,AR,Ai,↓reduceIte,bj,bk,bl,bm,bo,bp,br,bt,bw,bx,bO,b0,b3,b4,b5,b6,b7,m0,m1,m2,e1];refine BM (Tj l FY hl3 ?_) ?_
  ·simp (maxDischargeDepth:=9) only [↓AP,AR,Ai,↓reduceIte,bj,bk,bl,bm,bo,bp,br,bt,bw,bx,bO,b0,b3,b4,b5,b6,b7,m0,m1,m2,e1,Ey]<;>(repeat' apply A7)<;>first|rfl|exact⟨_,rfl⟩|exact⟨_,_,rfl⟩|simp [AQ,A8]
  ·intro ex3 s3 hX3;rcases AZ with q1000_|q1000_
   ·unfold Ez at hX3;dsimp only at hX3 h;obtain⟨rfl,n3_0,n3_1,n3_2⟩:=hX3
    obtain rfl:=Option.some.inj h
    simp (maxDischargeDepth:=9) only [↓AP,AR,Ai,↓reduceIte,bj,bk,bl,bm,bo,bp,br,bt,bw,bx,bO,b0,b3,b4,b5,b6,b7,e1,n3_0,n3_1,n3_2,F3,F4,Cm,Cn,Co]<;>(repeat' apply A7)<;>first|rfl|exact⟨_,rfl⟩|exact⟨_,_,rfl⟩|simp [AQ,A8]
   ·unfold Ez at hX3;dsimp only at hX3 h;obtain⟨rfl,n3_0,n3_1,n3_2⟩:=hX3
    obtain rfl:=Option.some.inj h
    simp (maxDischargeDepth:=9) only [↓AP,AR,Ai,↓reduceIte,bj,bk,bl,bm,bo,bp,br,bt,bw,bx,bO,b0,b3,b4,b5,b6,b7,e1,n3_0,n3_1,n3_2,F3,F4,Cm,Cn,Co]<;>(repeat' apply A7)<;>first|rfl|exact⟨_,rfl⟩|exact⟨_,_,rfl⟩|simp [AQ,A8]
 ·rw [if_neg e1]at h
  obtain rfl:=Option.some.inj h
  simp (maxDischargeDepth:=9) only [↓AP,AR,Ai,↓reduceIte,bj,bk,bl,bm,bo,bp,br,bt,bw,bx,bO,b0,b3,b4,b5,b6,b7,m0,m1,m2,e1,F3,F4,Cm,Cn,Co]<;>(repeat' apply A7)<;>first|rfl|exact⟨_,rfl⟩|exact⟨_,_,rfl⟩|simp [AQ,A8]
theorem Uo(l:AL){r:Int×Int×Bool}(h:N8 l=some r):Y.call 81 [bh 3 (AQ (bd .i64) l)] []=some (D.tup [bd .i64 r.1,bd .i64 r.2.1,b9 r.2.2],[]):=by
 refine c81 ?_ rfl;unfold k81;unfold N8 at h;obtain⟨CW,hl2,h⟩:=BA h;try dsimp only at h
 simp (maxDischargeDepth:=9) only [↓AP,AR,Ai,↓reduceIte,bj,bk,bl,bm,bo,bp,br,bt,bw,bx,bO,b0,b3,b4,b5,b6,b7];refine BM (Tm l hl2 ?_) ?_
 ·simp (maxDischargeDepth:=9) only [↓AP,AR,Ai,↓reduceIte,bj,bk,bl,bm,bo,bp,br,bt,bw,bx,bO,b0,b3,b4,b5,b6,b7,F3]<;>(repeat' apply A7)<;>first|rfl|exact⟨_,rfl⟩|exact⟨_,_,rfl⟩|simp [AQ,A8]
 ·intro ex2 s2 hX2;rcases CW with q1001_|q1001_
  ·unfold F4 at hX2;dsimp only at hX2 h;obtain⟨rfl,n2_0,n2_1,n2_2⟩:=hX2
   obtain rfl:=Option.some.inj h
   simp (maxDischargeDepth:=9) only [↓AP,AR,Ai,↓reduceIte,bj,bk,bl,bm,bo,bp,br,bt,bw,bx,bO,b0,b3,b4,b5,b6,b7,n2_0,n2_1,n2_2]<;>(repeat' apply A7)<;>first|rfl|exact⟨_,rfl⟩|exact⟨_,_,rfl⟩|simp [AQ,A8]
  ·unfold F4 at hX2;dsimp only at hX2 h
   obtain rfl:=hX2
   obtain rfl:=Option.some.inj h
   simp (maxDischargeDepth:=9) only [↓AP,AR,Ai,↓reduceIte,bj,bk,bl,bm,bo,bp,br,bt,bw,bx,bO,b0,b3,b4,b5,b6,b7]<;>(repeat' apply A7)<;>first|rfl|exact⟨_,rfl⟩|exact⟨_,_,rfl⟩|simp [AQ,A8]
def FJ(outputs:AL)(sum:Int)(KL:Int):Option ((Int×Int)⊕(Int)):= if KL<(outputs.length:Int)then ck (0≤KL∧KL.toNat<outputs.length)<| some (cb (ca.wrap (sum+(outputs.getD KL.toNat be)),ca.wrap (KL+1))) else some (b8 sum)
def Ig(outputs:AL)(v:Int×Int):Option (Int):=Io (fun v=>FJ outputs v.1 v.2) v
def JA(AC:Ar)(AY:AL)(AJ:AL)(task:Int)(outputs:AL):Option (Bool):= if task=1 then (Ig outputs (0,0)).bind fun AZ=> ck (outputs.length<1099511627776)<| if(EA outputs (0:Int) (1:Int))=true then some (decide (AZ=1)) else some false else if task=2 then (N7 AC AY AJ outputs).bind fun A81=> some (!A81.2.2) else (N8 outputs).bind fun A82=> some (!A82.2.2)
def Tn:SC:= .seq (.ops [oB 22 .lss 3 (tK 21) (tK 20) 3 0]) (.seq (.cond (tK 22) .skip (.exit 1)) (.seq (.block 2 (.seq (.ops [oI 23 26 19 21,oL 24 3 23 3,oA 9 24 3]) (.ops [oM 25 7 3,oM 26 9 3,oB 27 .add 3 (tK 25) (tK 26) 3 3,oA 7 27 3]))) (.ops [oB 28 .add 3 (tK 21) (iK 1) 3 3,oM 21 28 3])))
def dF:SC:= .loop Tn
def A1A:SC:= .seq (.ops [oX 3 (.box 47 (tK 0)) 0,oX 6 CJ 4]) (.seq (.seq (.ops [oM 16 1 3]) (.block 0 (.seq (.ops [oB 18 .eql 3 (tK 16) (iK 1) 3 4,oA 17 18 4]) (.cond (tK 17) (.seq (.ops [oX 7 (.assign (iK 0)) 3]) (.seq (.seq (.ops [oM 19 2 26,oN 20 19 26,oX 21 (.move (iK 0)) 3]) (.block 1 dF)) (.seq (.ops [oM 29 2 26,oC 30 107 [(tK 29),(iK 0),(iK 1)] [26,3,3] 4,oM 31 30 4,⟨(some 32),(.move (tK 7)),3,(some (some 31,true))⟩,⟨(some 33),(.binOp .eql 3 (tK 32) (iK 1) 3),4,(some (some 31,true))⟩,oX 34 (.pick (tK 31) (tK 33) O5) 4,oA 6 34 4]) .ret))) (.seq (.ops [oB 36 .eql 3 (tK 16) (iK 2) 3 4,oA 35 36 4]) (.cond (tK 35) (.seq (.ops [oL 38 47 3 47,oM 39 2 26,oC 40 80 [(tK 38),(tK 39)] [47,26] 100,oM 37 40 100,oE 41 37 0 3,oE 42 37 1 3,oE 43 37 2 4,oA 10 41 3,oA 11 42 3,oA 12 43 4]) (.seq (.ops [oM 44 12 4,oX 45 (.unOp .not 4 (tK 44)) 4,oA 6 45 4]) .ret)) .skip)))))) (.seq (.ops [oM 47 2 26,oC 48 81 [(tK 47)] [26] 100,oM 46 48 100,oE 49 46 0 3,oE 50 46 1 3,oE 51 46 2 4,oA 13 49 3,oA 14 50 3,oA 15 51 4]) (.seq (.ops [oM 52 15 4,oX 53 (.unOp .not 4 (tK 52)) 4,oA 6 53 4]) .ret)))
theorem pX:Try.f109.body.map (Bi lends)=some A1A:=by kernel_rfl
theorem A83:CL Try.f109 3=true:=by kernel_rfl
theorem ADO{a l:List D}{r:D×List D}(h:CK Y.env A1A (Fx Ac l.length [cc 6] r) (entry a l))(ha:a.length=3):Y.call 109 a l=some r:=
 Ab (Y:=Y) rfl Try.func109 (ha▸A83) pX h
def FK(outputs:AL)(sum:Int)(KL:Int)(s:St):Prop:=s.v 2=bh 3 (AQ (bd .i64) outputs)∧s.v 7=bd .i64 sum∧s.v 19=bh 3 (AQ (bd .i64) outputs)∧s.v 20=bd .i64 (outputs.length:Int)∧s.v 21=bd .i64 KL
def Gz(outputs:AL)(r:Int)(ex:Ex)(s:St):Prop:=ex= .exit 1∧s.v 2=bh 3 (AQ (bd .i64) outputs)∧s.v 7=bd .i64 r
theorem Qp(outputs:AL){v:Int×Int}{s:St}{r:Int}(h:Ig outputs v=some r)(hM:FK outputs v.1 v.2 s):CK Y.env dF (Gz outputs r) s:=by
 unfold Ig at h;refine Bc (c:=Tn) (fun v=>FJ outputs v.1 v.2) (fun v s=>FK outputs v.1 v.2 s) (Gz outputs) ?_ h hM;clear h hM s v r;intro v s o hM h;obtain⟨sum,KL⟩:=v;dsimp only at h hM;unfold FJ at h;unfold FK at hM;obtain⟨m0,m1,m2,m3,m4⟩:=hM;unfold Tn;by_cases e2:KL<(outputs.length:Int)
 ·rw [if_pos e2]at h;obtain⟨e3,h⟩:=Bw h
  obtain rfl:=Option.some.inj h
  simp (maxDischargeDepth:=9) only [↓AP,AR,Ai,↓reduceIte,bj,bk,bl,bm,bo,bp,br,bt,bw,bx,bO,b0,b3,b4,b5,b6,b7,m0,m1,m2,m3,m4,e2,e3.1,e3.2,FK,Gz,Cm,Cn,Co]<;>(repeat' apply A7)<;>first|rfl|exact⟨_,rfl⟩|exact⟨_,_,rfl⟩|simp [AQ,A8]
 ·rw [if_neg e2]at h
  obtain rfl:=Option.some.inj h
  simp (maxDischargeDepth:=9) only [↓AP,AR,Ai,↓reduceIte,bj,bk,bl,bm,bo,bp,br,bt,bw,bx,bO,b0,b3,b4,b5,b6,b7,m0,m1,m2,m3,m4,e2,FK,Gz,Cm,Cn,Co]<;>(repeat' apply A7)<;>first|rfl|exact⟨_,rfl⟩|exact⟨_,_,rfl⟩|simp [AQ,A8]
theorem Tp(AC:Ar)(AY:AL)(AJ:AL)(task:Int)(outputs:AL){r:Bool}(h:JA AC AY AJ task outputs=some r):Y.call 109 [ce [bh 123 (AQ (fun x=>bh 125 (Aw .i64 .i64 x)) AC),bh 3 (AQ (bd .i64) AY),bh 3 (AQ (bd .i64) AJ)],bd .i64 task,bh 3 (AQ (bd .i64) outputs)] []=some (b9 r,[]):=by
 refine ADO ?_ rfl;unfold A1A;unfold JA at h;by_cases e1:task=1
 ·rw [if_pos e1]at h;obtain⟨AZ,hl3,h⟩:=BA h;try dsimp only at h
  simp (maxDischargeDepth:=9) only [↓AP,AR,Ai,↓reduceIte,bj,bk,bl,bm,bo,bp,br,bt,bw,bx,bO,b0,b3,b4,b5,b6,b7,decide_eq_true e1];refine BM (Qp outputs hl3 ?_) ?_
  ·simp (maxDischargeDepth:=9) only [↓AP,AR,Ai,↓reduceIte,bj,bk,bl,bm,bo,bp,br,bt,bw,bx,bO,b0,b3,b4,b5,b6,b7,decide_eq_true e1,FK]<;>(repeat' apply A7)<;>first|rfl|exact⟨_,rfl⟩|exact⟨_,_,rfl⟩|simp [AQ,A8]
  ·intro ex3 s3 hX3;unfold Gz at hX3;obtain⟨rfl,n3_0,n3_1⟩:=hX3;obtain⟨e4,h⟩:=Bw h;have c5:=Sy outputs (0:Int) (1:Int) e4;by_cases e6:(EA outputs (0:Int) (1:Int))=true
   ·rw [if_pos e6]at h
    obtain rfl:=Option.some.inj h
    simp (maxDischargeDepth:=9) only [↓AP,AR,Ai,↓reduceIte,bj,bk,bl,bm,bo,bp,br,bt,bw,bx,bO,b0,b3,b4,b5,b6,b7,decide_eq_true e1,n3_0,n3_1,e4,c5,e6]<;>(repeat' apply A7)<;>first|rfl|exact⟨_,rfl⟩|exact⟨_,_,rfl⟩|simp [AQ,A8]
   ·rw [if_neg e6]at h;have e6f:(EA outputs (0:Int) (1:Int))=false:=JF.mpr e6
    obtain rfl:=Option.some.inj h
    simp (maxDischargeDepth:=9) only [↓AP,AR,Ai,↓reduceIte,bj,bk,bl,bm,bo,bp,br,bt,bw,bx,bO,b0,b3,b4,b5,b6,b7,decide_eq_true e1,n3_0,n3_1,e4,c5,e6f]<;>(repeat' apply A7)<;>first|rfl|exact⟨_,rfl⟩|exact⟨_,_,rfl⟩|simp [AQ,A8]
 ·rw [if_neg e1]at h;by_cases e2:task=2
  ·rw [if_pos e2]at h;obtain⟨A81,hl3,h⟩:=BA h;try dsimp only at h
   have c3:=Un AC AY AJ outputs hl3
   obtain rfl:=Option.some.inj h
   simp (maxDischargeDepth:=9) only [↓AP,AR,Ai,↓reduceIte,bj,bk,bl,bm,bo,bp,br,bt,bw,bx,bO,b0,b3,b4,b5,b6,b7,e1,decide_eq_true e2,c3]<;>(repeat' apply A7)<;>first|rfl|exact⟨_,rfl⟩|exact⟨_,_,rfl⟩|simp [AQ,A8]
  ·rw [if_neg e2]at h;obtain⟨A82,hl3,h⟩:=BA h;try dsimp only at h
   have c3:=Uo outputs hl3
   obtain rfl:=Option.some.inj h
   simp (maxDischargeDepth:=9) only [↓AP,AR,Ai,↓reduceIte,bj,bk,bl,bm,bo,bp,br,bt,bw,bx,bO,b0,b3,b4,b5,b6,b7,e1,e2,c3]<;>(repeat' apply A7)<;>first|rfl|exact⟨_,rfl⟩|exact⟨_,_,rfl⟩|simp [AQ,A8]
def CX(A9:Ar)(AO:AL)(AA:AL)(JB:List (AL×Int))(Jp:AL)(BP:Int)(Ih:Int):Option ((Int)⊕(Unit)):= if Ih<((A9.getD BP.toNat be).length:Int)then ck (0≤Ih∧Ih.toNat<(A9.getD BP.toNat be).length)<| some (cb (ca.wrap (Ih+1))) else some (b8 ())
def Dm(A9:Ar)(AO:AL)(AA:AL)(JB:List (AL×Int))(Jp:AL)(BP:Int)(v:Int):Option (Unit):=Io (fun v=>CX A9 AO AA JB Jp BP v) v
def CY(A9:Ar)(AO:AL)(AA:AL)(JB:List (AL×Int))(Jp:AL)(BP:Int):Option (((List (AL×Int))×AL×Int)⊕(AL)):= if BP<(A9.length:Int)then ck (0≤BP∧BP.toNat<A9.length)<| ck (0≤BP∧BP.toNat<AA.length)<| (Dm A9 AO AA JB Jp BP 0).bind fun AZ=> if((IZ JB [((A9.getD BP.toNat be).length:Int),(AA.getD BP.toNat be),0,0,0,0,0,0,0,0,0,0,0,0]).2)=true then ck (0≤BP∧BP.toNat<Jp.length)<| some (cb (JB,(Jp.set BP.toNat ((IZ JB [((A9.getD BP.toNat be).length:Int),(AA.getD BP.toNat be),0,0,0,0,0,0,0,0,0,0,0,0]).1)),ca.wrap (BP+1))) else ck (0≤BP∧BP.toNat<Jp.length)<| some (cb ((Sd JB [((A9.getD BP.toNat be).length:Int),(AA.getD BP.toNat be),0,0,0,0,0,0,0,0,0,0,0,0] (JB.length:Int)),(Jp.set BP.toNat (JB.length:Int)),ca.wrap (BP+1))) else some (b8 Jp)
def Dn(A9:Ar)(AO:AL)(AA:AL)(v:(List (AL×Int))×AL×Int):Option (AL):=Io (fun v=>CY A9 AO AA v.1 v.2.1 v.2.2) v
def El(A9:Ar)(AO:AL)(AA:AL):Option (AL):= ck (0≤(A9.length:Int)∧(A9.length:Int)<1099511627776)<| (Dn A9 AO AA (([]:List (AL×Int)),(ao A9.length 0),0)).bind fun CW=> some CW
abbrev Hl:List Nat:=[44,45,46,47,48,49,50,51,52,53,54,55,56,57,57,51,9,58,58,56,9]
def Pw:SC:= .seq (.ops [oB 38 .lss 3 (tK 37) (tK 36) 3 0]) (.seq (.cond (tK 38) .skip (.exit 2)) (.seq (.block 3 (.seq (.ops [oM 39 37 3,oI 40 123 35 37,oL 41 125 40 125,oX 11 (.alloc 125) 0,oA 10 39 3,oS 125 11 41]) (.seq (.ops [oM 42 1 26,oB 43 .neq 26 (tK 42) (.const (.slice none 0 0)) 26 4]) (.cond (tK 43) (.draws [(⟨[44,10,10],Hl,[44]⟩,oM 44 10 3),(⟨[45,44,10],Hl,[45]⟩,oB 45 .mul 3 (iK 2) (tK 44) 3 3),(⟨[46,45,45],Hl,[46]⟩,oB 46 .add 3 (iK 2) (tK 45) 3 3),(⟨[47,10,10],Hl,[47]⟩,oM 47 10 3),(⟨[48,47,10],Hl,[48]⟩,oB 48 .mul 3 (iK 2) (tK 47) 3 3),(⟨[49,48,48],Hl,[49]⟩,oB 49 .add 3 (iK 3) (tK 48) 3 3),(⟨[50,11,11],Hl,[50]⟩,oF 50 125 11 1),(⟨[51,50,11],Hl,[51]⟩,oL 51 3 50 3),(⟨[52,1,1],Hl,[52]⟩,oM 52 1 26),(⟨[53,11,11],Hl,[53]⟩,oF 53 125 11 0),(⟨[54,53,11],Hl,[54]⟩,oL 54 3 53 3),(⟨[55,52,54,1,11],Hl,[55]⟩,oI 55 26 52 54),(⟨[56,55,1],Hl,[56]⟩,oL 56 3 55 3),(⟨[57,9,46,9,46],Hl,[57]⟩,oI 57 164 9 46),(⟨[57,51,9,11],Hl,[57,51,9]⟩,oS 3 57 51),(⟨[58,9,49,9,49],Hl,[58]⟩,oI 58 164 9 49),(⟨[58,56,9,1],Hl,[58,56,9]⟩,oS 3 58 56)]) .skip)))) (.ops [oB 59 .add 3 (tK 37) (iK 1) 3 3,oM 37 59 3])))
def Yr:SC:= .loop Pw
def Px:SC:= .seq (.ops [oB 23 .lss 3 (tK 22) (tK 21) 3 0]) (.seq (.cond (tK 23) .skip (.exit 0)) (.seq (.block 1 (.seq (.ops [oM 24 22 3,oI 25 45 20 22,oL 26 123 25 123,oA 7 24 3,oA 8 26 123]) (.seq (.ops [oM 27 8 123,oN 28 27 123,oF 29 47 2 2,oL 30 26 29 26,oM 31 7 3,oI 32 26 30 31,oL 33 3 32 3,oX 34 (.build 164 #[(0,(tK 28)),(1,(tK 33))]) 164,oX 9 (.alloc 164) 0,oS 164 9 34]) (.seq (.seq (.ops [oM 35 8 123,oN 36 35 123,oX 37 (.move (iK 0)) 3]) (.block 2 Yr)) (.seq (.ops [oM 61 5 162,oL 62 164 9 164,oX 63 (.lookup 162 (tK 61) (tK 62) true) 51,oM 60 63 51,oE 64 60 0 3,oE 65 60 1 4,oA 12 64 3,oA 13 65 4]) (.seq (.seq (.ops [oM 66 13 4,oX 67 (.unOp .not 4 (tK 66)) 4]) (.cond (tK 67) (.seq (.ops [oM 68 5 162,oN 69 68 162,oA 12 69 3]) (.ops [oM 70 5 162,oL 71 164 9 164,oM 72 12 3,⟨none,(.mapUpdate 162 (tK 70) (tK 71) (tK 72)),0,none⟩])) .skip)) (.ops [oM 73 6 26,oM 74 7 3,oM 75 12 3,oI 76 26 73 74,oS 3 76 75]))))))) (.ops [oB 77 .add 3 (tK 22) (iK 1) 3 3,oM 22 77 3])))
def Yt:SC:= .loop Px
def lY:SC:= .seq (.ops [oX 2 (.box 47 (tK 0)) 0,oX 4 O3 26]) (.seq (.ops [oX 14 (.makeMap 162 none) 162,oA 5 14 162]) (.seq (.ops [oF 15 47 2 0,oL 16 45 15 45,oN 17 16 45,oX 18 (.makeSlice 26 (tK 17) (tK 17)) 26,oA 6 18 26]) (.seq (.seq (.ops [oF 19 47 2 0,oL 20 45 19 45,oN 21 20 45,oX 22 (.move (iK 0)) 3]) (.block 0 Yt)) (.seq (.ops [oM 78 6 26,oA 4 78 26]) .ret))))
theorem lZ:Try.f125.body.map (Bi lends)=some lY:=by kernel_rfl
theorem A1B:CL Try.f125 2=true:=by kernel_rfl
theorem A84{a l:List D}{r:D×List D}(h:CK Y.env lY (Fx Ac l.length [cc 4] r) (entry a l))(ha:a.length=2):Y.call 125 a l=some r:=
 Ab (Y:=Y) rfl Try.func125 (ha▸A1B) lZ h
def CZ(A9:Ar)(AO:AL)(AA:AL)(JB:List (AL×Int))(Jp:AL)(BP:Int)(Ih:Int)(s:St):Prop:=s.v 1=D.konst (.slice none 0 0)∧s.v 2=cg [bh 123 (AQ (fun x=>bh 125 (Aw .i64 .i64 x)) A9),bh 3 (AQ (bd .i64) AO),bh 3 (AQ (bd .i64) AA)]∧s.v 5=D.mp 164 3 (Ol JB)∧s.v 6=cd 3 (AQ (bd .i64) Jp)∧s.v 7=bd .i64 BP∧s.v 9=cg [bd .i64 ((A9.getD BP.toNat be).length:Int),bd .i64 (AA.getD BP.toNat be),bd .i64 0,bd .i64 0,bd .i64 0,bd .i64 0,bd .i64 0,bd .i64 0,bd .i64 0,bd .i64 0,bd .i64 0,bd .i64 0,bd .i64 0,bd .i64 0]∧s.v 20=bh 123 (AQ (fun x=>bh 125 (Aw .i64 .i64 x)) A9)∧s.v 21=bd .i64 (A9.length:Int)∧s.v 22=bd .i64 BP∧s.v 35=bh 125 (Aw .i64 .i64 (A9.getD BP.toNat be))∧s.v 36=bd .i64 ((A9.getD BP.toNat be).length:Int)∧s.v 37=bd .i64 Ih
def DD(A9:Ar)(AO:AL)(AA:AL)(JB:List (AL×Int))(Jp:AL)(BP:Int)(r:Unit)(ex:Ex)(s:St):Prop:=ex= .exit 2∧s.v 1=D.konst (.slice none 0 0)∧s.v 2=cg [bh 123 (AQ (fun x=>bh 125 (Aw .i64 .i64 x)) A9),bh 3 (AQ (bd .i64) AO),bh 3 (AQ (bd .i64) AA)]∧s.v 5=D.mp 164 3 (Ol JB)∧s.v 6=cd 3 (AQ (bd .i64) Jp)∧s.v 7=bd .i64 BP∧s.v 9=cg [bd .i64 ((A9.getD BP.toNat be).length:Int),bd .i64 (AA.getD BP.toNat be),bd .i64 0,bd .i64 0,bd .i64 0,bd .i64 0,bd .i64 0,bd .i64 0,bd .i64 0,bd .i64 0,bd .i64 0,bd .i64 0,bd .i64 0,bd .i64 0]∧s.v 20=bh 123 (AQ (fun x=>bh 125 (Aw .i64 .i64 x)) A9)∧s.v 21=bd .i64 (A9.length:Int)∧s.v 22=bd .i64 BP
theorem LC(A9:Ar)(AO:AL)(AA:AL)(JB:List (AL×Int))(Jp:AL)(BP:Int){v:Int}{s:St}{r:Unit}(h:Dm A9 AO AA JB Jp BP v=some r)(hM:CZ A9 AO AA JB Jp BP v s):CK Y.env Yr (DD A9 AO AA JB Jp BP r) s:=by
 unfold Dm at h;refine Bc (c:=Pw) (fun v=>CX A9 AO AA JB Jp BP v) (fun v s=>CZ A9 AO AA JB Jp BP v s) (DD A9 AO AA JB Jp BP) ?_ h hM;clear h hM s v r;intro Ih s o hM h;unfold CX at h;unfold CZ at hM;obtain⟨m0,m1,m2,m3,m4,m5,m6,m7,m8,m9,m10,m11⟩:=hM;unfold Pw;by_cases e5:Ih<((A9.getD BP.toNat be).length:Int)
 ·rw [if_pos e5]at h;obtain⟨e6,h⟩:=Bw h
  obtain rfl:=Option.some.inj h
  simp (maxDischargeDepth:=9) only [↓AP,AR,Ai,↓reduceIte,bj,bk,bl,bm,bo,bp,br,bt,bw,bx,bO,b0,b3,b4,b5,b6,b7,m0,m1,m2,m3,m4,m5,m6,m7,m8,m9,m10,m11,e5,e6.1,e6.2,CZ,DD,Cm,Cn,Co]<;>(repeat' apply A7)<;>first|rfl|exact⟨_,rfl⟩|exact⟨_,_,rfl⟩|simp [AQ,A8]
 ·rw [if_neg e5]at h
  obtain rfl:=Option.some.inj h
  simp (maxDischargeDepth:=9) only [↓AP,AR,Ai,↓reduceIte,bj,bk,bl,bm,bo,bp,br,bt,bw,bx,bO,b0,b3,b4,b5,b6,b7,m0,m1,m2,m3,m4,m5,m6,m7,m8,m9,m10,m11,e5,CZ,DD,Cm,Cn,Co]<;>(repeat' apply A7)<;>first|rfl|exact⟨_,rfl⟩|exact⟨_,_,rfl⟩|simp [AQ,A8]
def Bv(A9:Ar)(AO:AL)(AA:AL)(JB:List (AL×Int))(Jp:AL)(BP:Int)(s:St):Prop:=s.v 1=D.konst (.slice none 0 0)∧s.v 2=cg [bh 123 (AQ (fun x=>bh 125 (Aw .i64 .i64 x)) A9),bh 3 (AQ (bd .i64) AO),bh 3 (AQ (bd .i64) AA)]∧s.v 5=D.mp 164 3 (Ol JB)∧s.v 6=cd 3 (AQ (bd .i64) Jp)∧s.v 20=bh 123 (AQ (fun x=>bh 125 (Aw .i64 .i64 x)) A9)∧s.v 21=bd .i64 (A9.length:Int)∧s.v 22=bd .i64 BP
def Ca(A9:Ar)(AO:AL)(AA:AL)(r:AL)(ex:Ex)(s:St):Prop:=ex= .exit 0∧s.v 6=cd 3 (AQ (bd .i64) r)
theorem LD(A9:Ar)(AO:AL)(AA:AL){v:(List (AL×Int))×AL×Int}{s:St}{r:AL}(h:Dn A9 AO AA v=some r)(hM:Bv A9 AO AA v.1 v.2.1 v.2.2 s):CK Y.env Yt (Ca A9 AO AA r) s:=by
 unfold Dn at h;refine Bc (c:=Px) (fun v=>CY A9 AO AA v.1 v.2.1 v.2.2) (fun v s=>Bv A9 AO AA v.1 v.2.1 v.2.2 s) (Ca A9 AO AA) ?_ h hM;clear h hM s v r;intro v s o hM h;obtain⟨JB,Jp,BP⟩:=v;dsimp only at h hM;unfold CY at h;unfold Bv at hM;obtain⟨m0,m1,m2,m3,m4,m5,m6⟩:=hM;unfold Px;by_cases e2:BP<(A9.length:Int)
 ·rw [if_pos e2]at h;obtain⟨e3,h⟩:=Bw h;obtain⟨e4,h⟩:=Bw h;obtain⟨AZ,hl6,h⟩:=BA h;try dsimp only at h
  simp (maxDischargeDepth:=9) only [↓AP,AR,Ai,↓reduceIte,bj,bk,bl,bm,bo,bp,br,bt,bw,bx,bO,b0,b3,b4,b5,b6,b7,m0,m1,m2,m3,m4,m5,m6,e2,e3.1,e3.2,e4.1,e4.2];refine BM (LC A9 AO AA JB Jp BP hl6 ?_) ?_
  ·simp (maxDischargeDepth:=9) only [↓AP,AR,Ai,↓reduceIte,bj,bk,bl,bm,bo,bp,br,bt,bw,bx,bO,b0,b3,b4,b5,b6,b7,m0,m1,m2,m3,m4,m5,m6,e2,e3.1,e3.2,e4.1,e4.2,CZ]<;>(repeat' apply A7)<;>first|rfl|exact⟨_,rfl⟩|exact⟨_,_,rfl⟩|simp [AQ,A8]
  ·intro ex6 s6 hX6;unfold DD at hX6;obtain⟨rfl,n6_0,n6_1,n6_2,n6_3,n6_4,n6_5,n6_6,n6_7,n6_8⟩:=hX6;by_cases e7:((IZ JB [((A9.getD BP.toNat be).length:Int),(AA.getD BP.toNat be),0,0,0,0,0,0,0,0,0,0,0,0]).2)=true
   ·rw [if_pos e7]at h;obtain⟨e8,h⟩:=Bw h
    obtain rfl:=Option.some.inj h
    simp (maxDischargeDepth:=9) only [↓AP,AR,Ai,↓reduceIte,bj,bk,bl,bm,bo,bp,br,bt,bw,bx,bO,b0,b3,b4,b5,b6,b7,e2,e3.1,e3.2,e4.1,e4.2,n6_0,n6_1,n6_2,n6_3,n6_4,n6_5,n6_6,n6_7,n6_8,e7,e8.1,e8.2,Bv,Ca,Cm,Cn,Co]<;>(repeat' apply A7)<;>first|rfl|exact⟨_,rfl⟩|exact⟨_,_,rfl⟩|simp [AQ,A8]
   ·rw [if_neg e7]at h;have e7f:((IZ JB [((A9.getD BP.toNat be).length:Int),(AA.getD BP.toNat be),0,0,0,0,0,0,0,0,0,0,0,0]).2)=false:=JF.mpr e7;obtain⟨e8,h⟩:=Bw h
    obtain rfl:=Option.some.inj h
    simp (maxDischargeDepth:=9) only [↓AP,AR,Ai,↓reduceIte,bj,bk,bl,bm,bo,bp,br,bt,bw,bx,bO,b0,b3,b4,b5,b6,b7,e2,e3.1,e3.2,e4.1,e4.2,n6_0,n6_1,n6_2,n6_3,n6_4,n6_5,n6_6,n6_7,n6_8,e7f,e8.1,e8.2,Bv,Ca,Cm,Cn,Co]<;>(repeat' apply A7)<;>first|rfl|exact⟨_,rfl⟩|exact⟨_,_,rfl⟩|simp [AQ,A8]
 ·rw [if_neg e2]at h
  obtain rfl:=Option.some.inj h
  simp (maxDischargeDepth:=9) only [↓AP,AR,Ai,↓reduceIte,bj,bk,bl,bm,bo,bp,br,bt,bw,bx,bO,b0,b3,b4,b5,b6,b7,m0,m1,m2,m3,m4,m5,m6,e2,Bv,Ca,Cm,Cn,Co]<;>(repeat' apply A7)<;>first|rfl|exact⟨_,rfl⟩|exact⟨_,_,rfl⟩|simp [AQ,A8]
theorem Lv(A9:Ar)(AO:AL)(AA:AL){r:AL}(h:El A9 AO AA=some r):Y.call 125 [ce [bh 123 (AQ (fun x=>bh 125 (Aw .i64 .i64 x)) A9),bh 3 (AQ (bd .i64) AO),bh 3 (AQ (bd .i64) AA)],D.konst (.slice none 0 0)] []=some (cd 3 (AQ (bd .i64) r),[]):=by
 refine A84 ?_ rfl;unfold lY;unfold El at h;obtain⟨e1,h⟩:=Bw h;obtain⟨CW,hl3,h⟩:=BA h;try dsimp only at h
 simp (maxDischargeDepth:=9) only [↓AP,AR,Ai,↓reduceIte,bj,bk,bl,bm,bo,bp,br,bt,bw,bx,bO,b0,b3,b4,b5,b6,b7,e1.1,e1.2];refine BM (LD A9 AO AA hl3 ?_) ?_
 ·simp (maxDischargeDepth:=9) only [↓AP,AR,Ai,↓reduceIte,bj,bk,bl,bm,bo,bp,br,bt,bw,bx,bO,b0,b3,b4,b5,b6,b7,e1.1,e1.2,Bv]<;>(repeat' apply A7)<;>first|rfl|exact⟨_,rfl⟩|exact⟨_,_,rfl⟩|simp [AQ,A8]
 ·intro ex3 s3 hX3;unfold Ca at hX3;obtain⟨rfl,n3_0⟩:=hX3
  obtain rfl:=Option.some.inj h
  simp (maxDischargeDepth:=9) only [↓AP,AR,Ai,↓reduceIte,bj,bk,bl,bm,bo,bp,br,bt,bw,bx,bO,b0,b3,b4,b5,b6,b7,e1.1,e1.2,n3_0]<;>(repeat' apply A7)<;>first|rfl|exact⟨_,rfl⟩|exact⟨_,_,rfl⟩|simp [AQ,A8]
def DW(A9:Ar)(AO:AL)(AA:AL)(IC:AL)(JB:List (AL×Int))(Jp:AL)(BP:Int)(FY:AL)(Ih:Int):Option ((AL×Int)⊕(AL)):= if Ih<((A9.getD BP.toNat be).length:Int)then ck (0≤Ih∧Ih.toNat<(A9.getD BP.toNat be).length)<| ck (0<IC.length)<| ck (0≤(BJ (A9.getD BP.toNat be) Ih.toNat)∧(BJ (A9.getD BP.toNat be) Ih.toNat).toNat<IC.length)<| ck (0≤ca.wrap (2+(ca.wrap (2*Ih)))∧(ca.wrap (2+(ca.wrap (2*Ih)))).toNat<14)<| ck (((ca.wrap (2+(ca.wrap (2*Ih)))).toNat)<FY.length)<| ck (0≤ca.wrap (3+(ca.wrap (2*Ih)))∧(ca.wrap (3+(ca.wrap (2*Ih)))).toNat<14)<| ck (((ca.wrap (3+(ca.wrap (2*Ih)))).toNat)<FY.length)<| some (cb (((FY.set ((ca.wrap (2+(ca.wrap (2*Ih)))).toNat) (CG (A9.getD BP.toNat be) Ih.toNat)).set ((ca.wrap (3+(ca.wrap (2*Ih)))).toNat) (IC.getD ((BJ (A9.getD BP.toNat be) Ih.toNat).toNat) be)),ca.wrap (Ih+1))) else some (b8 FY)
def EL(A9:Ar)(AO:AL)(AA:AL)(IC:AL)(JB:List (AL×Int))(Jp:AL)(BP:Int)(v:AL×Int):Option (AL):=Io (fun v=>DW A9 AO AA IC JB Jp BP v.1 v.2) v
def DX(A9:Ar)(AO:AL)(AA:AL)(IC:AL)(JB:List (AL×Int))(Jp:AL)(BP:Int):Option (((List (AL×Int))×AL×Int)⊕(AL)):= if BP<(A9.length:Int)then ck (0≤BP∧BP.toNat<A9.length)<| ck (0≤BP∧BP.toNat<AA.length)<| (EL A9 AO AA IC JB Jp BP ([((A9.getD BP.toNat be).length:Int),(AA.getD BP.toNat be),0,0,0,0,0,0,0,0,0,0,0,0],0)).bind fun AZ=> ck (AZ.length≤14∧14≤AZ.length)<| if((IZ JB AZ).2)=true then ck (0≤BP∧BP.toNat<Jp.length)<| some (cb (JB,(Jp.set BP.toNat ((IZ JB AZ).1)),ca.wrap (BP+1))) else ck (0≤BP∧BP.toNat<Jp.length)<| some (cb ((Sd JB AZ (JB.length:Int)),(Jp.set BP.toNat (JB.length:Int)),ca.wrap (BP+1))) else some (b8 Jp)
def FM(A9:Ar)(AO:AL)(AA:AL)(IC:AL)(v:(List (AL×Int))×AL×Int):Option (AL):=Io (fun v=>DX A9 AO AA IC v.1 v.2.1 v.2.2) v
def I8(A9:Ar)(AO:AL)(AA:AL)(IC:AL):Option (AL):= ck (0≤(A9.length:Int)∧(A9.length:Int)<1099511627776)<| (FM A9 AO AA IC (([]:List (AL×Int)),(ao A9.length 0),0)).bind fun CW=> some CW
def Tq:SC:= .seq (.ops [oB 38 .lss 3 (tK 37) (tK 36) 3 0]) (.seq (.cond (tK 38) .skip (.exit 2)) (.seq (.block 3 (.seq (.ops [oM 39 37 3,oI 40 123 35 37,oL 41 125 40 125,oX 11 (.alloc 125) 0,oA 10 39 3,oS 125 11 41]) (.seq (.ops [oM 42 1 26,oB 43 .neq 26 (tK 42) (.const (.slice none 0 0)) 26 4]) (.cond (tK 43) (.draws [(⟨[44,10,10],Hl,[44]⟩,oM 44 10 3),(⟨[45,44,10],Hl,[45]⟩,oB 45 .mul 3 (iK 2) (tK 44) 3 3),(⟨[46,45,45],Hl,[46]⟩,oB 46 .add 3 (iK 2) (tK 45) 3 3),(⟨[47,10,10],Hl,[47]⟩,oM 47 10 3),(⟨[48,47,10],Hl,[48]⟩,oB 48 .mul 3 (iK 2) (tK 47) 3 3),(⟨[49,48,48],Hl,[49]⟩,oB 49 .add 3 (iK 3) (tK 48) 3 3),(⟨[50,11,11],Hl,[50]⟩,oF 50 125 11 1),(⟨[51,50,11],Hl,[51]⟩,oL 51 3 50 3),(⟨[52,1,1],Hl,[52]⟩,oM 52 1 26),(⟨[53,11,11],Hl,[53]⟩,oF 53 125 11 0),(⟨[54,53,11],Hl,[54]⟩,oL 54 3 53 3),(⟨[55,52,54,1,11],Hl,[55]⟩,oI 55 26 52 54),(⟨[56,55,1],Hl,[56]⟩,oL 56 3 55 3),(⟨[57,9,46,9,46],Hl,[57]⟩,oI 57 164 9 46),(⟨[57,51,9,11],Hl,[57,51,9]⟩,oS 3 57 51),(⟨[58,9,49,9,49],Hl,[58]⟩,oI 58 164 9 49),(⟨[58,56,9,1],Hl,[58,56,9]⟩,oS 3 58 56)]) .skip)))) (.ops [oB 59 .add 3 (tK 37) (iK 1) 3 3,oM 37 59 3])))
def dG:SC:= .loop Tq
def Tt:SC:= .seq (.ops [oB 23 .lss 3 (tK 22) (tK 21) 3 0]) (.seq (.cond (tK 23) .skip (.exit 0)) (.seq (.block 1 (.seq (.ops [oM 24 22 3,oI 25 45 20 22,oL 26 123 25 123,oA 7 24 3,oA 8 26 123]) (.seq (.ops [oM 27 8 123,oN 28 27 123,oF 29 47 2 2,oL 30 26 29 26,oM 31 7 3,oI 32 26 30 31,oL 33 3 32 3,oX 34 (.build 164 #[(0,(tK 28)),(1,(tK 33))]) 164,oX 9 (.alloc 164) 0,oS 164 9 34]) (.seq (.seq (.ops [oM 35 8 123,oN 36 35 123,oX 37 (.move (iK 0)) 3]) (.block 2 dG)) (.seq (.ops [oM 61 5 162,oL 62 164 9 164,oX 63 (.lookup 162 (tK 61) (tK 62) true) 51,oM 60 63 51,oE 64 60 0 3,oE 65 60 1 4,oA 12 64 3,oA 13 65 4]) (.seq (.seq (.ops [oM 66 13 4,oX 67 (.unOp .not 4 (tK 66)) 4]) (.cond (tK 67) (.seq (.ops [oM 68 5 162,oN 69 68 162,oA 12 69 3]) (.ops [oM 70 5 162,oL 71 164 9 164,oM 72 12 3,⟨none,(.mapUpdate 162 (tK 70) (tK 71) (tK 72)),0,none⟩])) .skip)) (.ops [oM 73 6 26,oM 74 7 3,oM 75 12 3,oI 76 26 73 74,oS 3 76 75]))))))) (.ops [oB 77 .add 3 (tK 22) (iK 1) 3 3,oM 22 77 3])))
def dH:SC:= .loop Tt
def A1C:SC:= .seq (.ops [oX 2 (.box 47 (tK 0)) 0,oX 4 O3 26]) (.seq (.ops [oX 14 (.makeMap 162 none) 162,oA 5 14 162]) (.seq (.ops [oF 15 47 2 0,oL 16 45 15 45,oN 17 16 45,oX 18 (.makeSlice 26 (tK 17) (tK 17)) 26,oA 6 18 26]) (.seq (.seq (.ops [oF 19 47 2 0,oL 20 45 19 45,oN 21 20 45,oX 22 (.move (iK 0)) 3]) (.block 0 dH)) (.seq (.ops [oM 78 6 26,oA 4 78 26]) .ret))))
theorem pY:Try.f125.body.map (Bi lends)=some A1C:=by kernel_rfl
theorem A85:CL Try.f125 2=true:=by kernel_rfl
theorem ADP{a l:List D}{r:D×List D}(h:CK Y.env A1C (Fx Ac l.length [cc 4] r) (entry a l))(ha:a.length=2):Y.call 125 a l=some r:=
 Ab (Y:=Y) rfl Try.func125 (ha▸A85) pY h
def DY(A9:Ar)(AO:AL)(AA:AL)(IC:AL)(JB:List (AL×Int))(Jp:AL)(BP:Int)(FY:AL)(Ih:Int)(s:St):Prop:=s.v 1=bh 3 (AQ (bd .i64) IC)∧s.v 2=cg [bh 123 (AQ (fun x=>bh 125 (Aw .i64 .i64 x)) A9),bh 3 (AQ (bd .i64) AO),bh 3 (AQ (bd .i64) AA)]∧s.v 5=D.mp 164 3 (Ol JB)∧s.v 6=cd 3 (AQ (bd .i64) Jp)∧s.v 7=bd .i64 BP∧s.v 9=cg (AQ (bd .i64) FY)∧s.v 20=bh 123 (AQ (fun x=>bh 125 (Aw .i64 .i64 x)) A9)∧s.v 21=bd .i64 (A9.length:Int)∧s.v 22=bd .i64 BP∧s.v 35=bh 125 (Aw .i64 .i64 (A9.getD BP.toNat be))∧s.v 36=bd .i64 ((A9.getD BP.toNat be).length:Int)∧s.v 37=bd .i64 Ih
def EZ(A9:Ar)(AO:AL)(AA:AL)(IC:AL)(JB:List (AL×Int))(Jp:AL)(BP:Int)(r:AL)(ex:Ex)(s:St):Prop:=ex= .exit 2∧s.v 1=bh 3 (AQ (bd .i64) IC)∧s.v 2=cg [bh 123 (AQ (fun x=>bh 125 (Aw .i64 .i64 x)) A9),bh 3 (AQ (bd .i64) AO),bh 3 (AQ (bd .i64) AA)]∧s.v 5=D.mp 164 3 (Ol JB)∧s.v 6=cd 3 (AQ (bd .i64) Jp)∧s.v 7=bd .i64 BP∧s.v 9=cg (AQ (bd .i64) r)∧s.v 20=bh 123 (AQ (fun x=>bh 125 (Aw .i64 .i64 x)) A9)∧s.v 21=bd .i64 (A9.length:Int)∧s.v 22=bd .i64 BP
theorem NW(A9:Ar)(AO:AL)(AA:AL)(IC:AL)(JB:List (AL×Int))(Jp:AL)(BP:Int){v:AL×Int}{s:St}{r:AL}(h:EL A9 AO AA IC JB Jp BP v=some r)(hM:DY A9 AO AA IC JB Jp BP v.1 v.2 s):CK Y.env dG (EZ A9 AO AA IC JB Jp BP r) s:=by
 unfold EL at h;refine Bc (c:=Tq) (fun v=>DW A9 AO AA IC JB Jp BP v.1 v.2) (fun v s=>DY A9 AO AA IC JB Jp BP v.1 v.2 s) (EZ A9 AO AA IC JB Jp BP) ?_ h hM;clear h hM s v r;intro v s o hM h;obtain⟨FY,Ih⟩:=v;dsimp only at h hM;unfold DW at h;unfold DY at hM;obtain⟨m0,m1,m2,m3,m4,m5,m6,m7,m8,m9,m10,m11⟩:=hM;unfold Tq;by_cases e5:Ih<((A9.getD BP.toNat be).length:Int)
 ·rw [if_pos e5]at h;obtain⟨e6,h⟩:=Bw h;obtain⟨e7,h⟩:=Bw h;obtain⟨e8,h⟩:=Bw h;obtain⟨e9,h⟩:=Bw h;obtain⟨e10,h⟩:=Bw h;obtain⟨e11,h⟩:=Bw h;obtain⟨e12,h⟩:=Bw h
  obtain rfl:=Option.some.inj h
  simp (maxDischargeDepth:=9) only [↓AP,AR,Ai,↓reduceIte,bj,bk,bl,bm,bo,bp,br,bt,bw,bx,bO,b0,b3,b4,b5,b6,b7,m0,m1,m2,m3,m4,m5,m6,m7,m8,m9,m10,m11,e5,e6.1,e6.2,e7,e8.1,e8.2,e9.1,e9.2,e10,e11.1,e11.2,e12,DY,EZ,Cm,Cn,Co]<;>(repeat' apply A7)<;>first|rfl|exact⟨_,rfl⟩|exact⟨_,_,rfl⟩|simp [AQ,A8]
 ·rw [if_neg e5]at h
  obtain rfl:=Option.some.inj h
  simp (maxDischargeDepth:=9) only [↓AP,AR,Ai,↓reduceIte,bj,bk,bl,bm,bo,bp,br,bt,bw,bx,bO,b0,b3,b4,b5,b6,b7,m0,m1,m2,m3,m4,m5,m6,m7,m8,m9,m10,m11,e5,DY,EZ,Cm,Cn,Co]<;>(repeat' apply A7)<;>first|rfl|exact⟨_,rfl⟩|exact⟨_,_,rfl⟩|simp [AQ,A8]
def Cq(A9:Ar)(AO:AL)(AA:AL)(IC:AL)(JB:List (AL×Int))(Jp:AL)(BP:Int)(s:St):Prop:=s.v 1=bh 3 (AQ (bd .i64) IC)∧s.v 2=cg [bh 123 (AQ (fun x=>bh 125 (Aw .i64 .i64 x)) A9),bh 3 (AQ (bd .i64) AO),bh 3 (AQ (bd .i64) AA)]∧s.v 5=D.mp 164 3 (Ol JB)∧s.v 6=cd 3 (AQ (bd .i64) Jp)∧s.v 20=bh 123 (AQ (fun x=>bh 125 (Aw .i64 .i64 x)) A9)∧s.v 21=bd .i64 (A9.length:Int)∧s.v 22=bd .i64 BP
def DZ(A9:Ar)(AO:AL)(AA:AL)(IC:AL)(r:AL)(ex:Ex)(s:St):Prop:=ex= .exit 0∧s.v 6=cd 3 (AQ (bd .i64) r)
theorem NY(A9:Ar)(AO:AL)(AA:AL)(IC:AL){v:(List (AL×Int))×AL×Int}{s:St}{r:AL}(h:FM A9 AO AA IC v=some r)(hM:Cq A9 AO AA IC v.1 v.2.1 v.2.2 s):CK Y.env dH (DZ A9 AO AA IC r) s:=by
 unfold FM at h;refine Bc (c:=Tt) (fun v=>DX A9 AO AA IC v.1 v.2.1 v.2.2) (fun v s=>Cq A9 AO AA IC v.1 v.2.1 v.2.2 s) (DZ A9 AO AA IC) ?_ h hM;clear h hM s v r;intro v s o hM h;obtain⟨JB,Jp,BP⟩:=v;dsimp only at h hM;unfold DX at h;unfold Cq at hM;obtain⟨m0,m1,m2,m3,m4,m5,m6⟩:=hM;unfold Tt;by_cases e2:BP<(A9.length:Int)
 ·rw [if_pos e2]at h;obtain⟨e3,h⟩:=Bw h;obtain⟨e4,h⟩:=Bw h;obtain⟨AZ,hl6,h⟩:=BA h;try dsimp only at h
  simp (maxDischargeDepth:=9) only [↓AP,AR,Ai,↓reduceIte,bj,bk,bl,bm,bo,bp,br,bt,bw,bx,bO,b0,b3,b4,b5,b6,b7,m0,m1,m2,m3,m4,m5,m6,e2,e3.1,e3.2,e4.1,e4.2];refine BM (NW A9 AO AA IC JB Jp BP hl6 ?_) ?_
  ·simp (maxDischargeDepth:=9) only [↓AP,AR,Ai,↓reduceIte,bj,bk,bl,bm,bo,bp,br,bt,bw,bx,bO,b0,b3,b4,b5,b6,b7,m0,m1,m2,m3,m4,m5,m6,e2,e3.1,e3.2,e4.1,e4.2,DY]<;>(repeat' apply A7)<;>first|rfl|exact⟨_,rfl⟩|exact⟨_,_,rfl⟩|simp [AQ,A8]
  ·intro ex6 s6 hX6;unfold EZ at hX6;obtain⟨rfl,n6_0,n6_1,n6_2,n6_3,n6_4,n6_5,n6_6,n6_7,n6_8⟩:=hX6;obtain⟨e7,h⟩:=Bw h;by_cases e8:((IZ JB AZ).2)=true
   ·rw [if_pos e8]at h;obtain⟨e9,h⟩:=Bw h
    obtain rfl:=Option.some.inj h
    simp (maxDischargeDepth:=9) only [↓AP,AR,Ai,↓reduceIte,bj,bk,bl,bm,bo,bp,br,bt,bw,bx,bO,b0,b3,b4,b5,b6,b7,e2,e3.1,e3.2,e4.1,e4.2,n6_0,n6_1,n6_2,n6_3,n6_4,n6_5,n6_6,n6_7,n6_8,e7.1,e7.2,e8,e9.1,e9.2,Cq,DZ,Cm,Cn,Co]<;>(repeat' apply A7)<;>first|rfl|exact⟨_,rfl⟩|exact⟨_,_,rfl⟩|simp [AQ,A8]
   ·rw [if_neg e8]at h;have e8f:((IZ JB AZ).2)=false:=JF.mpr e8;obtain⟨e9,h⟩:=Bw h
    obtain rfl:=Option.some.inj h
    simp (maxDischargeDepth:=9) only [↓AP,AR,Ai,↓reduceIte,bj,bk,bl,bm,bo,bp,br,bt,bw,bx,bO,b0,b3,b4,b5,b6,b7,e2,e3.1,e3.2,e4.1,e4.2,n6_0,n6_1,n6_2,n6_3,n6_4,n6_5,n6_6,n6_7,n6_8,e7.1,e7.2,e8f,e9.1,e9.2,Cq,DZ,Cm,Cn,Co]<;>(repeat' apply A7)<;>first|rfl|exact⟨_,rfl⟩|exact⟨_,_,rfl⟩|simp [AQ,A8]
 ·rw [if_neg e2]at h
  obtain rfl:=Option.some.inj h
  simp (maxDischargeDepth:=9) only [↓AP,AR,Ai,↓reduceIte,bj,bk,bl,bm,bo,bp,br,bt,bw,bx,bO,b0,b3,b4,b5,b6,b7,m0,m1,m2,m3,m4,m5,m6,e2,Cq,DZ,Cm,Cn,Co]<;>(repeat' apply A7)<;>first|rfl|exact⟨_,rfl⟩|exact⟨_,_,rfl⟩|simp [AQ,A8]
theorem O9(A9:Ar)(AO:AL)(AA:AL)(IC:AL){r:AL}(h:I8 A9 AO AA IC=some r):Y.call 125 [ce [bh 123 (AQ (fun x=>bh 125 (Aw .i64 .i64 x)) A9),bh 3 (AQ (bd .i64) AO),bh 3 (AQ (bd .i64) AA)],bh 3 (AQ (bd .i64) IC)] []=some (cd 3 (AQ (bd .i64) r),[]):=by
 refine ADP ?_ rfl;unfold A1C;unfold I8 at h;obtain⟨e1,h⟩:=Bw h;obtain⟨CW,hl3,h⟩:=BA h;try dsimp only at h
 simp (maxDischargeDepth:=9) only [↓AP,AR,Ai,↓reduceIte,bj,bk,bl,bm,bo,bp,br,bt,bw,bx,bO,b0,b3,b4,b5,b6,b7,e1.1,e1.2];refine BM (NY A9 AO AA IC hl3 ?_) ?_
 ·simp (maxDischargeDepth:=9) only [↓AP,AR,Ai,↓reduceIte,bj,bk,bl,bm,bo,bp,br,bt,bw,bx,bO,b0,b3,b4,b5,b6,b7,e1.1,e1.2,Cq]<;>(repeat' apply A7)<;>first|rfl|exact⟨_,rfl⟩|exact⟨_,_,rfl⟩|simp [AQ,A8]
 ·intro ex3 s3 hX3;unfold DZ at hX3;obtain⟨rfl,n3_0⟩:=hX3
  obtain rfl:=Option.some.inj h
  simp (maxDischargeDepth:=9) only [↓AP,AR,Ai,↓reduceIte,bj,bk,bl,bm,bo,bp,br,bt,bw,bx,bO,b0,b3,b4,b5,b6,b7,e1.1,e1.2,n3_0]<;>(repeat' apply A7)<;>first|rfl|exact⟨_,rfl⟩|exact⟨_,_,rfl⟩|simp [AQ,A8]
def EM(AC:Ar)(AY:AL)(AJ:AL)(t_:Int)(class_:AL)(FY:Int):Option ((AL×Int)⊕(AL)):= if FY<t_ then (I8 AC AY AJ class_).bind fun Qq=> some (cb (Qq,ca.wrap (FY+1))) else some (b8 class_)
def H5(AC:Ar)(AY:AL)(AJ:AL)(t_:Int)(v:AL×Int):Option (AL):=Io (fun v=>EM AC AY AJ t_ v.1 v.2) v
def JU(AC:Ar)(AY:AL)(AJ:AL)(t_:Int):Option (AL):= (El AC AY AJ).bind fun l8=> (H5 AC AY AJ t_ (l8,0)).bind fun AZ=> some AZ
def XA:SC:= .seq (.ops [oB 10 .lss 3 (tK 9) (tK 8) 3 4]) (.seq (.cond (tK 10) .skip (.exit 0)) (.seq (.block 1 (.ops [oL 11 47 2 47,oM 12 5 26,oC 13 125 [(tK 11),(tK 12)] [47,26] 26,oA 5 13 26])) (.ops [oB 14 .add 3 (tK 9) (iK 1) 3 3,oM 9 14 3])))
def lg:SC:= .loop XA
def k72:SC:= .seq (.ops [oX 2 (.box 47 (tK 0)) 0,oX 4 O3 26]) (.seq (.ops [oL 6 47 2 47,oC 7 125 [(tK 6),(.const (.slice none 0 0))] [47,26] 900013,oA 5 7 26]) (.seq (.seq (.ops [oM 8 1 3,oX 9 (.move (iK 0)) 3]) (.block 0 lg)) (.seq (.ops [oM 15 5 26,oA 4 15 26]) .ret)))
theorem A1D:Try.f72.body.map (Bi lends)=some k72:=by kernel_rfl
theorem ADR:CL Try.f72 2=true:=by kernel_rfl
theorem c72{a l:List D}{r:D×List D}(h:CK Y.env k72 (Fx Ac l.length [cc 4] r) (entry a l))(ha:a.length=2):Y.call 72 a l=some r:=
 Ab (Y:=Y) rfl Try.func72 (ha▸ADR) A1D h
def EN(AC:Ar)(AY:AL)(AJ:AL)(t_:Int)(class_:AL)(FY:Int)(s:St):Prop:=s.v 2=cg [bh 123 (AQ (fun x=>bh 125 (Aw .i64 .i64 x)) AC),bh 3 (AQ (bd .i64) AY),bh 3 (AQ (bd .i64) AJ)]∧s.v 5=cd 3 (AQ (bd .i64) class_)∧s.v 8=bd .i64 t_∧s.v 9=bd .i64 FY
def FN(AC:Ar)(AY:AL)(AJ:AL)(t_:Int)(r:AL)(ex:Ex)(s:St):Prop:=ex= .exit 0∧s.v 5=cd 3 (AQ (bd .i64) r)
theorem PE(AC:Ar)(AY:AL)(AJ:AL)(t_:Int){v:AL×Int}{s:St}{r:AL}(h:H5 AC AY AJ t_ v=some r)(hM:EN AC AY AJ t_ v.1 v.2 s):CK Y.env lg (FN AC AY AJ t_ r) s:=by
 unfold H5 at h;refine Bc (c:=XA) (fun v=>EM AC AY AJ t_ v.1 v.2) (fun v s=>EN AC AY AJ t_ v.1 v.2 s) (FN AC AY AJ t_) ?_ h hM;clear h hM s v r;intro v s o hM h;obtain⟨class_,FY⟩:=v;dsimp only at h hM;unfold EM at h;unfold EN at hM;obtain⟨m0,m1,m2,m3⟩:=hM;unfold XA;by_cases e2:FY<t_
 ·rw [if_pos e2]at h;obtain⟨Qq,hl3,h⟩:=BA h;try dsimp only at h
  have c3:=O9 AC AY AJ class_ hl3
  obtain rfl:=Option.some.inj h
  simp (maxDischargeDepth:=9) only [↓AP,AR,Ai,↓reduceIte,bj,bk,bl,bm,bo,bp,br,bt,bw,bx,bO,b0,b3,b4,b5,b6,b7,m0,m1,m2,m3,e2,c3,EN,FN,Cm,Cn,Co]<;>(repeat' apply A7)<;>first|rfl|exact⟨_,rfl⟩|exact⟨_,_,rfl⟩|simp [AQ,A8]
 ·rw [if_neg e2]at h
  obtain rfl:=Option.some.inj h
  simp (maxDischargeDepth:=9) only [↓AP,AR,Ai,↓reduceIte,bj,bk,bl,bm,bo,bp,br,bt,bw,bx,bO,b0,b3,b4,b5,b6,b7,m0,m1,m2,m3,e2,EN,FN,Cm,Cn,Co]<;>(repeat' apply A7)<;>first|rfl|exact⟨_,rfl⟩|exact⟨_,_,rfl⟩|simp [AQ,A8]
theorem Py(AC:Ar)(AY:AL)(AJ:AL)(t_:Int){r:AL}(h:JU AC AY AJ t_=some r):Y.call 72 [ce [bh 123 (AQ (fun x=>bh 125 (Aw .i64 .i64 x)) AC),bh 3 (AQ (bd .i64) AY),bh 3 (AQ (bd .i64) AJ)],bd .i64 t_] []=some (cd 3 (AQ (bd .i64) r),[]):=by
 refine c72 ?_ rfl;unfold k72;unfold JU at h;obtain⟨l8,hl1,h⟩:=BA h;try dsimp only at h
 have c1:=Lv AC AY AJ hl1;obtain⟨AZ,hl3,h⟩:=BA h;try dsimp only at h
 simp (maxDischargeDepth:=9) only [↓AP,AR,Ai,↓reduceIte,bj,bk,bl,bm,bo,bp,br,bt,bw,bx,bO,b0,b3,b4,b5,b6,b7,c1];refine BM (PE AC AY AJ t_ hl3 ?_) ?_
 ·simp (maxDischargeDepth:=9) only [↓AP,AR,Ai,↓reduceIte,bj,bk,bl,bm,bo,bp,br,bt,bw,bx,bO,b0,b3,b4,b5,b6,b7,c1,EN]<;>(repeat' apply A7)<;>first|rfl|exact⟨_,rfl⟩|exact⟨_,_,rfl⟩|simp [AQ,A8]
 ·intro ex3 s3 hX3;unfold FN at hX3;obtain⟨rfl,n3_0⟩:=hX3
  obtain rfl:=Option.some.inj h
  simp (maxDischargeDepth:=9) only [↓AP,AR,Ai,↓reduceIte,bj,bk,bl,bm,bo,bp,br,bt,bw,bx,bO,b0,b3,b4,b5,b6,b7,c1,n3_0]<;>(repeat' apply A7)<;>first|rfl|exact⟨_,rfl⟩|exact⟨_,_,rfl⟩|simp [AQ,A8]
def FO(A9:Ar)(AO:AL)(AA:AL)(IC:AL)(MN:Int)(N9:Int)(KC:Int):Option ((Int)⊕(Unit⊕Unit)):= if KC<((A9.getD MN.toNat be).length:Int)then ck (0≤KC∧KC.toNat<(A9.getD MN.toNat be).length)<| ck (0≤N9∧N9.toNat<A9.length)<| ck (0≤KC∧KC.toNat<(A9.getD N9.toNat be).length)<| if 0<(IC.length:Int)then if(CG (A9.getD MN.toNat be) KC.toNat)=(CG (A9.getD N9.toNat be) KC.toNat)then ck (0≤(BJ (A9.getD MN.toNat be) KC.toNat)∧(BJ (A9.getD MN.toNat be) KC.toNat).toNat<IC.length)<| ck (0≤(BJ (A9.getD N9.toNat be) KC.toNat)∧(BJ (A9.getD N9.toNat be) KC.toNat).toNat<IC.length)<| if(IC.getD ((BJ (A9.getD MN.toNat be) KC.toNat).toNat) be)=(IC.getD ((BJ (A9.getD N9.toNat be) KC.toNat).toNat) be)then some (cb (ca.wrap (KC+1))) else some (b8 (cb ())) else some (b8 (cb ())) else some (cb (ca.wrap (KC+1))) else some (b8 (b8 ()))
def Ii(A9:Ar)(AO:AL)(AA:AL)(IC:AL)(MN:Int)(N9:Int)(v:Int):Option (Unit⊕Unit):=Io (fun v=>FO A9 AO AA IC MN N9 v) v
def LF(A9:Ar)(AO:AL)(AA:AL)(IC:AL)(MN:Int)(N9:Int):Option (Bool):=
 ck (0≤MN∧MN.toNat<A9.length)<|
 ck (0≤N9∧N9.toNat<A9.length)<|
 if((A9.getD MN.toNat be).length:Int)=((A9.getD N9.toNat be).length:Int)then
  ck (0≤MN∧MN.toNat<AA.length)<|
  ck (0≤N9∧N9.toNat<AA.length)<|
  if(AA.getD MN.toNat be)=(AA.getD N9.toNat be)then
   (Ii A9 AO AA IC MN N9 0).bind fun AZ=>
   match AZ with
   | .inl q1000_=>
    some false
   | .inr q1000_=>
    some true
  else
   some false
 else
  some false
abbrev KD:List Nat:=[57,58,59,60,61,62,63,64,65,66,67,68,69,70,71,72,73,74,75,76,77,78,79]
def Tu:SC:= .seq (.ops [oB 45 .lss 3 (tK 44) (tK 43) 3 0]) (.seq (.cond (tK 45) .skip (.exit 0)) (.seq (.block 1 (.seq (.ops [oM 46 44 3,oI 47 123 42 44,oL 48 125 47 125,oX 10 (.alloc 125) 0,oA 9 46 3,oS 125 10 48]) (.seq (.ops [oF 49 47 4 0,oL 50 45 49 45,oM 51 3 3,oI 52 45 50 51,oL 53 123 52 123,oM 54 9 3,oI 55 123 53 54,oL 56 125 55 125,oX 11 (.alloc 125) 0,oS 125 11 56]) (.seq (.draws [(⟨[57,1,1],KD,[57]⟩,oM 57 1 26),(⟨[58,57,1],KD,[58]⟩,oN 58 57 26),(⟨[59,58,58],KD,[59]⟩,oB 59 .gtr 3 (tK 58) (iK 0) 3 4),(⟨[60,59,59],KD,[60]⟩,oM 60 59 4),(⟨[61,10,10,60],KD,[61]⟩,⟨(some 61),(.fieldAddr 125 (tK 10) 1),0,(some (some 60,true))⟩),(⟨[62,61,10,60],KD,[62]⟩,⟨(some 62),(.load 3 (tK 61)),3,(some (some 60,true))⟩),(⟨[63,11,11,60],KD,[63]⟩,⟨(some 63),(.fieldAddr 125 (tK 11) 1),0,(some (some 60,true))⟩),(⟨[64,63,11,60],KD,[64]⟩,⟨(some 64),(.load 3 (tK 63)),3,(some (some 60,true))⟩),(⟨[65,62,64,10,11,60],KD,[65]⟩,⟨(some 65),(.binOp .neq 3 (tK 62) (tK 64) 3),4,(some (some 60,true))⟩),(⟨[66,65,65,60],KD,[66]⟩,⟨(some 66),(.move (tK 65)),4,(some (some 60,true))⟩),(⟨[67,1,1,66],KD,[67]⟩,⟨(some 67),(.move (tK 1)),26,(some (some 66,false))⟩),(⟨[68,10,10,66],KD,[68]⟩,⟨(some 68),(.fieldAddr 125 (tK 10) 0),0,(some (some 66,false))⟩),
 (⟨[69,68,10,66],KD,[69]⟩,⟨(some 69),(.load 3 (tK 68)),3,(some (some 66,false))⟩),(⟨[70,67,69,1,10,66],KD,[70]⟩,⟨(some 70),(.indexAddr 26 (tK 67) (tK 69)),0,(some (some 66,false))⟩),(⟨[71,70,1,66],KD,[71]⟩,⟨(some 71),(.load 3 (tK 70)),3,(some (some 66,false))⟩),(⟨[72,1,1,66],KD,[72]⟩,⟨(some 72),(.move (tK 1)),26,(some (some 66,false))⟩),(⟨[73,11,11,66],KD,[73]⟩,⟨(some 73),(.fieldAddr 125 (tK 11) 0),0,(some (some 66,false))⟩),(⟨[74,73,11,66],KD,[74]⟩,⟨(some 74),(.load 3 (tK 73)),3,(some (some 66,false))⟩),(⟨[75,72,74,1,11,66],KD,[75]⟩,⟨(some 75),(.indexAddr 26 (tK 72) (tK 74)),0,(some (some 66,false))⟩),(⟨[76,75,1,66],KD,[76]⟩,⟨(some 76),(.load 3 (tK 75)),3,(some (some 66,false))⟩),(⟨[77,71,76,1,1,66],KD,[77]⟩,⟨(some 77),(.binOp .neq 3 (tK 71) (tK 76) 3),4,(some (some 66,false))⟩),(⟨[78,66,77,65,77,60],KD,[78]⟩,⟨(some 78),(.pick (tK 66) FR (tK 77)),4,(some (some 60,true))⟩),(⟨[79,60,78,59,78],KD,[79]⟩,oX 79 (.pick (tK 60) (tK 78) O5) 4)]) (.cond (tK 79) (.seq (.ops [oX 8 CJ 4]) .ret) .skip))))) (.ops [oB 80 .add 3 (tK 44) (iK 1) 3 3,oM 44 80 3])))
def dI:SC:= .loop Tu
abbrev JV:List Nat:=[12,13,14,15,16,17,18,19,20,21,22,23,24,25,26,27,28,29,30,31,32,33,34,35,36,37]
def A1E:SC:= .seq (.ops [oX 4 (.box 47 (tK 0)) 0,oX 8 CJ 4]) (.seq (.seq (.draws [(⟨[12,4,4],JV,[12]⟩,oF 12 47 4 0),(⟨[13,12,4],JV,[13]⟩,oL 13 45 12 45),(⟨[14,2,2],JV,[14]⟩,oM 14 2 3),(⟨[15,13,14,4,2],JV,[15]⟩,oI 15 45 13 14),(⟨[16,15,4],JV,[16]⟩,oL 16 123 15 123),(⟨[17,16,4],JV,[17]⟩,oN 17 16 123),(⟨[18,4,4],JV,[18]⟩,oF 18 47 4 0),(⟨[19,18,4],JV,[19]⟩,oL 19 45 18 45),(⟨[20,3,3],JV,[20]⟩,oM 20 3 3),(⟨[21,19,20,4,3],JV,[21]⟩,oI 21 45 19 20),(⟨[22,21,4],JV,[22]⟩,oL 22 123 21 123),(⟨[23,22,4],JV,[23]⟩,oN 23 22 123),(⟨[24,17,23,17,23],JV,[24]⟩,oB 24 .neq 3 (tK 17) (tK 23) 3 4),(⟨[25,24,24],JV,[25]⟩,oM 25 24 4),(⟨[26,4,4,25],JV,[26]⟩,⟨(some 26),(.fieldAddr 47 (tK 4) 2),0,(some (some 25,false))⟩),(⟨[27,26,4,25],JV,[27]⟩,⟨(some 27),(.load 26 (tK 26)),26,(some (some 25,false))⟩),(⟨[28,2,2,25],JV,[28]⟩,⟨(some 28),(.move (tK 2)),3,(some (some 25,false))⟩),(⟨[29,27,28,4,2,25],JV,[29]⟩,⟨(some 29),(.indexAddr 26 (tK 27) (tK 28)),0,(some (some 25,false))⟩),(⟨[30,29,4,25],JV,[30]⟩,⟨(some 30),(.load 3 (tK 29)),3,(some (some 25,false))⟩),(⟨[31,4,4,25],JV,[31]⟩,⟨(some 31),(.fieldAddr 47 (tK 4) 2),0,(some (some 25,false))⟩),(⟨[32,31,4,25],JV,[32]⟩,⟨(some 32),(.load 26 (tK 31)),26,(some (some 25,false))⟩),
 (⟨[33,3,3,25],JV,[33]⟩,⟨(some 33),(.move (tK 3)),3,(some (some 25,false))⟩),(⟨[34,32,33,4,3,25],JV,[34]⟩,⟨(some 34),(.indexAddr 26 (tK 32) (tK 33)),0,(some (some 25,false))⟩),(⟨[35,34,4,25],JV,[35]⟩,⟨(some 35),(.load 3 (tK 34)),3,(some (some 25,false))⟩),(⟨[36,30,35,4,4,25],JV,[36]⟩,⟨(some 36),(.binOp .neq 3 (tK 30) (tK 35) 3),4,(some (some 25,false))⟩),(⟨[37,25,36,24,36],JV,[37]⟩,oX 37 (.pick (tK 25) FR (tK 36)) 4)]) (.cond (tK 37) (.seq (.ops [oX 8 CJ 4]) .ret) .skip)) (.seq (.seq (.ops [oF 38 47 4 0,oL 39 45 38 45,oM 40 2 3,oI 41 45 39 40,oL 42 123 41 123,oN 43 42 123,oX 44 (.move (iK 0)) 3]) (.block 0 dI)) (.seq (.ops [oX 8 (.assign FR) 4]) .ret)))
theorem pg:Try.f150.body.map (Bi lends)=some A1E:=by kernel_rfl
theorem A86:CL Try.f150 4=true:=by kernel_rfl
theorem ADS{a l:List D}{r:D×List D}(h:CK Y.env A1E (Fx Ac l.length [cc 8] r) (entry a l))(ha:a.length=4):Y.call 150 a l=some r:=
 Ab (Y:=Y) rfl Try.func150 (ha▸A86) pg h
def DF(A9:Ar)(AO:AL)(AA:AL)(IC:AL)(MN:Int)(N9:Int)(KC:Int)(s:St):Prop:=s.v 1=bh 3 (AQ (bd .i64) IC)∧s.v 3=bd .i64 N9∧s.v 4=cg [bh 123 (AQ (fun x=>bh 125 (Aw .i64 .i64 x)) A9),bh 3 (AQ (bd .i64) AO),bh 3 (AQ (bd .i64) AA)]∧s.v 42=bh 125 (Aw .i64 .i64 (A9.getD MN.toNat be))∧s.v 43=bd .i64 ((A9.getD MN.toNat be).length:Int)∧s.v 44=bd .i64 KC
def DI(A9:Ar)(AO:AL)(AA:AL)(IC:AL)(MN:Int)(N9:Int)(r:Unit⊕Unit)(ex:Ex)(s:St):Prop:=match r with
 | .inl q=>ex= .ret∧s.v 8=b9 false
 | .inr q=>ex= .exit 0
theorem Qr(A9:Ar)(AO:AL)(AA:AL)(IC:AL)(MN:Int)(N9:Int){v:Int}{s:St}{r:Unit⊕Unit}(h:Ii A9 AO AA IC MN N9 v=some r)(hM:DF A9 AO AA IC MN N9 v s):CK Y.env dI (DI A9 AO AA IC MN N9 r) s:=by
 unfold Ii at h;refine Bc (c:=Tu) (fun v=>FO A9 AO AA IC MN N9 v) (fun v s=>DF A9 AO AA IC MN N9 v s) (DI A9 AO AA IC MN N9) ?_ h hM;clear h hM s v r;intro KC s o hM h;unfold FO at h;unfold DF at hM;obtain⟨m0,m1,m2,m3,m4,m5⟩:=hM;unfold Tu;by_cases e7:KC<((A9.getD MN.toNat be).length:Int)
 ·rw [if_pos e7]at h;obtain⟨e8,h⟩:=Bw h;obtain⟨e9,h⟩:=Bw h;obtain⟨e10,h⟩:=Bw h;by_cases e11:0<(IC.length:Int)
  ·rw [if_pos e11]at h;by_cases e12:(CG (A9.getD MN.toNat be) KC.toNat)=(CG (A9.getD N9.toNat be) KC.toNat)
   ·rw [if_pos e12]at h;obtain⟨e13,h⟩:=Bw h;obtain⟨e14,h⟩:=Bw h;by_cases e15:(IC.getD ((BJ (A9.getD MN.toNat be) KC.toNat).toNat) be)=(IC.getD ((BJ (A9.getD N9.toNat be) KC.toNat).toNat) be)
    ·rw [if_pos e15]at h
     obtain rfl:=Option.some.inj h
     simp (maxDischargeDepth:=9) only [↓AP,AR,Ai,↓reduceIte,bj,bk,bl,bm,bo,bp,br,bt,bw,bx,bO,b0,b3,b4,b5,b6,b7,m0,m1,m2,m3,m4,m5,e7,e8.1,e8.2,e9.1,e9.2,e10.1,e10.2,e11,decide_eq_true e12,e13.1,e13.2,e14.1,e14.2,decide_eq_true e15,DF,DI,Cm,Cn,Co]<;>(repeat' apply A7)<;>first|rfl|exact⟨_,rfl⟩|exact⟨_,_,rfl⟩|simp [AQ,A8]
    ·rw [if_neg e15]at h
     obtain rfl:=Option.some.inj h
     simp (maxDischargeDepth:=9) only [↓AP,AR,Ai,↓reduceIte,bj,bk,bl,bm,bo,bp,br,bt,bw,bx,bO,b0,b3,b4,b5,b6,b7,m0,m1,m2,m3,m4,m5,e7,e8.1,e8.2,e9.1,e9.2,e10.1,e10.2,e11,decide_eq_true e12,e13.1,e13.2,e14.1,e14.2,e15,DF,DI,Cm,Cn,Co]<;>(repeat' apply A7)<;>first|rfl|exact⟨_,rfl⟩|exact⟨_,_,rfl⟩|simp [AQ,A8]
   ·rw [if_neg e12]at h
    obtain rfl:=Option.some.inj h
    simp (maxDischargeDepth:=9) only [↓AP,AR,Ai,↓reduceIte,bj,bk,bl,bm,bo,bp,br,bt,bw,bx,bO,b0,b3,b4,b5,b6,b7,m0,m1,m2,m3,m4,m5,e7,e8.1,e8.2,e9.1,e9.2,e10.1,e10.2,e11,e12,DF,DI,Cm,Cn,Co]<;>(repeat' apply A7)<;>first|rfl|exact⟨_,rfl⟩|exact⟨_,_,rfl⟩|simp [AQ,A8]
  ·rw [if_neg e11]at h
   obtain rfl:=Option.some.inj h
   simp (maxDischargeDepth:=9) only [↓AP,AR,Ai,↓reduceIte,bj,bk,bl,bm,bo,bp,br,bt,bw,bx,bO,b0,b3,b4,b5,b6,b7,m0,m1,m2,m3,m4,m5,e7,e8.1,e8.2,e9.1,e9.2,e10.1,e10.2,e11,DF,DI,Cm,Cn,Co]<;>(repeat' apply A7)<;>first|rfl|exact⟨_,rfl⟩|exact⟨_,_,rfl⟩|simp [AQ,A8]
 ·rw [if_neg e7]at h
  obtain rfl:=Option.some.inj h
  simp (maxDischargeDepth:=9) only [↓AP,AR,Ai,↓reduceIte,bj,bk,bl,bm,bo,bp,br,bt,bw,bx,bO,b0,b3,b4,b5,b6,b7,m0,m1,m2,m3,m4,m5,e7,DF,DI,Cm,Cn,Co]<;>(repeat' apply A7)<;>first|rfl|exact⟨_,rfl⟩|exact⟨_,_,rfl⟩|simp [AQ,A8]
theorem Tv(A9:Ar)(AO:AL)(AA:AL)(IC:AL)(MN:Int)(N9:Int){r:Bool}(h:LF A9 AO AA IC MN N9=some r):Y.call 150 [ce [bh 123 (AQ (fun x=>bh 125 (Aw .i64 .i64 x)) A9),bh 3 (AQ (bd .i64) AO),bh 3 (AQ (bd .i64) AA)],bh 3 (AQ (bd .i64) IC),bd .i64 MN,bd .i64 N9] []=some (b9 r,[]):=by
 refine ADS ?_ rfl;unfold A1E;unfold LF at h;obtain⟨e1,h⟩:=Bw h;obtain⟨e2,h⟩:=Bw h;by_cases e3:((A9.getD MN.toNat be).length:Int)=((A9.getD N9.toNat be).length:Int)
 ·rw [if_pos e3]at h;obtain⟨e4,h⟩:=Bw h;obtain⟨e5,h⟩:=Bw h;by_cases e6:(AA.getD MN.toNat be)=(AA.getD N9.toNat be)
  ·rw [if_pos e6]at h;obtain⟨AZ,hl8,h⟩:=BA h;try dsimp only at h
   simp (maxDischargeDepth:=9) only [↓AP,AR,Ai,↓reduceIte,bj,bk,bl,bm,bo,bp,br,bt,bw,bx,bO,b0,b3,b4,b5,b6,b7,e1.1,e1.2,e2.1,e2.2,decide_eq_true e3,e4.1,e4.2,e5.1,e5.2,decide_eq_true e6];refine BM (Qr A9 AO AA IC MN N9 hl8 ?_) ?_
   ·simp (maxDischargeDepth:=9) only [↓AP,AR,Ai,↓reduceIte,bj,bk,bl,bm,bo,bp,br,bt,bw,bx,bO,b0,b3,b4,b5,b6,b7,e1.1,e1.2,e2.1,e2.2,decide_eq_true e3,e4.1,e4.2,e5.1,e5.2,decide_eq_true e6,DF]<;>(repeat' apply A7)<;>first|rfl|exact⟨_,rfl⟩|exact⟨_,_,rfl⟩|simp [AQ,A8]
   ·intro ex8 s8 hX8;rcases AZ with q1000_|q1000_
    ·unfold DI at hX8;dsimp only at hX8 h;obtain⟨rfl,n8_0⟩:=hX8
     obtain rfl:=Option.some.inj h
     simp (maxDischargeDepth:=9) only [↓AP,AR,Ai,↓reduceIte,bj,bk,bl,bm,bo,bp,br,bt,bw,bx,bO,b0,b3,b4,b5,b6,b7,e1.1,e1.2,e2.1,e2.2,decide_eq_true e3,e4.1,e4.2,e5.1,e5.2,decide_eq_true e6,n8_0]<;>(repeat' apply A7)<;>first|rfl|exact⟨_,rfl⟩|exact⟨_,_,rfl⟩|simp [AQ,A8]
    ·unfold DI at hX8;dsimp only at hX8 h
     obtain rfl:=hX8
     obtain rfl:=Option.some.inj h
     simp (maxDischargeDepth:=9) only [↓AP,AR,Ai,↓reduceIte,bj,bk,bl,bm,bo,bp,br,bt,bw,bx,bO,b0,b3,b4,b5,b6,b7,e1.1,e1.2,e2.1,e2.2,decide_eq_true e3,e4.1,e4.2,e5.1,e5.2,decide_eq_true e6]<;>(repeat' apply A7)<;>first|rfl|exact⟨_,rfl⟩|exact⟨_,_,rfl⟩|simp [AQ,A8]
  ·rw [if_neg e6]at h
   obtain rfl:=Option.some.inj h
   simp (maxDischargeDepth:=9) only [↓AP,AR,Ai,↓reduceIte,bj,bk,bl,bm,bo,bp,br,bt,bw,bx,bO,b0,b3,b4,b5,b6,b7,e1.1,e1.2,e2.1,e2.2,decide_eq_true e3,e4.1,e4.2,e5.1,e5.2,e6]<;>(repeat' apply A7)<;>first|rfl|exact⟨_,rfl⟩|exact⟨_,_,rfl⟩|simp [AQ,A8]
 ·rw [if_neg e3]at h
  obtain rfl:=Option.some.inj h
  simp (maxDischargeDepth:=9) only [↓AP,AR,Ai,↓reduceIte,bj,bk,bl,bm,bo,bp,br,bt,bw,bx,bO,b0,b3,b4,b5,b6,b7,e1.1,e1.2,e2.1,e2.2,e3]<;>(repeat' apply A7)<;>first|rfl|exact⟨_,rfl⟩|exact⟨_,_,rfl⟩|simp [AQ,A8]
def Cg(AC:Ar)(AY:AL)(AJ:AL)(class_:AL)(out:AL)(many:Int)(H6:Int)(at_:Int)(u:Int):Option ((Int×Int)⊕(Int)):= if u<H6 then if at_<0 then (LF AC AY AJ class_ u H6).bind fun KE=> if KE=true then some (cb (u,ca.wrap (u+1))) else some (cb (at_,ca.wrap (u+1))) else some (b8 at_) else some (b8 at_)
def IL(AC:Ar)(AY:AL)(AJ:AL)(class_:AL)(out:AL)(many:Int)(H6:Int)(v:Int×Int):Option (Int):=Io (fun v=>Cg AC AY AJ class_ out many H6 v.1 v.2) v
def GY(AC:Ar)(AY:AL)(AJ:AL)(class_:AL)(out:AL)(many:Int)(H6:Int):Option ((AL×Int×Int)⊕(AL)):= if H6<(AC.length:Int)then (IL AC AY AJ class_ out many H6 ((-1),0)).bind fun AZ=> if 0≤AZ then ck (0≤AZ∧AZ.toNat<out.length)<| ck (0≤H6∧H6.toNat<out.length)<| some (cb ((out.set H6.toNat (out.getD AZ.toNat be)),many,ca.wrap (H6+1))) else ck (0≤H6∧H6.toNat<out.length)<| some (cb ((out.set H6.toNat many),ca.wrap (many+1),ca.wrap (H6+1))) else some (b8 out)
def JW(AC:Ar)(AY:AL)(AJ:AL)(class_:AL)(v:AL×Int×Int):Option (AL):=Io (fun v=>GY AC AY AJ class_ v.1 v.2.1 v.2.2) v
def LG(AC:Ar)(AY:AL)(AJ:AL)(class_:AL):Option (AL):= ck (0≤(AC.length:Int)∧(AC.length:Int)<1099511627776)<| (JW AC AY AJ class_ ((ao AC.length 0),0,0)).bind fun CW=> some CW
def Tw:SC:= .seq (.seq (.ops [oM 20 9 3,oM 21 7 3,oB 22 .lss 3 (tK 20) (tK 21) 3 4,oM 23 22 4,⟨(some 24),(.move (tK 8)),3,(some (some 23,true))⟩,⟨(some 25),(.binOp .lss 3 (tK 24) (iK 0) 3),4,(some (some 23,true))⟩,oX 26 (.pick (tK 23) (tK 25) O5) 4]) (.cond (tK 26) .skip (.exit 2))) (.seq (.block 3 (.seq (.ops [oL 29 47 2 47,oM 30 1 26,oM 31 9 3,oM 32 7 3,oC 33 150 [(tK 29),(tK 30),(tK 31),(tK 32)] [47,26,3,3] 4]) (.cond (tK 33) (.ops [oM 34 9 3,oA 8 34 3]) .skip))) (.ops [oM 27 9 3,oB 28 .add 3 (tK 27) (iK 1) 3 3,oA 9 28 3]))
def dJ:SC:= .loop Tw
def Tx:SC:= .seq (.ops [oB 18 .lss 3 (tK 17) (tK 16) 3 0]) (.seq (.cond (tK 18) .skip (.exit 0)) (.seq (.block 1 (.seq (.ops [oM 19 17 3,oA 7 19 3]) (.seq (.ops [oX 8 O4 3]) (.seq (.seq (.ops [oX 9 (.assign (iK 0)) 3]) (.block 2 dJ)) (.seq (.ops [oM 35 8 3,oB 36 .geq 3 (tK 35) (iK 0) 3 4]) (.cond (tK 36) (.ops [oM 37 5 26,oM 38 7 3,oM 39 5 26,oM 40 8 3,oI 41 26 39 40,oL 42 3 41 3,oI 43 26 37 38,oS 3 43 42]) (.seq (.ops [oM 44 5 26,oM 45 7 3,oM 46 6 3,oI 47 26 44 45,oS 3 47 46]) (.ops [oM 48 6 3,oB 49 .add 3 (tK 48) (iK 1) 3 3,oA 6 49 3])))))))) (.ops [oB 50 .add 3 (tK 17) (iK 1) 3 3,oM 17 50 3])))
def dK:SC:= .loop Tx
def A1F:SC:= .seq (.ops [oX 2 (.box 47 (tK 0)) 0,oX 4 O3 26]) (.seq (.ops [oF 10 47 2 0,oL 11 45 10 45,oN 12 11 45,oX 13 (.makeSlice 26 (tK 12) (tK 12)) 26,oA 5 13 26]) (.seq (.ops [oX 6 (.assign (iK 0)) 3]) (.seq (.seq (.ops [oF 14 47 2 0,oL 15 45 14 45,oN 16 15 45,oX 17 (.move (iK 0)) 3]) (.block 0 dK)) (.seq (.ops [oM 51 5 26,oA 4 51 26]) .ret))))
theorem pq:Try.f110.body.map (Bi lends)=some A1F:=by kernel_rfl
theorem A87:CL Try.f110 2=true:=by kernel_rfl
theorem ADT{a l:List D}{r:D×List D}(h:CK Y.env A1F (Fx Ac l.length [cc 4] r) (entry a l))(ha:a.length=2):Y.call 110 a l=some r:=
 Ab (Y:=Y) rfl Try.func110 (ha▸A87) pq h
def EH(AC:Ar)(AY:AL)(AJ:AL)(class_:AL)(out:AL)(many:Int)(H6:Int)(at_:Int)(u:Int)(s:St):Prop:=s.v 1=bh 3 (AQ (bd .i64) class_)∧s.v 2=cg [bh 123 (AQ (fun x=>bh 125 (Aw .i64 .i64 x)) AC),bh 3 (AQ (bd .i64) AY),bh 3 (AQ (bd .i64) AJ)]∧s.v 5=cd 3 (AQ (bd .i64) out)∧s.v 6=bd .i64 many∧s.v 7=bd .i64 H6∧s.v 8=bd .i64 at_∧s.v 9=bd .i64 u∧s.v 16=bd .i64 (AC.length:Int)∧s.v 17=bd .i64 H6
def F5(AC:Ar)(AY:AL)(AJ:AL)(class_:AL)(out:AL)(many:Int)(H6:Int)(r:Int)(ex:Ex)(s:St):Prop:=ex= .exit 2∧s.v 1=bh 3 (AQ (bd .i64) class_)∧s.v 2=cg [bh 123 (AQ (fun x=>bh 125 (Aw .i64 .i64 x)) AC),bh 3 (AQ (bd .i64) AY),bh 3 (AQ (bd .i64) AJ)]∧s.v 5=cd 3 (AQ (bd .i64) out)∧s.v 6=bd .i64 many∧s.v 7=bd .i64 H6∧s.v 8=bd .i64 r∧s.v 16=bd .i64 (AC.length:Int)∧s.v 17=bd .i64 H6
theorem Tz(AC:Ar)(AY:AL)(AJ:AL)(class_:AL)(out:AL)(many:Int)(H6:Int){v:Int×Int}{s:St}{r:Int}(h:IL AC AY AJ class_ out many H6 v=some r)(hM:EH AC AY AJ class_ out many H6 v.1 v.2 s):CK Y.env dJ (F5 AC AY AJ class_ out many H6 r) s:=by
 unfold IL at h;refine Bc (c:=Tw) (fun v=>Cg AC AY AJ class_ out many H6 v.1 v.2) (fun v s=>EH AC AY AJ class_ out many H6 v.1 v.2 s) (F5 AC AY AJ class_ out many H6) ?_ h hM;clear h hM s v r;intro v s o hM h;obtain⟨at_,u⟩:=v;dsimp only at h hM;unfold Cg at h;unfold EH at hM;obtain⟨m0,m1,m2,m3,m4,m5,m6,m7,m8⟩:=hM;unfold Tw;by_cases e3:u<H6
 ·rw [if_pos e3]at h;by_cases e4:at_<0
  ·rw [if_pos e4]at h;obtain⟨KE,hl5,h⟩:=BA h;try dsimp only at h
   have c5:=Tv AC AY AJ class_ u H6 hl5;by_cases e6:KE=true
   ·rw [if_pos e6]at h
    obtain rfl:=Option.some.inj h
    simp (maxDischargeDepth:=9) only [↓AP,AR,Ai,↓reduceIte,bj,bk,bl,bm,bo,bp,br,bt,bw,bx,bO,b0,b3,b4,b5,b6,b7,m0,m1,m2,m3,m4,m5,m6,m7,m8,e3,e4,c5,e6,EH,F5,Cm,Cn,Co]<;>(repeat' apply A7)<;>first|rfl|exact⟨_,rfl⟩|exact⟨_,_,rfl⟩|simp [AQ,A8]
   ·rw [if_neg e6]at h;have e6f:KE=false:=JF.mpr e6
    obtain rfl:=Option.some.inj h
    simp (maxDischargeDepth:=9) only [↓AP,AR,Ai,↓reduceIte,bj,bk,bl,bm,bo,bp,br,bt,bw,bx,bO,b0,b3,b4,b5,b6,b7,m0,m1,m2,m3,m4,m5,m6,m7,m8,e3,e4,c5,e6f,EH,F5,Cm,Cn,Co]<;>(repeat' apply A7)<;>first|rfl|exact⟨_,rfl⟩|exact⟨_,_,rfl⟩|simp [AQ,A8]
  ·rw [if_neg e4]at h
   obtain rfl:=Option.some.inj h
   simp (maxDischargeDepth:=9) only [↓AP,AR,Ai,↓reduceIte,bj,bk,bl,bm,bo,bp,br,bt,bw,bx,bO,b0,b3,b4,b5,b6,b7,m0,m1,m2,m3,m4,m5,m6,m7,m8,e3,e4,EH,F5,Cm,Cn,Co]<;>(repeat' apply A7)<;>first|rfl|exact⟨_,rfl⟩|exact⟨_,_,rfl⟩|simp [AQ,A8]
 ·rw [if_neg e3]at h
  obtain rfl:=Option.some.inj h
  simp (maxDischargeDepth:=9) only [↓AP,AR,Ai,↓reduceIte,bj,bk,bl,bm,bo,bp,br,bt,bw,bx,bO,b0,b3,b4,b5,b6,b7,m0,m1,m2,m3,m4,m5,m6,m7,m8,e3,EH,F5,Cm,Cn,Co]<;>(repeat' apply A7)<;>first|rfl|exact⟨_,rfl⟩|exact⟨_,_,rfl⟩|simp [AQ,A8]
def F6(AC:Ar)(AY:AL)(AJ:AL)(class_:AL)(out:AL)(many:Int)(H6:Int)(s:St):Prop:=s.v 1=bh 3 (AQ (bd .i64) class_)∧s.v 2=cg [bh 123 (AQ (fun x=>bh 125 (Aw .i64 .i64 x)) AC),bh 3 (AQ (bd .i64) AY),bh 3 (AQ (bd .i64) AJ)]∧s.v 5=cd 3 (AQ (bd .i64) out)∧s.v 6=bd .i64 many∧s.v 16=bd .i64 (AC.length:Int)∧s.v 17=bd .i64 H6
def GZ(AC:Ar)(AY:AL)(AJ:AL)(class_:AL)(r:AL)(ex:Ex)(s:St):Prop:=ex= .exit 0∧s.v 5=cd 3 (AQ (bd .i64) r)
theorem U0(AC:Ar)(AY:AL)(AJ:AL)(class_:AL){v:AL×Int×Int}{s:St}{r:AL}(h:JW AC AY AJ class_ v=some r)(hM:F6 AC AY AJ class_ v.1 v.2.1 v.2.2 s):CK Y.env dK (GZ AC AY AJ class_ r) s:=by
 unfold JW at h;refine Bc (c:=Tx) (fun v=>GY AC AY AJ class_ v.1 v.2.1 v.2.2) (fun v s=>F6 AC AY AJ class_ v.1 v.2.1 v.2.2 s) (GZ AC AY AJ class_) ?_ h hM;clear h hM s v r;intro v s o hM h;obtain⟨out,many,H6⟩:=v;dsimp only at h hM;unfold GY at h;unfold F6 at hM;obtain⟨m0,m1,m2,m3,m4,m5⟩:=hM;unfold Tx;by_cases e2:H6<(AC.length:Int)
 ·rw [if_pos e2]at h;obtain⟨AZ,hl4,h⟩:=BA h;try dsimp only at h
  simp (maxDischargeDepth:=9) only [↓AP,AR,Ai,↓reduceIte,bj,bk,bl,bm,bo,bp,br,bt,bw,bx,bO,b0,b3,b4,b5,b6,b7,m0,m1,m2,m3,m4,m5,e2];refine BM (Tz AC AY AJ class_ out many H6 hl4 ?_) ?_
  ·simp (maxDischargeDepth:=9) only [↓AP,AR,Ai,↓reduceIte,bj,bk,bl,bm,bo,bp,br,bt,bw,bx,bO,b0,b3,b4,b5,b6,b7,m0,m1,m2,m3,m4,m5,e2,EH]<;>(repeat' apply A7)<;>first|rfl|exact⟨_,rfl⟩|exact⟨_,_,rfl⟩|simp [AQ,A8]
  ·intro ex4 s4 hX4;unfold F5 at hX4;obtain⟨rfl,n4_0,n4_1,n4_2,n4_3,n4_4,n4_5,n4_6,n4_7⟩:=hX4;by_cases e5:0≤AZ
   ·rw [if_pos e5]at h;obtain⟨e6,h⟩:=Bw h;obtain⟨e7,h⟩:=Bw h
    obtain rfl:=Option.some.inj h
    simp (maxDischargeDepth:=9) only [↓AP,AR,Ai,↓reduceIte,bj,bk,bl,bm,bo,bp,br,bt,bw,bx,bO,b0,b3,b4,b5,b6,b7,e2,n4_0,n4_1,n4_2,n4_3,n4_4,n4_5,n4_6,n4_7,e5,e6.1,e6.2,e7.1,e7.2,F6,GZ,Cm,Cn,Co]<;>(repeat' apply A7)<;>first|rfl|exact⟨_,rfl⟩|exact⟨_,_,rfl⟩|simp [AQ,A8]
   ·rw [if_neg e5]at h;obtain⟨e6,h⟩:=Bw h
    obtain rfl:=Option.some.inj h
    simp (maxDischargeDepth:=9) only [↓AP,AR,Ai,↓reduceIte,bj,bk,bl,bm,bo,bp,br,bt,bw,bx,bO,b0,b3,b4,b5,b6,b7,e2,n4_0,n4_1,n4_2,n4_3,n4_4,n4_5,n4_6,n4_7,e5,e6.1,e6.2,F6,GZ,Cm,Cn,Co]<;>(repeat' apply A7)<;>first|rfl|exact⟨_,rfl⟩|exact⟨_,_,rfl⟩|simp [AQ,A8]
 ·rw [if_neg e2]at h
  obtain rfl:=Option.some.inj h
  simp (maxDischargeDepth:=9) only [↓AP,AR,Ai,↓reduceIte,bj,bk,bl,bm,bo,bp,br,bt,bw,bx,bO,b0,b3,b4,b5,b6,b7,m0,m1,m2,m3,m4,m5,e2,F6,GZ,Cm,Cn,Co]<;>(repeat' apply A7)<;>first|rfl|exact⟨_,rfl⟩|exact⟨_,_,rfl⟩|simp [AQ,A8]
theorem Nk(AC:Ar)(AY:AL)(AJ:AL)(class_:AL){r:AL}(h:LG AC AY AJ class_=some r):Y.call 110 [ce [bh 123 (AQ (fun x=>bh 125 (Aw .i64 .i64 x)) AC),bh 3 (AQ (bd .i64) AY),bh 3 (AQ (bd .i64) AJ)],bh 3 (AQ (bd .i64) class_)] []=some (cd 3 (AQ (bd .i64) r),[]):=by
 refine ADT ?_ rfl;unfold A1F;unfold LG at h;obtain⟨e1,h⟩:=Bw h;obtain⟨CW,hl3,h⟩:=BA h;try dsimp only at h
 simp (maxDischargeDepth:=9) only [↓AP,AR,Ai,↓reduceIte,bj,bk,bl,bm,bo,bp,br,bt,bw,bx,bO,b0,b3,b4,b5,b6,b7,e1.1,e1.2];refine BM (U0 AC AY AJ class_ hl3 ?_) ?_
 ·simp (maxDischargeDepth:=9) only [↓AP,AR,Ai,↓reduceIte,bj,bk,bl,bm,bo,bp,br,bt,bw,bx,bO,b0,b3,b4,b5,b6,b7,e1.1,e1.2,F6]<;>(repeat' apply A7)<;>first|rfl|exact⟨_,rfl⟩|exact⟨_,_,rfl⟩|simp [AQ,A8]
 ·intro ex3 s3 hX3;unfold GZ at hX3;obtain⟨rfl,n3_0⟩:=hX3
  obtain rfl:=Option.some.inj h
  simp (maxDischargeDepth:=9) only [↓AP,AR,Ai,↓reduceIte,bj,bk,bl,bm,bo,bp,br,bt,bw,bx,bO,b0,b3,b4,b5,b6,b7,e1.1,e1.2,n3_0]<;>(repeat' apply A7)<;>first|rfl|exact⟨_,rfl⟩|exact⟨_,_,rfl⟩|simp [AQ,A8]
def EO(AC:Ar)(AY:AL)(AJ:AL)(t_1:Int)(class_:AL):Option ((Int×AL)⊕(AL)):= if 0<t_1 then (LG AC AY AJ class_).bind fun JQ=> some (cb (ca.wrap (t_1-1),JQ)) else some (b8 class_)
def H7(AC:Ar)(AY:AL)(AJ:AL)(v:Int×AL):Option (AL):=Io (fun v=>EO AC AY AJ v.1 v.2) v
def JX(AC:Ar)(AY:AL)(AJ:AL)(t_:Int):Option (AL):= (LG AC AY AJ []).bind fun l8=> (H7 AC AY AJ (t_,l8)).bind fun AZ=> some AZ
def XB:SC:= .seq (.seq (.ops [oM 8 1 3,oB 9 .gtr 3 (tK 8) (iK 0) 3 4]) (.cond (tK 9) .skip (.exit 0))) (.seq (.block 1 (.ops [oL 12 47 2 47,oM 13 5 26,oC 14 110 [(tK 12),(tK 13)] [47,26] 26,oA 5 14 26])) (.ops [oM 10 1 3,oB 11 .sub 3 (tK 10) (iK 1) 3 3,oA 1 11 3]))
def lh:SC:= .loop XB
def k64:SC:= .seq (.ops [oX 2 (.box 47 (tK 0)) 0,oX 4 O3 26]) (.seq (.ops [oL 6 47 2 47,oC 7 110 [(tK 6),(.const (.slice none 0 0))] [47,26] 26,oA 5 7 26]) (.seq (.block 0 lh) (.seq (.ops [oM 15 5 26,oA 4 15 26]) .ret)))
theorem A1G:Try.f64.body.map (Bi lends)=some k64:=by kernel_rfl
theorem ADV:CL Try.f64 2=true:=by kernel_rfl
theorem c64{a l:List D}{r:D×List D}(h:CK Y.env k64 (Fx Ac l.length [cc 4] r) (entry a l))(ha:a.length=2):Y.call 64 a l=some r:=
 Ab (Y:=Y) rfl Try.func64 (ha▸ADV) A1G h
def EP(AC:Ar)(AY:AL)(AJ:AL)(t_1:Int)(class_:AL)(s:St):Prop:=s.v 1=bd .i64 t_1∧s.v 2=cg [bh 123 (AQ (fun x=>bh 125 (Aw .i64 .i64 x)) AC),bh 3 (AQ (bd .i64) AY),bh 3 (AQ (bd .i64) AJ)]∧s.v 5=cd 3 (AQ (bd .i64) class_)
def FP(AC:Ar)(AY:AL)(AJ:AL)(r:AL)(ex:Ex)(s:St):Prop:=ex= .exit 0∧s.v 5=cd 3 (AQ (bd .i64) r)
theorem PG(AC:Ar)(AY:AL)(AJ:AL){v:Int×AL}{s:St}{r:AL}(h:H7 AC AY AJ v=some r)(hM:EP AC AY AJ v.1 v.2 s):CK Y.env lh (FP AC AY AJ r) s:=by
 unfold H7 at h;refine Bc (c:=XB) (fun v=>EO AC AY AJ v.1 v.2) (fun v s=>EP AC AY AJ v.1 v.2 s) (FP AC AY AJ) ?_ h hM;clear h hM s v r;intro v s o hM h;obtain⟨t_1,class_⟩:=v;dsimp only at h hM;unfold EO at h;unfold EP at hM;obtain⟨m0,m1,m2⟩:=hM;unfold XB;by_cases e2:0<t_1
 ·rw [if_pos e2]at h;obtain⟨JQ,hl3,h⟩:=BA h;try dsimp only at h
  have c3:=Nk AC AY AJ class_ hl3
  obtain rfl:=Option.some.inj h
  simp (maxDischargeDepth:=9) only [↓AP,AR,Ai,↓reduceIte,bj,bk,bl,bm,bo,bp,br,bt,bw,bx,bO,b0,b3,b4,b5,b6,b7,m0,m1,m2,e2,c3,EP,FP,Cm,Cn,Co]<;>(repeat' apply A7)<;>first|rfl|exact⟨_,rfl⟩|exact⟨_,_,rfl⟩|simp [AQ,A8]
 ·rw [if_neg e2]at h
  obtain rfl:=Option.some.inj h
  simp (maxDischargeDepth:=9) only [↓AP,AR,Ai,↓reduceIte,bj,bk,bl,bm,bo,bp,br,bt,bw,bx,bO,b0,b3,b4,b5,b6,b7,m0,m1,m2,e2,EP,FP,Cm,Cn,Co]<;>(repeat' apply A7)<;>first|rfl|exact⟨_,rfl⟩|exact⟨_,_,rfl⟩|simp [AQ,A8]
theorem Pz(AC:Ar)(AY:AL)(AJ:AL)(t_:Int){r:AL}(h:JX AC AY AJ t_=some r):Y.call 64 [ce [bh 123 (AQ (fun x=>bh 125 (Aw .i64 .i64 x)) AC),bh 3 (AQ (bd .i64) AY),bh 3 (AQ (bd .i64) AJ)],bd .i64 t_] []=some (cd 3 (AQ (bd .i64) r),[]):=by
 refine c64 ?_ rfl;unfold k64;unfold JX at h;obtain⟨l8,hl1,h⟩:=BA h;try dsimp only at h
 have c1:=Nk AC AY AJ [] hl1;simp only [JM,o8,L9,WQ,UD,PR,UE]at c1;obtain⟨AZ,hl3,h⟩:=BA h;try dsimp only at h
 simp (maxDischargeDepth:=9) only [↓AP,AR,Ai,↓reduceIte,bj,bk,bl,bm,bo,bp,br,bt,bw,bx,bO,b0,b3,b4,b5,b6,b7,c1];refine BM (PG AC AY AJ hl3 ?_) ?_
 ·simp (maxDischargeDepth:=9) only [↓AP,AR,Ai,↓reduceIte,bj,bk,bl,bm,bo,bp,br,bt,bw,bx,bO,b0,b3,b4,b5,b6,b7,c1,EP]<;>(repeat' apply A7)<;>first|rfl|exact⟨_,rfl⟩|exact⟨_,_,rfl⟩|simp [AQ,A8]
 ·intro ex3 s3 hX3;unfold FP at hX3;obtain⟨rfl,n3_0⟩:=hX3
  obtain rfl:=Option.some.inj h
  simp (maxDischargeDepth:=9) only [↓AP,AR,Ai,↓reduceIte,bj,bk,bl,bm,bo,bp,br,bt,bw,bx,bO,b0,b3,b4,b5,b6,b7,c1,n3_0]<;>(repeat' apply A7)<;>first|rfl|exact⟨_,rfl⟩|exact⟨_,_,rfl⟩|simp [AQ,A8]
def Bf(x_:AL)(m_:Int)(i:Int):Option ((Int×Int)⊕(Int)):= if i<(x_.length:Int)then ck (0≤i∧i.toNat<x_.length)<| some (cb ((RP m_ (x_.getD i.toNat be)),ca.wrap (i+1))) else some (b8 m_)
def Ch(x_:AL)(v:Int×Int):Option (Int):=Io (fun v=>Bf x_ v.1 v.2) v
def Ec(x_:AL):Option (Int):= if(x_.length:Int)<1 then none else ck (0<x_.length)<| (Ch x_ ((x_.getD 0 be),1)).bind fun AZ=> some AZ
def U1:SC:= .seq (.seq (.ops [oM 12 4 3,oM 13 0 26,oN 14 13 26,oB 15 .lss 3 (tK 12) (tK 14) 3 4]) (.cond (tK 15) .skip (.exit 0))) (.seq (.block 1 (.ops [oM 18 3 3,oM 19 0 26,oM 20 4 3,oI 21 26 19 20,oL 22 3 21 3,oX 23 (.call ⟨(.builtin .max), #[(tK 18),(tK 22)], #[3,3]⟩) 3,oA 3 23 3])) (.ops [oM 16 4 3,oB 17 .add 3 (tK 16) (iK 1) 3 3,oA 4 17 3]))
def dL:SC:= .loop U1
def A1H:SC:= .seq (.ops [oX 2 (.assign (iK 0)) 3]) (.seq (.seq (.ops [oM 5 0 26,oN 6 5 26,oB 7 .lss 3 (tK 6) (iK 1) 3 4]) (.cond (tK 7) (.ops [oX 8 (.makeInterface 9 (.const (.string {data:= #[115,108,105,99,101,115,46,77,97,120,58,32,101,109,112,116,121,32,108,105,115,116]}))) 20,⟨none,(.panic (tK 8)),0,none⟩]) .skip)) (.seq (.ops [oM 9 0 26,oX 10 (.indexAddr 26 (tK 9) (iK 0)) 0,oL 11 3 10 3,oA 3 11 3]) (.seq (.seq (.ops [oX 4 (.assign (iK 1)) 3]) (.block 0 dL)) (.seq (.ops [oM 24 3 3,oA 2 24 3]) .ret))))
theorem pu:Try.f157.body.map (Bi lends)=some A1H:=by kernel_rfl
theorem A88:CL Try.f157 1=true:=by kernel_rfl
theorem ADW{a l:List D}{r:D×List D}(h:CK Y.env A1H (Fx Ac l.length [cc 2] r) (entry a l))(ha:a.length=1):Y.call 157 a l=some r:=
 Ab (Y:=Y) rfl Try.func157 (ha▸A88) pu h
def Bg(x_:AL)(m_:Int)(i:Int)(s:St):Prop:=s.v 0=bh 3 (AQ (bd .i64) x_)∧s.v 3=bd .i64 m_∧s.v 4=bd .i64 i
def CR(x_:AL)(r:Int)(ex:Ex)(s:St):Prop:=ex= .exit 0∧s.v 3=bd .i64 r
theorem Jq(x_:AL){v:Int×Int}{s:St}{r:Int}(h:Ch x_ v=some r)(hM:Bg x_ v.1 v.2 s):CK Y.env dL (CR x_ r) s:=by
 unfold Ch at h;refine Bc (c:=U1) (fun v=>Bf x_ v.1 v.2) (fun v s=>Bg x_ v.1 v.2 s) (CR x_) ?_ h hM;clear h hM s v r;intro v s o hM h;obtain⟨m_,i⟩:=v;dsimp only at h hM;unfold Bf at h;unfold Bg at hM;obtain⟨m0,m1,m2⟩:=hM;unfold U1;by_cases e3:i<(x_.length:Int)
 ·rw [if_pos e3]at h;obtain⟨e4,h⟩:=Bw h
  obtain rfl:=Option.some.inj h
  simp (maxDischargeDepth:=9) only [↓AP,AR,Ai,↓reduceIte,bj,bk,bl,bm,bo,bp,br,bt,bw,bx,bO,b0,b3,b4,b5,b6,b7,m0,m1,m2,e3,e4.1,e4.2,Bg,CR,Cm,Cn,Co]<;>(repeat' apply A7)<;>first|rfl|exact⟨_,rfl⟩|exact⟨_,_,rfl⟩|simp [AQ,A8]
 ·rw [if_neg e3]at h
  obtain rfl:=Option.some.inj h
  simp (maxDischargeDepth:=9) only [↓AP,AR,Ai,↓reduceIte,bj,bk,bl,bm,bo,bp,br,bt,bw,bx,bO,b0,b3,b4,b5,b6,b7,m0,m1,m2,e3,Bg,CR,Cm,Cn,Co]<;>(repeat' apply A7)<;>first|rfl|exact⟨_,rfl⟩|exact⟨_,_,rfl⟩|simp [AQ,A8]
theorem KF(x_:AL){r:Int}(h:Ec x_=some r):Y.call 157 [bh 3 (AQ (bd .i64) x_)] []=some (bd .i64 r,[]):=by
 refine ADW ?_ rfl;unfold A1H;unfold Ec at h;by_cases e1:(x_.length:Int)<1
 ·rw [if_pos e1]at h;cases h
 ·rw [if_neg e1]at h;obtain⟨e2,h⟩:=Bw h;obtain⟨AZ,hl4,h⟩:=BA h;try dsimp only at h
  simp (maxDischargeDepth:=9) only [↓AP,AR,Ai,↓reduceIte,bj,bk,bl,bm,bo,bp,br,bt,bw,bx,bO,b0,b3,b4,b5,b6,b7,e1,e2];refine BM (Jq x_ hl4 ?_) ?_
  ·simp (maxDischargeDepth:=9) only [↓AP,AR,Ai,↓reduceIte,bj,bk,bl,bm,bo,bp,br,bt,bw,bx,bO,b0,b3,b4,b5,b6,b7,e1,e2,Bg]<;>(repeat' apply A7)<;>first|rfl|exact⟨_,rfl⟩|exact⟨_,_,rfl⟩|simp [AQ,A8]
  ·intro ex4 s4 hX4;unfold CR at hX4;obtain⟨rfl,n4_0⟩:=hX4
   obtain rfl:=Option.some.inj h
   simp (maxDischargeDepth:=9) only [↓AP,AR,Ai,↓reduceIte,bj,bk,bl,bm,bo,bp,br,bt,bw,bx,bO,b0,b3,b4,b5,b6,b7,e1,e2,n4_0]<;>(repeat' apply A7)<;>first|rfl|exact⟨_,rfl⟩|exact⟨_,_,rfl⟩|simp [AQ,A8]
def Ij(class_:AL):Option (Int):= (Ec class_).bind fun r4_=> some (ca.wrap (r4_+1))
def A1I:SC:= .seq (.ops [oX 2 (.assign (iK 0)) 3]) (.seq (.ops [oM 3 0 26,oC 4 157 [(tK 3)] [26] 3,oB 5 .add 3 (tK 4) (iK 1) 3 3,oA 2 5 3]) .ret)
theorem pz:Try.f122.body.map (Bi lends)=some A1I:=by kernel_rfl
theorem A89:CL Try.f122 1=true:=by kernel_rfl
theorem ADX{a l:List D}{r:D×List D}(h:CK Y.env A1I (Fx Ac l.length [cc 2] r) (entry a l))(ha:a.length=1):Y.call 122 a l=some r:=
 Ab (Y:=Y) rfl Try.func122 (ha▸A89) pz h
theorem PH(class_:AL){r:Int}(h:Ij class_=some r):Y.call 122 [bh 3 (AQ (bd .i64) class_)] []=some (bd .i64 r,[]):=by
 refine ADX ?_ rfl;unfold A1I;unfold Ij at h;obtain⟨r4_,hl1,h⟩:=BA h;try dsimp only at h
 have c1:=KF class_ hl1
 obtain rfl:=Option.some.inj h
 simp (maxDischargeDepth:=9) only [↓AP,AR,Ai,↓reduceIte,bj,bk,bl,bm,bo,bp,br,bt,bw,bx,bO,b0,b3,b4,b5,b6,b7,c1]<;>(repeat' apply A7)<;>first|rfl|exact⟨_,rfl⟩|exact⟨_,_,rfl⟩|simp [AQ,A8]
def PI(task:Int):Option (Bool):= some (IG task (1:Int) (3:Int))
def k68:SC:= .seq (.ops [oX 2 CJ 4]) (.seq (.ops [oM 3 0 3,oC 4 97 [(tK 3),(iK 1),(iK 3)] [3,3,3] 4,oA 2 4 4]) .ret)
theorem A1J:Try.f68.body.map (Bi lends)=some k68:=by kernel_rfl
theorem ADZ:CL Try.f68 1=true:=by kernel_rfl
theorem c68{a l:List D}{r:D×List D}(h:CK Y.env k68 (Fx Ac l.length [cc 2] r) (entry a l))(ha:a.length=1):Y.call 68 a l=some r:=
 Ab (Y:=Y) rfl Try.func68 (ha▸ADZ) A1J h
theorem Uq(task:Int){r:Bool}(h:PI task=some r):Y.call 68 [bd .i64 task] []=some (b9 r,[]):=by
 refine c68 ?_ rfl;unfold k68;unfold PI at h;have c1:=Gu task (1:Int) (3:Int)
 obtain rfl:=Option.some.inj h
 simp (maxDischargeDepth:=9) only [↓AP,AR,Ai,↓reduceIte,bj,bk,bl,bm,bo,bp,br,bt,bw,bx,bO,b0,b3,b4,b5,b6,b7,c1]<;>(repeat' apply A7)<;>first|rfl|exact⟨_,rfl⟩|exact⟨_,_,rfl⟩|simp [AQ,A8]
def NN(t_:Int):Option (Bool):= some (IG t_ (0:Int) (80:Int))
def k69:SC:= .seq (.ops [oX 2 CJ 4]) (.seq (.ops [oM 3 0 3,oC 4 97 [(tK 3),(iK 0),(iK 80)] [3,3,3] 4,oA 2 4 4]) .ret)
theorem A1K:Try.f69.body.map (Bi lends)=some k69:=by kernel_rfl
theorem ADb:CL Try.f69 1=true:=by kernel_rfl
theorem c69{a l:List D}{r:D×List D}(h:CK Y.env k69 (Fx Ac l.length [cc 2] r) (entry a l))(ha:a.length=1):Y.call 69 a l=some r:=
 Ab (Y:=Y) rfl Try.func69 (ha▸ADb) A1K h
theorem U2(t_:Int){r:Bool}(h:NN t_=some r):Y.call 69 [bd .i64 t_] []=some (b9 r,[]):=by
 refine c69 ?_ rfl;unfold k69;unfold NN at h;have c1:=Gu t_ (0:Int) (80:Int)
 obtain rfl:=Option.some.inj h
 simp (maxDischargeDepth:=9) only [↓AP,AR,Ai,↓reduceIte,bj,bk,bl,bm,bo,bp,br,bt,bw,bx,bO,b0,b3,b4,b5,b6,b7,c1]<;>(repeat' apply A7)<;>first|rfl|exact⟨_,rfl⟩|exact⟨_,_,rfl⟩|simp [AQ,A8]
def BX(s_:AL)(v_:Int)(Gf:Int):Option ((Int)⊕(Int⊕Unit)):= if Gf<(s_.length:Int)then ck (0≤Gf∧Gf.toNat<s_.length)<| if v_=(s_.getD Gf.toNat be)then some (b8 (cb Gf)) else some (cb (ca.wrap (Gf+1))) else some (b8 (b8 ()))
def CS(s_:AL)(v_:Int)(v:Int):Option (Int⊕Unit):=Io (fun v=>BX s_ v_ v) v
def D5(s_:AL)(v_:Int):Option (Int):=
 (CS s_ v_ 0).bind fun AZ=>
 match AZ with
 | .inl q1000_=>
  some q1000_
 | .inr q1000_=>
  some (-1)
def U3:SC:= .seq (.ops [oB 9 .lss 3 (tK 8) (tK 7) 3 0]) (.seq (.cond (tK 9) .skip (.exit 0)) (.seq (.block 1 (.seq (.ops [oM 10 8 3,oA 5 10 3]) (.seq (.ops [oM 11 1 3,oM 12 0 26,oM 13 5 3,oI 14 26 12 13,oL 15 3 14 3,oB 16 .eql 3 (tK 11) (tK 15) 3 4]) (.cond (tK 16) (.seq (.ops [oM 17 5 3,oA 4 17 3]) .ret) .skip)))) (.ops [oB 18 .add 3 (tK 8) (iK 1) 3 3,oM 8 18 3])))
def dM:SC:= .loop U3
def A1L:SC:= .seq (.ops [oX 4 (.assign (iK 0)) 3]) (.seq (.seq (.ops [oM 6 0 26,oN 7 6 26,oX 8 (.move (iK 0)) 3]) (.block 0 dM)) (.seq (.ops [oX 4 O4 3]) .ret))
theorem qA:Try.f123.body.map (Bi lends)=some A1L:=by kernel_rfl
theorem A8A:CL Try.f123 2=true:=by kernel_rfl
theorem ADc{a l:List D}{r:D×List D}(h:CK Y.env A1L (Fx Ac l.length [cc 4] r) (entry a l))(ha:a.length=2):Y.call 123 a l=some r:=
 Ab (Y:=Y) rfl Try.func123 (ha▸A8A) qA h
def BN(s_:AL)(v_:Int)(Gf:Int)(s:St):Prop:=s.v 0=bh 3 (AQ (bd .i64) s_)∧s.v 1=bd .i64 v_∧s.v 7=bd .i64 (s_.length:Int)∧s.v 8=bd .i64 Gf
def BO(s_:AL)(v_:Int)(r:Int⊕Unit)(ex:Ex)(s:St):Prop:=match r with
 | .inl q=>ex= .ret∧s.v 4=bd .i64 q
 | .inr q=>ex= .exit 0
theorem JY(s_:AL)(v_:Int){v:Int}{s:St}{r:Int⊕Unit}(h:CS s_ v_ v=some r)(hM:BN s_ v_ v s):CK Y.env dM (BO s_ v_ r) s:=by
 unfold CS at h;refine Bc (c:=U3) (fun v=>BX s_ v_ v) (fun v s=>BN s_ v_ v s) (BO s_ v_) ?_ h hM;clear h hM s v r;intro Gf s o hM h;unfold BX at h;unfold BN at hM;obtain⟨m0,m1,m2,m3⟩:=hM;unfold U3;by_cases e1:Gf<(s_.length:Int)
 ·rw [if_pos e1]at h;obtain⟨e2,h⟩:=Bw h;by_cases e3:v_=(s_.getD Gf.toNat be)
  ·rw [if_pos e3]at h
   obtain rfl:=Option.some.inj h
   simp (maxDischargeDepth:=9) only [↓AP,AR,Ai,↓reduceIte,bj,bk,bl,bm,bo,bp,br,bt,bw,bx,bO,b0,b3,b4,b5,b6,b7,m0,m1,m2,m3,e1,e2.1,e2.2,decide_eq_true e3,BN,BO,Cm,Cn,Co]<;>(repeat' apply A7)<;>first|rfl|exact⟨_,rfl⟩|exact⟨_,_,rfl⟩|simp [AQ,A8]
  ·rw [if_neg e3]at h
   obtain rfl:=Option.some.inj h
   simp (maxDischargeDepth:=9) only [↓AP,AR,Ai,↓reduceIte,bj,bk,bl,bm,bo,bp,br,bt,bw,bx,bO,b0,b3,b4,b5,b6,b7,m0,m1,m2,m3,e1,e2.1,e2.2,e3,BN,BO,Cm,Cn,Co]<;>(repeat' apply A7)<;>first|rfl|exact⟨_,rfl⟩|exact⟨_,_,rfl⟩|simp [AQ,A8]
 ·rw [if_neg e1]at h
  obtain rfl:=Option.some.inj h
  simp (maxDischargeDepth:=9) only [↓AP,AR,Ai,↓reduceIte,bj,bk,bl,bm,bo,bp,br,bt,bw,bx,bO,b0,b3,b4,b5,b6,b7,m0,m1,m2,m3,e1,BN,BO,Cm,Cn,Co]<;>(repeat' apply A7)<;>first|rfl|exact⟨_,rfl⟩|exact⟨_,_,rfl⟩|simp [AQ,A8]
theorem Jf(s_:AL)(v_:Int){r:Int}(h:D5 s_ v_=some r):Y.call 123 [bh 3 (AQ (bd .i64) s_),bd .i64 v_] []=some (bd .i64 r,[]):=by
 refine ADc ?_ rfl;unfold A1L;unfold D5 at h;obtain⟨AZ,hl2,h⟩:=BA h;try dsimp only at h
 simp (maxDischargeDepth:=9) only [↓AP,AR,Ai,↓reduceIte,bj,bk,bl,bm,bo,bp,br,bt,bw,bx,bO,b0,b3,b4,b5,b6,b7];refine BM (JY s_ v_ hl2 ?_) ?_
 ·simp (maxDischargeDepth:=9) only [↓AP,AR,Ai,↓reduceIte,bj,bk,bl,bm,bo,bp,br,bt,bw,bx,bO,b0,b3,b4,b5,b6,b7,BN]<;>(repeat' apply A7)<;>first|rfl|exact⟨_,rfl⟩|exact⟨_,_,rfl⟩|simp [AQ,A8]
 ·intro ex2 s2 hX2;rcases AZ with q1000_|q1000_
  ·unfold BO at hX2;dsimp only at hX2 h;obtain⟨rfl,n2_0⟩:=hX2
   obtain rfl:=Option.some.inj h
   simp (maxDischargeDepth:=9) only [↓AP,AR,Ai,↓reduceIte,bj,bk,bl,bm,bo,bp,br,bt,bw,bx,bO,b0,b3,b4,b5,b6,b7,n2_0]<;>(repeat' apply A7)<;>first|rfl|exact⟨_,rfl⟩|exact⟨_,_,rfl⟩|simp [AQ,A8]
  ·unfold BO at hX2;dsimp only at hX2 h
   obtain rfl:=hX2
   obtain rfl:=Option.some.inj h
   simp (maxDischargeDepth:=9) only [↓AP,AR,Ai,↓reduceIte,bj,bk,bl,bm,bo,bp,br,bt,bw,bx,bO,b0,b3,b4,b5,b6,b7]<;>(repeat' apply A7)<;>first|rfl|exact⟨_,rfl⟩|exact⟨_,_,rfl⟩|simp [AQ,A8]
def RA(b:Bool):Option (Int):= if b=true then some 1 else some 0
def A1M:SC:= .seq (.ops [oX 2 (.assign (iK 0)) 3]) (.seq (.seq (.ops [oM 3 0 4]) (.cond (tK 3) (.seq (.ops [oX 2 (.assign (iK 1)) 3]) .ret) .skip)) (.seq (.ops [oX 2 (.assign (iK 0)) 3]) .ret))
theorem qB:Try.f124.body.map (Bi lends)=some A1M:=by kernel_rfl
theorem A8B:CL Try.f124 1=true:=by kernel_rfl
theorem ADd{a l:List D}{r:D×List D}(h:CK Y.env A1M (Fx Ac l.length [cc 2] r) (entry a l))(ha:a.length=1):Y.call 124 a l=some r:=
 Ab (Y:=Y) rfl Try.func124 (ha▸A8B) qB h
theorem XC(b:Bool){r:Int}(h:RA b=some r):Y.call 124 [b9 b] []=some (bd .i64 r,[]):=by
 refine ADd ?_ rfl;unfold A1M;unfold RA at h;by_cases e1:b=true
 ·rw [if_pos e1]at h
  obtain rfl:=Option.some.inj h
  simp (maxDischargeDepth:=9) only [↓AP,AR,Ai,↓reduceIte,bj,bk,bl,bm,bo,bp,br,bt,bw,bx,bO,b0,b3,b4,b5,b6,b7,e1]<;>(repeat' apply A7)<;>first|rfl|exact⟨_,rfl⟩|exact⟨_,_,rfl⟩|simp [AQ,A8]
 ·rw [if_neg e1]at h;have e1f:b=false:=JF.mpr e1
  obtain rfl:=Option.some.inj h
  simp (maxDischargeDepth:=9) only [↓AP,AR,Ai,↓reduceIte,bj,bk,bl,bm,bo,bp,br,bt,bw,bx,bO,b0,b3,b4,b5,b6,b7,e1f]<;>(repeat' apply A7)<;>first|rfl|exact⟨_,rfl⟩|exact⟨_,_,rfl⟩|simp [AQ,A8]
def Dw(class_:AL)(counts:AL)(KL:Int):Option ((AL×Int)⊕(AL)):= if KL<(class_.length:Int)then ck (0≤KL∧KL.toNat<class_.length)<| ck (0≤(class_.getD KL.toNat be)∧(class_.getD KL.toNat be).toNat<counts.length)<| some (cb ((counts.set ((class_.getD KL.toNat be).toNat) (ca.wrap ((counts.getD ((class_.getD KL.toNat be).toNat) be)+1))),ca.wrap (KL+1))) else some (b8 counts)
def G5(class_:AL)(v:AL×Int):Option (AL):=Io (fun v=>Dw class_ v.1 v.2) v
def Dx(class_:AL)(KE:Int)(out:AL)(Ur:Int):Option ((AL×Int)⊕(AL)):= if Ur<(class_.length:Int)then ck (0≤Ur∧Ur.toNat<class_.length)<| (RA (decide ((class_.getD Ur.toNat be)=KE))).bind fun A8C=> ck (out.length+1<1099511627776)<| some (cb ((out++[A8C]),ca.wrap (Ur+1))) else some (b8 out)
def G6(class_:AL)(KE:Int)(v:AL×Int):Option (AL):=Io (fun v=>Dx class_ KE v.1 v.2) v
def Fp(task:Int)(class_:AL):Option (AL):= if task=1 then (Ij class_).bind fun qC=> ck (0≤qC∧qC<1099511627776)<| (G5 class_ ((ao qC.toNat 0),0)).bind fun AZ=> (D5 AZ (1:Int)).bind fun KE=> (G6 class_ KE ([],0)).bind fun CW=> some CW else ck (class_.length<1099511627776)<| some class_
def XD:SC:= .seq (.ops [oB 22 .lss 3 (tK 21) (tK 20) 3 0]) (.seq (.cond (tK 22) .skip (.exit 0)) (.seq (.block 1 (.seq (.ops [oI 23 26 19 21,oL 24 3 23 3,oA 7 24 3]) (.ops [oM 25 5 26,oM 26 7 3,oI 27 26 25 26,oL 28 3 27 3,oB 29 .add 3 (tK 28) (iK 1) 3 3,oI 30 26 25 26,oS 3 30 29]))) (.ops [oB 31 .add 3 (tK 21) (iK 1) 3 3,oM 21 31 3])))
def ll:SC:= .loop XD
def XE:SC:= .seq (.ops [oB 37 .lss 3 (tK 36) (tK 35) 3 0]) (.seq (.cond (tK 37) .skip (.exit 2)) (.seq (.block 3 (.seq (.ops [oI 38 26 34 36,oL 39 3 38 3,oA 11 39 3]) (.ops [oM 40 9 26,oM 41 11 3,oM 42 8 3,oB 43 .eql 3 (tK 41) (tK 42) 3 4,oC 44 124 [(tK 43)] [4] 3,oX 45 (.buildSlice 26 1 #[(0,(tK 44))]) 26,oX 46 (.call ⟨(.builtin .append), #[(tK 40),(tK 45)], #[26,26]⟩) 26,oA 9 46 26]))) (.ops [oB 47 .add 3 (tK 36) (iK 1) 3 3,oM 36 47 3])))
def lm:SC:= .loop XE
def k71:SC:= .seq (.ops [oX 4 O3 26]) (.seq (.seq (.ops [oM 12 0 3,oB 13 .neq 3 (tK 12) (iK 1) 3 4]) (.cond (tK 13) (.seq (.ops [oM 14 1 26,oC 15 121 [(tK 14)] [26] 26,oA 4 15 26]) .ret) .skip)) (.seq (.ops [oM 16 1 26,oC 17 122 [(tK 16)] [26] 3,oX 18 (.makeSlice 26 (tK 17) (tK 17)) 26,oA 5 18 26]) (.seq (.seq (.ops [oM 19 1 26,oN 20 19 26,oX 21 (.move (iK 0)) 3]) (.block 0 ll)) (.seq (.ops [oM 32 5 26,oC 33 123 [(tK 32),(iK 1)] [26,3] 3,oA 8 33 3]) (.seq (.ops [oX 9 O3 26]) (.seq (.seq (.ops [oM 34 1 26,oN 35 34 26,oX 36 (.move (iK 0)) 3]) (.block 2 lm)) (.seq (.ops [oM 48 9 26,oA 4 48 26]) .ret)))))))
theorem A1N:Try.f71.body.map (Bi lends)=some k71:=by kernel_rfl
theorem ADf:CL Try.f71 2=true:=by kernel_rfl
theorem c71{a l:List D}{r:D×List D}(h:CK Y.env k71 (Fx Ac l.length [cc 4] r) (entry a l))(ha:a.length=2):Y.call 71 a l=some r:=
 Ab (Y:=Y) rfl Try.func71 (ha▸ADf) A1N h
def Dy(class_:AL)(counts:AL)(KL:Int)(s:St):Prop:=s.v 1=bh 3 (AQ (bd .i64) class_)∧s.v 5=cd 3 (AQ (bd .i64) counts)∧s.v 19=bh 3 (AQ (bd .i64) class_)∧s.v 20=bd .i64 (class_.length:Int)∧s.v 21=bd .i64 KL
def En(class_:AL)(r:AL)(ex:Ex)(s:St):Prop:=ex= .exit 0∧s.v 1=bh 3 (AQ (bd .i64) class_)∧s.v 5=cd 3 (AQ (bd .i64) r)
theorem OA(class_:AL){v:AL×Int}{s:St}{r:AL}(h:G5 class_ v=some r)(hM:Dy class_ v.1 v.2 s):CK Y.env ll (En class_ r) s:=by
 unfold G5 at h;refine Bc (c:=XD) (fun v=>Dw class_ v.1 v.2) (fun v s=>Dy class_ v.1 v.2 s) (En class_) ?_ h hM;clear h hM s v r;intro v s o hM h;obtain⟨counts,KL⟩:=v;dsimp only at h hM;unfold Dw at h;unfold Dy at hM;obtain⟨m0,m1,m2,m3,m4⟩:=hM;unfold XD;by_cases e4:KL<(class_.length:Int)
 ·rw [if_pos e4]at h;obtain⟨e5,h⟩:=Bw h;obtain⟨e6,h⟩:=Bw h
  obtain rfl:=Option.some.inj h
  simp (maxDischargeDepth:=9) only [↓AP,AR,Ai,↓reduceIte,bj,bk,bl,bm,bo,bp,br,bt,bw,bx,bO,b0,b3,b4,b5,b6,b7,m0,m1,m2,m3,m4,e4,e5.1,e5.2,e6.1,e6.2,Dy,En,Cm,Cn,Co]<;>(repeat' apply A7)<;>first|rfl|exact⟨_,rfl⟩|exact⟨_,_,rfl⟩|simp [AQ,A8]
 ·rw [if_neg e4]at h
  obtain rfl:=Option.some.inj h
  simp (maxDischargeDepth:=9) only [↓AP,AR,Ai,↓reduceIte,bj,bk,bl,bm,bo,bp,br,bt,bw,bx,bO,b0,b3,b4,b5,b6,b7,m0,m1,m2,m3,m4,e4,Dy,En,Cm,Cn,Co]<;>(repeat' apply A7)<;>first|rfl|exact⟨_,rfl⟩|exact⟨_,_,rfl⟩|simp [AQ,A8]
def Dz(class_:AL)(KE:Int)(out:AL)(Ur:Int)(s:St):Prop:=s.v 8=bd .i64 KE∧s.v 9=cd 3 (AQ (bd .i64) out)∧s.v 34=bh 3 (AQ (bd .i64) class_)∧s.v 35=bd .i64 (class_.length:Int)∧s.v 36=bd .i64 Ur
def Eo(class_:AL)(KE:Int)(r:AL)(ex:Ex)(s:St):Prop:=ex= .exit 2∧s.v 9=cd 3 (AQ (bd .i64) r)
theorem OB(class_:AL)(KE:Int){v:AL×Int}{s:St}{r:AL}(h:G6 class_ KE v=some r)(hM:Dz class_ KE v.1 v.2 s):CK Y.env lm (Eo class_ KE r) s:=by
 unfold G6 at h;refine Bc (c:=XE) (fun v=>Dx class_ KE v.1 v.2) (fun v s=>Dz class_ KE v.1 v.2 s) (Eo class_ KE) ?_ h hM;clear h hM s v r;intro v s o hM h;obtain⟨out,Ur⟩:=v;dsimp only at h hM;unfold Dx at h;unfold Dz at hM;obtain⟨m0,m1,m2,m3,m4⟩:=hM;unfold XE;by_cases e7:Ur<(class_.length:Int)
 ·rw [if_pos e7]at h;obtain⟨e8,h⟩:=Bw h;obtain⟨A8C,hl9,h⟩:=BA h;try dsimp only at h
  have c9:=XC (decide ((class_.getD Ur.toNat be)=KE)) hl9;obtain⟨e10,h⟩:=Bw h
  obtain rfl:=Option.some.inj h
  simp (maxDischargeDepth:=9) only [↓AP,AR,Ai,↓reduceIte,bj,bk,bl,bm,bo,bp,br,bt,bw,bx,bO,b0,b3,b4,b5,b6,b7,m0,m1,m2,m3,m4,e7,e8.1,e8.2,c9,e10,Dz,Eo,Cm,Cn,Co]<;>(repeat' apply A7)<;>first|rfl|exact⟨_,rfl⟩|exact⟨_,_,rfl⟩|simp [AQ,A8]
 ·rw [if_neg e7]at h
  obtain rfl:=Option.some.inj h
  simp (maxDischargeDepth:=9) only [↓AP,AR,Ai,↓reduceIte,bj,bk,bl,bm,bo,bp,br,bt,bw,bx,bO,b0,b3,b4,b5,b6,b7,m0,m1,m2,m3,m4,e7,Dz,Eo,Cm,Cn,Co]<;>(repeat' apply A7)<;>first|rfl|exact⟨_,rfl⟩|exact⟨_,_,rfl⟩|simp [AQ,A8]
theorem PK(task:Int)(class_:AL){r:AL}(h:Fp task class_=some r):Y.call 71 [bd .i64 task,bh 3 (AQ (bd .i64) class_)] []=some (cd 3 (AQ (bd .i64) r),[]):=by
 refine c71 ?_ rfl;unfold k71;unfold Fp at h;by_cases e1:task=1
 ·rw [if_pos e1]at h;obtain⟨qC,hl2,h⟩:=BA h;try dsimp only at h
  have c2:=PH class_ hl2;obtain⟨e3,h⟩:=Bw h;obtain⟨AZ,hl5,h⟩:=BA h;try dsimp only at h
  simp (maxDischargeDepth:=9) only [↓AP,AR,Ai,↓reduceIte,bj,bk,bl,bm,bo,bp,br,bt,bw,bx,bO,b0,b3,b4,b5,b6,b7,decide_eq_true e1,c2,e3.1,e3.2];refine BM (OA class_ hl5 ?_) ?_
  ·simp (maxDischargeDepth:=9) only [↓AP,AR,Ai,↓reduceIte,bj,bk,bl,bm,bo,bp,br,bt,bw,bx,bO,b0,b3,b4,b5,b6,b7,decide_eq_true e1,c2,e3.1,e3.2,Dy]<;>(repeat' apply A7)<;>first|rfl|exact⟨_,rfl⟩|exact⟨_,_,rfl⟩|simp [AQ,A8]
  ·intro ex5 s5 hX5;unfold En at hX5;obtain⟨rfl,n5_0,n5_1⟩:=hX5;obtain⟨KE,hl6,h⟩:=BA h;try dsimp only at h
   have c6:=Jf AZ (1:Int) hl6;obtain⟨CW,hl8,h⟩:=BA h;try dsimp only at h
   simp (maxDischargeDepth:=9) only [↓AP,AR,Ai,↓reduceIte,bj,bk,bl,bm,bo,bp,br,bt,bw,bx,bO,b0,b3,b4,b5,b6,b7,decide_eq_true e1,c2,e3.1,e3.2,n5_0,n5_1,c6];refine BM (OB class_ KE hl8 ?_) ?_
   ·simp (maxDischargeDepth:=9) only [↓AP,AR,Ai,↓reduceIte,bj,bk,bl,bm,bo,bp,br,bt,bw,bx,bO,b0,b3,b4,b5,b6,b7,decide_eq_true e1,c2,e3.1,e3.2,n5_0,n5_1,c6,Dz]<;>(repeat' apply A7)<;>first|rfl|exact⟨_,rfl⟩|exact⟨_,_,rfl⟩|simp [AQ,A8]
   ·intro ex8 s8 hX8;unfold Eo at hX8;obtain⟨rfl,n8_0⟩:=hX8
    obtain rfl:=Option.some.inj h
    simp (maxDischargeDepth:=9) only [↓AP,AR,Ai,↓reduceIte,bj,bk,bl,bm,bo,bp,br,bt,bw,bx,bO,b0,b3,b4,b5,b6,b7,decide_eq_true e1,c2,e3.1,e3.2,c6,n8_0]<;>(repeat' apply A7)<;>first|rfl|exact⟨_,rfl⟩|exact⟨_,_,rfl⟩|simp [AQ,A8]
 ·rw [if_neg e1]at h;obtain⟨e2,h⟩:=Bw h;have c3:=Gw class_ e2
  obtain rfl:=Option.some.inj h
  simp (maxDischargeDepth:=9) only [↓AP,AR,Ai,↓reduceIte,bj,bk,bl,bm,bo,bp,br,bt,bw,bx,bO,b0,b3,b4,b5,b6,b7,e1,e2,c3]<;>(repeat' apply A7)<;>first|rfl|exact⟨_,rfl⟩|exact⟨_,_,rfl⟩|simp [AQ,A8]
def JZ(AC:Ar)(AY:AL)(AJ:AL)(task:Int)(depth:Int):Option (Bool×Bool):= ck (DC AC)<| ck (AY.length<1099511627776)<| ck (AJ.length<1099511627776)<| if(I5 AC AY AJ)=true then (PI task).bind fun Qq=> if Qq=true then (NN depth).bind fun II=> if II=true then (JU AC AY AJ depth).bind fun gp=> (Fp task gp).bind fun Yo=> (NM AC AY AJ task Yo).bind fun A8D=> some (A8D,true) else some (false,false) else some (false,false) else some (false,false)
abbrev Us:List Nat:=[21,22,23,24,25,26,27,28,6,28,28,7]
def k24:SC:= .seq (.ops [oX 3 (.box 47 (tK 0)) 0,oX 6 CJ 4,oX 7 CJ 4]) (.seq (.seq (.ops [oL 8 47 3 47,oC 9 67 [(tK 8)] [47] 4,oX 10 (.unOp .not 4 (tK 9)) 4,oM 11 10 4,⟨(some 12),(.move (tK 1)),3,(some (some 11,false))⟩,⟨(some 13),(.call ⟨(.value (.func 68)), #[(tK 12)], #[3]⟩),4,(some (some 11,false))⟩,⟨(some 14),(.unOp .not 4 (tK 13)),4,(some (some 11,false))⟩,oX 15 (.pick (tK 11) FR (tK 14)) 4,oM 16 15 4,⟨(some 17),(.move (tK 2)),3,(some (some 16,false))⟩,⟨(some 18),(.call ⟨(.value (.func 69)), #[(tK 17)], #[3]⟩),4,(some (some 16,false))⟩,⟨(some 19),(.unOp .not 4 (tK 18)),4,(some (some 16,false))⟩,oX 20 (.pick (tK 16) FR (tK 19)) 4]) (.cond (tK 20) (.seq (.ops [oX 6 CJ 4,oX 7 CJ 4]) .ret) .skip)) (.seq (.draws [(⟨[21,3,3],Us,[21]⟩,oL 21 47 3 47),(⟨[22,1,1],Us,[22]⟩,oM 22 1 3),(⟨[23,1,1],Us,[23]⟩,oM 23 1 3),(⟨[24,3,3],Us,[24]⟩,oL 24 47 3 47),(⟨[25,2,2],Us,[25]⟩,oM 25 2 3),(⟨[26,24,25,3,2],Us,[26]⟩,oC 26 72 [(tK 24),(tK 25)] [47,3] 26),(⟨[27,23,26,1,26],Us,[27]⟩,oC 27 71 [(tK 23),(tK 26)] [3,26] 26),(⟨[28,21,22,27,3,1,27],Us,[28]⟩,oC 28 70 [(tK 21),(tK 22),(tK 27)] [47,3,26] 4),(⟨[6,28,28],Us,[6,28,28]⟩,oA 6 28 4),(⟨[7],Us,[7]⟩,oX 7 (.assign FR) 4)]) .ret))
theorem A1O:Try.f24.body.map (Bi lends)=some k24:=by kernel_rfl
theorem ADh:CL Try.f24 3=true:=by kernel_rfl
theorem c24{a l:List D}{r:D×List D}(h:CK Y.env k24 (Fx Ac l.length [cc 6,cc 7] r) (entry a l))(ha:a.length=3):Y.call 24 a l=some r:=
 Ab (Y:=Y) rfl Try.func24 (ha▸ADh) A1O h
theorem Q3(AC:Ar)(AY:AL)(AJ:AL)(task:Int)(depth:Int){r:Bool×Bool}(h:JZ AC AY AJ task depth=some r):Y.call 24 [ce [bh 123 (AQ (fun x=>bh 125 (Aw .i64 .i64 x)) AC),bh 3 (AQ (bd .i64) AY),bh 3 (AQ (bd .i64) AJ)],bd .i64 task,bd .i64 depth] []=some (D.tup [b9 r.1,b9 r.2],[]):=by
 refine c24 ?_ rfl;unfold k24;unfold JZ at h;obtain⟨e1,h⟩:=Bw h;obtain⟨e2,h⟩:=Bw h;obtain⟨e3,h⟩:=Bw h;have c4:=TV AC AY AJ e1 e2 e3;by_cases e5:(I5 AC AY AJ)=true
 ·rw [if_pos e5]at h;obtain⟨Qq,hl6,h⟩:=BA h;try dsimp only at h
  have c6:=Uq task hl6;by_cases e7:Qq=true
  ·rw [if_pos e7]at h;obtain⟨II,hl8,h⟩:=BA h;try dsimp only at h
   have c8:=U2 depth hl8;by_cases e9:II=true
   ·rw [if_pos e9]at h;obtain⟨gp,hl10,h⟩:=BA h;try dsimp only at h
    have WV:=Py AC AY AJ depth hl10;obtain⟨Yo,hl11,h⟩:=BA h;try dsimp only at h
    have c11:=PK task gp hl11;obtain⟨A8D,hl12,h⟩:=BA h;try dsimp only at h
    have Ye:=X3 AC AY AJ task Yo hl12
    obtain rfl:=Option.some.inj h
    simp (maxDischargeDepth:=9) only [↓AP,AR,Ai,↓reduceIte,bj,bk,bl,bm,bo,bp,br,bt,bw,bx,bO,b0,b3,b4,b5,b6,b7,e1,e2,e3,c4,e5,c6,e7,c8,e9,WV,c11,Ye]<;>(repeat' apply A7)<;>first|rfl|exact⟨_,rfl⟩|exact⟨_,_,rfl⟩|simp [AQ,A8]
   ·rw [if_neg e9]at h;have e9f:II=false:=JF.mpr e9
    obtain rfl:=Option.some.inj h
    simp (maxDischargeDepth:=9) only [↓AP,AR,Ai,↓reduceIte,bj,bk,bl,bm,bo,bp,br,bt,bw,bx,bO,b0,b3,b4,b5,b6,b7,e1,e2,e3,c4,e5,c6,e7,c8,e9f]<;>(repeat' apply A7)<;>first|rfl|exact⟨_,rfl⟩|exact⟨_,_,rfl⟩|simp [AQ,A8]
  ·rw [if_neg e7]at h;have e7f:Qq=false:=JF.mpr e7
   obtain rfl:=Option.some.inj h
   simp (maxDischargeDepth:=9) only [↓AP,AR,Ai,↓reduceIte,bj,bk,bl,bm,bo,bp,br,bt,bw,bx,bO,b0,b3,b4,b5,b6,b7,e1,e2,e3,c4,e5,c6,e7f]<;>(repeat' apply A7)<;>first|rfl|exact⟨_,rfl⟩|exact⟨_,_,rfl⟩|simp [AQ,A8]
 ·rw [if_neg e5]at h;have e5f:(I5 AC AY AJ)=false:=JF.mpr e5
  obtain rfl:=Option.some.inj h
  simp (maxDischargeDepth:=9) only [↓AP,AR,Ai,↓reduceIte,bj,bk,bl,bm,bo,bp,br,bt,bw,bx,bO,b0,b3,b4,b5,b6,b7,e1,e2,e3,c4,e5f]<;>(repeat' apply A7)<;>first|rfl|exact⟨_,rfl⟩|exact⟨_,_,rfl⟩|simp [AQ,A8]
def PL(task:Int):Option (Bool):= some (IG task (1:Int) (3:Int))
def k61:SC:= .seq (.ops [oX 2 CJ 4]) (.seq (.ops [oM 3 0 3,oC 4 92 [(tK 3),(iK 1),(iK 3)] [3,3,3] 4,oA 2 4 4]) .ret)
theorem A1P:Try.f61.body.map (Bi lends)=some k61:=by kernel_rfl
theorem ADj:CL Try.f61 1=true:=by kernel_rfl
theorem c61{a l:List D}{r:D×List D}(h:CK Y.env k61 (Fx Ac l.length [cc 2] r) (entry a l))(ha:a.length=1):Y.call 61 a l=some r:=
 Ab (Y:=Y) rfl Try.func61 (ha▸ADj) A1P h
theorem Ut(task:Int){r:Bool}(h:PL task=some r):Y.call 61 [bd .i64 task] []=some (b9 r,[]):=by
 refine c61 ?_ rfl;unfold k61;unfold PL at h;have c1:=J7 task (1:Int) (3:Int)
 obtain rfl:=Option.some.inj h
 simp (maxDischargeDepth:=9) only [↓AP,AR,Ai,↓reduceIte,bj,bk,bl,bm,bo,bp,br,bt,bw,bx,bO,b0,b3,b4,b5,b6,b7,c1]<;>(repeat' apply A7)<;>first|rfl|exact⟨_,rfl⟩|exact⟨_,_,rfl⟩|simp [AQ,A8]
def NP(t_:Int):Option (Bool):= some (IG t_ (0:Int) (80:Int))
def k62:SC:= .seq (.ops [oX 2 CJ 4]) (.seq (.ops [oM 3 0 3,oC 4 92 [(tK 3),(iK 0),(iK 80)] [3,3,3] 4,oA 2 4 4]) .ret)
theorem A1Q:Try.f62.body.map (Bi lends)=some k62:=by kernel_rfl
theorem ADl:CL Try.f62 1=true:=by kernel_rfl
theorem c62{a l:List D}{r:D×List D}(h:CK Y.env k62 (Fx Ac l.length [cc 2] r) (entry a l))(ha:a.length=1):Y.call 62 a l=some r:=
 Ab (Y:=Y) rfl Try.func62 (ha▸ADl) A1Q h
theorem U4(t_:Int){r:Bool}(h:NP t_=some r):Y.call 62 [bd .i64 t_] []=some (b9 r,[]):=by
 refine c62 ?_ rfl;unfold k62;unfold NP at h;have c1:=J7 t_ (0:Int) (80:Int)
 obtain rfl:=Option.some.inj h
 simp (maxDischargeDepth:=9) only [↓AP,AR,Ai,↓reduceIte,bj,bk,bl,bm,bo,bp,br,bt,bw,bx,bO,b0,b3,b4,b5,b6,b7,c1]<;>(repeat' apply A7)<;>first|rfl|exact⟨_,rfl⟩|exact⟨_,_,rfl⟩|simp [AQ,A8]
def Ga(l:AL)(out:Int)(Gf:Int):Option ((Int×Int)⊕(Int)):= if Gf<(l.length:Int)then ck (0≤Gf∧Gf.toNat<l.length)<| ck (0≤Gf)<| ck (Gf.toNat≤l.length)<| ck (((l.take Gf.toNat).drop 0).length<1099511627776)<| if(((l.take Gf.toNat).drop 0).contains (l.getD Gf.toNat be))=true then some (cb (out,ca.wrap (Gf+1))) else ck (0≤ca.wrap (Gf+1))<| ck ((ca.wrap (Gf+1)).toNat≤l.length)<| ck (((l.take l.length).drop ((ca.wrap (Gf+1)).toNat)).length<1099511627776)<| if(((l.take l.length).drop ((ca.wrap (Gf+1)).toNat)).contains (l.getD Gf.toNat be))=true then some (cb (out,ca.wrap (Gf+1))) else if out<0 then some (cb ((l.getD Gf.toNat be),ca.wrap (Gf+1))) else if(l.getD Gf.toNat be)<out then some (cb ((l.getD Gf.toNat be),ca.wrap (Gf+1))) else some (cb (out,ca.wrap (Gf+1))) else some (b8 out)
def Ja(l:AL)(v:Int×Int):Option (Int):=Io (fun v=>Ga l v.1 v.2) v
def NA(l:AL):Option (Int):= (Ja l ((-1),0)).bind fun AZ=> some AZ
def U5:SC:= .seq (.ops [oB 9 .lss 3 (tK 8) (tK 7) 3 0]) (.seq (.cond (tK 9) .skip (.exit 0)) (.seq (.block 1 (.seq (.ops [oM 10 8 3,oI 11 26 6 8,oL 12 3 11 3,oA 4 10 3,oA 5 12 3]) (.seq (.ops [oM 13 0 26,oM 14 4 3,oX 15 (.slice 26 (tK 13) none (some (tK 14)) none) 900001,oM 16 5 3,oC 17 89 [(tK 15),(tK 16)] [26,3] 4,oX 18 (.unOp .not 4 (tK 17)) 4,oM 19 18 4,⟨(some 20),(.move (tK 0)),26,(some (some 19,true))⟩,⟨(some 21),(.move (tK 4)),3,(some (some 19,true))⟩,⟨(some 22),(.binOp .add 3 (tK 21) (iK 1) 3),3,(some (some 19,true))⟩,⟨(some 23),(.slice 26 (tK 20) (some (tK 22)) none none),900001,(some (some 19,true))⟩,⟨(some 24),(.move (tK 5)),3,(some (some 19,true))⟩,⟨(some 25),(.call ⟨(.value (.func 89)), #[(tK 23),(tK 24)], #[26,3]⟩),4,(some (some 19,true))⟩,⟨(some 26),(.unOp .not 4 (tK 25)),4,(some (some 19,true))⟩,oX 27 (.pick (tK 19) (tK 26) O5) 4,oM 28 27 4,⟨(some 29),(.move (tK 3)),3,(some (some 28,true))⟩,⟨(some 30),(.binOp .lss 3 (tK 29) (iK 0) 3),4,(some (some 28,true))⟩,⟨(some 31),(.move (tK 30)),4,(some (some 28,true))⟩,⟨(some 32),(.move (tK 5)),3,(some (some 31,false))⟩,⟨(some 33),(.move (tK 3)),3,(some (some 31,false))⟩,⟨(some 34),(.binOp .lss 3 (tK 32) (tK 33) 3),4,(some (some 31,false))⟩,
 ⟨(some 35),(.pick (tK 31) FR (tK 34)),4,(some (some 28,true))⟩,oX 36 (.pick (tK 28) (tK 35) O5) 4]) (.cond (tK 36) (.ops [oM 37 5 3,oA 3 37 3]) .skip)))) (.ops [oB 38 .add 3 (tK 8) (iK 1) 3 3,oM 8 38 3])))
def dN:SC:= .loop U5
def A1R:SC:= .seq (.ops [oX 2 (.assign (iK 0)) 3]) (.seq (.ops [oX 3 O4 3]) (.seq (.seq (.ops [oM 6 0 26,oN 7 6 26,oX 8 (.move (iK 0)) 3]) (.block 0 dN)) (.seq (.ops [oM 39 3 3,oA 2 39 3]) .ret)))
theorem qD:Try.f108.body.map (Bi lends)=some A1R:=by kernel_rfl
theorem A8E:CL Try.f108 1=true:=by kernel_rfl
theorem ADm{a l:List D}{r:D×List D}(h:CK Y.env A1R (Fx Ac l.length [cc 2] r) (entry a l))(ha:a.length=1):Y.call 108 a l=some r:=
 Ab (Y:=Y) rfl Try.func108 (ha▸A8E) qD h
def D8(l:AL)(out:Int)(Gf:Int)(s:St):Prop:=s.v 0=bh 3 (AQ (bd .i64) l)∧s.v 3=bd .i64 out∧s.v 6=bh 3 (AQ (bd .i64) l)∧s.v 7=bd .i64 (l.length:Int)∧s.v 8=bd .i64 Gf
def De(l:AL)(r:Int)(ex:Ex)(s:St):Prop:=ex= .exit 0∧s.v 3=bd .i64 r
theorem U6(l:AL){v:Int×Int}{s:St}{r:Int}(h:Ja l v=some r)(hM:D8 l v.1 v.2 s):CK Y.env dN (De l r) s:=by
 unfold Ja at h;refine Bc (c:=U5) (fun v=>Ga l v.1 v.2) (fun v s=>D8 l v.1 v.2 s) (De l) ?_ h hM;clear h hM s v r;intro v s o hM h;obtain⟨out,Gf⟩:=v;dsimp only at h hM;unfold Ga at h;unfold D8 at hM;obtain⟨m0,m1,m2,m3,m4⟩:=hM;unfold U5;by_cases e1:Gf<(l.length:Int)
 ·rw [if_pos e1]at h;obtain⟨e2,h⟩:=Bw h;obtain⟨e3,h⟩:=Bw h;obtain⟨e4,h⟩:=Bw h;obtain⟨e5,h⟩:=Bw h;have c6:=Lm ((l.take Gf.toNat).drop 0) (l.getD Gf.toNat be) e5;by_cases e7:(((l.take Gf.toNat).drop 0).contains (l.getD Gf.toNat be))=true
  ·rw [if_pos e7]at h
   obtain rfl:=Option.some.inj h
   simp (maxDischargeDepth:=9) only [↓AP,AR,Ai,↓reduceIte,bj,bk,bl,bm,bo,bp,br,bt,bw,bx,bO,b0,b3,b4,b5,b6,b7,m0,m1,m2,m3,m4,e1,e2.1,e2.2,e3,e4,e5,c6,e7,D8,De,Cm,Cn,Co]<;>(repeat' apply A7)<;>first|rfl|exact⟨_,rfl⟩|exact⟨_,_,rfl⟩|simp [AQ,A8]
  ·rw [if_neg e7]at h;have e7f:(((l.take Gf.toNat).drop 0).contains (l.getD Gf.toNat be))=false:=JF.mpr e7;obtain⟨e8,h⟩:=Bw h;obtain⟨e9,h⟩:=Bw h;obtain⟨e10,h⟩:=Bw h;have c11:=Lm ((l.take l.length).drop ((ca.wrap (Gf+1)).toNat)) (l.getD Gf.toNat be) e10;by_cases e12:(((l.take l.length).drop ((ca.wrap (Gf+1)).toNat)).contains (l.getD Gf.toNat be))=true
   ·rw [if_pos e12]at h
    obtain rfl:=Option.some.inj h
    simp (maxDischargeDepth:=9) only [↓AP,AR,Ai,↓reduceIte,bj,bk,bl,bm,bo,bp,br,bt,bw,bx,bO,b0,b3,b4,b5,b6,b7,m0,m1,m2,m3,m4,e1,e2.1,e2.2,e3,e4,e5,c6,e7f,e8,e9,e10,c11,e12,D8,De,Cm,Cn,Co]<;>(repeat' apply A7)<;>first|rfl|exact⟨_,rfl⟩|exact⟨_,_,rfl⟩|simp [AQ,A8]
   ·rw [if_neg e12]at h;have e12f:(((l.take l.length).drop ((ca.wrap (Gf+1)).toNat)).contains (l.getD Gf.toNat be))=false:=JF.mpr e12;by_cases e13:out<0
    ·rw [if_pos e13]at h
     obtain rfl:=Option.some.inj h
     simp (maxDischargeDepth:=9) only [↓AP,AR,Ai,↓reduceIte,bj,bk,bl,bm,bo,bp,br,bt,bw,bx,bO,b0,b3,b4,b5,b6,b7,m0,m1,m2,m3,m4,e1,e2.1,e2.2,e3,e4,e5,c6,e7f,e8,e9,e10,c11,e12f,e13,D8,De,Cm,Cn,Co]<;>(repeat' apply A7)<;>first|rfl|exact⟨_,rfl⟩|exact⟨_,_,rfl⟩|simp [AQ,A8]
    ·rw [if_neg e13]at h;by_cases e14:(l.getD Gf.toNat be)<out
     ·rw [if_pos e14]at h
      obtain rfl:=Option.some.inj h
      simp (maxDischargeDepth:=9) only [↓AP,AR,Ai,↓reduceIte,bj,bk,bl,bm,bo,bp,br,bt,bw,bx,bO,b0,b3,b4,b5,b6,b7,m0,m1,m2,m3,m4,e1,e2.1,e2.2,e3,e4,e5,c6,e7f,e8,e9,e10,c11,e12f,e13,e14,D8,De,Cm,Cn,Co]<;>(repeat' apply A7)<;>first|rfl|exact⟨_,rfl⟩|exact⟨_,_,rfl⟩|simp [AQ,A8]
     ·rw [if_neg e14]at h
      obtain rfl:=Option.some.inj h
      simp (maxDischargeDepth:=9) only [↓AP,AR,Ai,↓reduceIte,bj,bk,bl,bm,bo,bp,br,bt,bw,bx,bO,b0,b3,b4,b5,b6,b7,m0,m1,m2,m3,m4,e1,e2.1,e2.2,e3,e4,e5,c6,e7f,e8,e9,e10,c11,e12f,e13,e14,D8,De,Cm,Cn,Co]<;>(repeat' apply A7)<;>first|rfl|exact⟨_,rfl⟩|exact⟨_,_,rfl⟩|simp [AQ,A8]
 ·rw [if_neg e1]at h
  obtain rfl:=Option.some.inj h
  simp (maxDischargeDepth:=9) only [↓AP,AR,Ai,↓reduceIte,bj,bk,bl,bm,bo,bp,br,bt,bw,bx,bO,b0,b3,b4,b5,b6,b7,m0,m1,m2,m3,m4,e1,D8,De,Cm,Cn,Co]<;>(repeat' apply A7)<;>first|rfl|exact⟨_,rfl⟩|exact⟨_,_,rfl⟩|simp [AQ,A8]
theorem Uu(l:AL){r:Int}(h:NA l=some r):Y.call 108 [bh 3 (AQ (bd .i64) l)] []=some (bd .i64 r,[]):=by
 refine ADm ?_ rfl;unfold A1R;unfold NA at h;obtain⟨AZ,hl2,h⟩:=BA h;try dsimp only at h
 simp (maxDischargeDepth:=9) only [↓AP,AR,Ai,↓reduceIte,bj,bk,bl,bm,bo,bp,br,bt,bw,bx,bO,b0,b3,b4,b5,b6,b7];refine BM (U6 l hl2 ?_) ?_
 ·simp (maxDischargeDepth:=9) only [↓AP,AR,Ai,↓reduceIte,bj,bk,bl,bm,bo,bp,br,bt,bw,bx,bO,b0,b3,b4,b5,b6,b7,D8]<;>(repeat' apply A7)<;>first|rfl|exact⟨_,rfl⟩|exact⟨_,_,rfl⟩|simp [AQ,A8]
 ·intro ex2 s2 hX2;unfold De at hX2;obtain⟨rfl,n2_0⟩:=hX2
  obtain rfl:=Option.some.inj h
  simp (maxDischargeDepth:=9) only [↓AP,AR,Ai,↓reduceIte,bj,bk,bl,bm,bo,bp,br,bt,bw,bx,bO,b0,b3,b4,b5,b6,b7,n2_0]<;>(repeat' apply A7)<;>first|rfl|exact⟨_,rfl⟩|exact⟨_,_,rfl⟩|simp [AQ,A8]
def NQ(AC:Ar)(AY:AL)(AJ:AL)(task:Int)(class_:AL):Option (Bool):= if task=1 then (NA class_).bind fun A8F=> some (decide (0≤A8F)) else (JA AC AY AJ task class_).bind fun A8G=> some A8G
def k63:SC:= .seq (.ops [oX 3 (.box 47 (tK 0)) 0,oX 6 CJ 4]) (.seq (.seq (.ops [oM 7 1 3,oB 8 .eql 3 (tK 7) (iK 1) 3 4]) (.cond (tK 8) (.seq (.ops [oM 9 2 26,oC 10 108 [(tK 9)] [26] 3,oB 11 .geq 3 (tK 10) (iK 0) 3 4,oA 6 11 4]) .ret) .skip)) (.seq (.ops [oL 12 47 3 47,oM 13 1 3,oM 14 2 26,oC 15 109 [(tK 12),(tK 13),(tK 14)] [47,3,26] 4,oA 6 15 4]) .ret))
theorem A1S:Try.f63.body.map (Bi lends)=some k63:=by kernel_rfl
theorem ADo:CL Try.f63 3=true:=by kernel_rfl
theorem c63{a l:List D}{r:D×List D}(h:CK Y.env k63 (Fx Ac l.length [cc 6] r) (entry a l))(ha:a.length=3):Y.call 63 a l=some r:=
 Ab (Y:=Y) rfl Try.func63 (ha▸ADo) A1S h
theorem XF(AC:Ar)(AY:AL)(AJ:AL)(task:Int)(class_:AL){r:Bool}(h:NQ AC AY AJ task class_=some r):Y.call 63 [ce [bh 123 (AQ (fun x=>bh 125 (Aw .i64 .i64 x)) AC),bh 3 (AQ (bd .i64) AY),bh 3 (AQ (bd .i64) AJ)],bd .i64 task,bh 3 (AQ (bd .i64) class_)] []=some (b9 r,[]):=by
 refine c63 ?_ rfl;unfold k63;unfold NQ at h;by_cases e1:task=1
 ·rw [if_pos e1]at h;obtain⟨A8F,hl2,h⟩:=BA h;try dsimp only at h
  have c2:=Uu class_ hl2
  obtain rfl:=Option.some.inj h
  simp (maxDischargeDepth:=9) only [↓AP,AR,Ai,↓reduceIte,bj,bk,bl,bm,bo,bp,br,bt,bw,bx,bO,b0,b3,b4,b5,b6,b7,decide_eq_true e1,c2]<;>(repeat' apply A7)<;>first|rfl|exact⟨_,rfl⟩|exact⟨_,_,rfl⟩|simp [AQ,A8]
 ·rw [if_neg e1]at h;obtain⟨A8G,hl2,h⟩:=BA h;try dsimp only at h
  have c2:=Tp AC AY AJ task class_ hl2
  obtain rfl:=Option.some.inj h
  simp (maxDischargeDepth:=9) only [↓AP,AR,Ai,↓reduceIte,bj,bk,bl,bm,bo,bp,br,bt,bw,bx,bO,b0,b3,b4,b5,b6,b7,e1,c2]<;>(repeat' apply A7)<;>first|rfl|exact⟨_,rfl⟩|exact⟨_,_,rfl⟩|simp [AQ,A8]
def Jb(AC:Ar)(AY:AL)(AJ:AL)(task:Int)(depth:Int):Option (Bool×Bool):= ck (DC AC)<| ck (AY.length<1099511627776)<| ck (AJ.length<1099511627776)<| if(I5 AC AY AJ)=true then (PL task).bind fun Qq=> if Qq=true then (NP depth).bind fun II=> if II=true then (JX AC AY AJ depth).bind fun Yj=> (NQ AC AY AJ task Yj).bind fun gp=> some (gp,true) else some (false,false) else some (false,false) else some (false,false)
abbrev Yu:List Nat:=[21,22,23,24,25,26,6,26,26,7]
def k22:SC:= .seq (.ops [oX 3 (.box 47 (tK 0)) 0,oX 6 CJ 4,oX 7 CJ 4]) (.seq (.seq (.ops [oL 8 47 3 47,oC 9 60 [(tK 8)] [47] 4,oX 10 (.unOp .not 4 (tK 9)) 4,oM 11 10 4,⟨(some 12),(.move (tK 1)),3,(some (some 11,false))⟩,⟨(some 13),(.call ⟨(.value (.func 61)), #[(tK 12)], #[3]⟩),4,(some (some 11,false))⟩,⟨(some 14),(.unOp .not 4 (tK 13)),4,(some (some 11,false))⟩,oX 15 (.pick (tK 11) FR (tK 14)) 4,oM 16 15 4,⟨(some 17),(.move (tK 2)),3,(some (some 16,false))⟩,⟨(some 18),(.call ⟨(.value (.func 62)), #[(tK 17)], #[3]⟩),4,(some (some 16,false))⟩,⟨(some 19),(.unOp .not 4 (tK 18)),4,(some (some 16,false))⟩,oX 20 (.pick (tK 16) FR (tK 19)) 4]) (.cond (tK 20) (.seq (.ops [oX 6 CJ 4,oX 7 CJ 4]) .ret) .skip)) (.seq (.draws [(⟨[21,3,3],Yu,[21]⟩,oL 21 47 3 47),(⟨[22,1,1],Yu,[22]⟩,oM 22 1 3),(⟨[23,3,3],Yu,[23]⟩,oL 23 47 3 47),(⟨[24,2,2],Yu,[24]⟩,oM 24 2 3),(⟨[25,23,24,3,2],Yu,[25]⟩,oC 25 64 [(tK 23),(tK 24)] [47,3] 26),(⟨[26,21,22,25,3,1,25],Yu,[26]⟩,oC 26 63 [(tK 21),(tK 22),(tK 25)] [47,3,26] 4),(⟨[6,26,26],Yu,[6,26,26]⟩,oA 6 26 4),(⟨[7],Yu,[7]⟩,oX 7 (.assign FR) 4)]) .ret))
theorem A1T:Try.f22.body.map (Bi lends)=some k22:=by kernel_rfl
theorem ADq:CL Try.f22 3=true:=by kernel_rfl
theorem c22{a l:List D}{r:D×List D}(h:CK Y.env k22 (Fx Ac l.length [cc 6,cc 7] r) (entry a l))(ha:a.length=3):Y.call 22 a l=some r:=
 Ab (Y:=Y) rfl Try.func22 (ha▸ADq) A1T h
theorem Q4(AC:Ar)(AY:AL)(AJ:AL)(task:Int)(depth:Int){r:Bool×Bool}(h:Jb AC AY AJ task depth=some r):Y.call 22 [ce [bh 123 (AQ (fun x=>bh 125 (Aw .i64 .i64 x)) AC),bh 3 (AQ (bd .i64) AY),bh 3 (AQ (bd .i64) AJ)],bd .i64 task,bd .i64 depth] []=some (D.tup [b9 r.1,b9 r.2],[]):=by
 refine c22 ?_ rfl;unfold k22;unfold Jb at h;obtain⟨e1,h⟩:=Bw h;obtain⟨e2,h⟩:=Bw h;obtain⟨e3,h⟩:=Bw h;have c4:=Yq AC AY AJ e1 e2 e3;by_cases e5:(I5 AC AY AJ)=true
 ·rw [if_pos e5]at h;obtain⟨Qq,hl6,h⟩:=BA h;try dsimp only at h
  have c6:=Ut task hl6;by_cases e7:Qq=true
  ·rw [if_pos e7]at h;obtain⟨II,hl8,h⟩:=BA h;try dsimp only at h
   have c8:=U4 depth hl8;by_cases e9:II=true
   ·rw [if_pos e9]at h;obtain⟨Yj,hl10,h⟩:=BA h;try dsimp only at h
    have WV:=Pz AC AY AJ depth hl10;obtain⟨gp,hl11,h⟩:=BA h;try dsimp only at h
    have c11:=XF AC AY AJ task Yj hl11
    obtain rfl:=Option.some.inj h
    simp (maxDischargeDepth:=9) only [↓AP,AR,Ai,↓reduceIte,bj,bk,bl,bm,bo,bp,br,bt,bw,bx,bO,b0,b3,b4,b5,b6,b7,e1,e2,e3,c4,e5,c6,e7,c8,e9,WV,c11]<;>(repeat' apply A7)<;>first|rfl|exact⟨_,rfl⟩|exact⟨_,_,rfl⟩|simp [AQ,A8]
   ·rw [if_neg e9]at h;have e9f:II=false:=JF.mpr e9
    obtain rfl:=Option.some.inj h
    simp (maxDischargeDepth:=9) only [↓AP,AR,Ai,↓reduceIte,bj,bk,bl,bm,bo,bp,br,bt,bw,bx,bO,b0,b3,b4,b5,b6,b7,e1,e2,e3,c4,e5,c6,e7,c8,e9f]<;>(repeat' apply A7)<;>first|rfl|exact⟨_,rfl⟩|exact⟨_,_,rfl⟩|simp [AQ,A8]
  ·rw [if_neg e7]at h;have e7f:Qq=false:=JF.mpr e7
   obtain rfl:=Option.some.inj h
   simp (maxDischargeDepth:=9) only [↓AP,AR,Ai,↓reduceIte,bj,bk,bl,bm,bo,bp,br,bt,bw,bx,bO,b0,b3,b4,b5,b6,b7,e1,e2,e3,c4,e5,c6,e7f]<;>(repeat' apply A7)<;>first|rfl|exact⟨_,rfl⟩|exact⟨_,_,rfl⟩|simp [AQ,A8]
 ·rw [if_neg e5]at h;have e5f:(I5 AC AY AJ)=false:=JF.mpr e5
  obtain rfl:=Option.some.inj h
  simp (maxDischargeDepth:=9) only [↓AP,AR,Ai,↓reduceIte,bj,bk,bl,bm,bo,bp,br,bt,bw,bx,bO,b0,b3,b4,b5,b6,b7,e1,e2,e3,c4,e5f]<;>(repeat' apply A7)<;>first|rfl|exact⟨_,rfl⟩|exact⟨_,_,rfl⟩|simp [AQ,A8]

end Go.Proofs.Ytclkfhhdikfcpaa
end
