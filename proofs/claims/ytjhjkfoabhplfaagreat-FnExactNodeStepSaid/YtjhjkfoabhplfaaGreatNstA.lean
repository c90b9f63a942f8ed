/- The node step: lifted. Conditions: none. -/
import Derived.Test.YtjhjkfoabhplfaaGreatL6
import Derived.Test.YtjhjkfoabhplfaaGreatEsN
namespace Go.Proofs.YtjhjkfoabhplfaaGreat
open Go Dv
set_option linter.unusedSimpArgs false
set_option linter.unusedVariables false
set_option maxRecDepth 100000
set_option maxHeartbeats 4000000
noncomputable def El(A9:Int)(A8:Int)(AA:AO)(AB:AO)(UL:Int)(EW:Int):Option ((Int×Int)⊕(Int)):= if EW<(IntKind.i64.wrap (A8-1))then some (Sum.inl (IntKind.i64.wrap (UL*A9),IntKind.i64.wrap (EW+1))) else some (Sum.inr UL)
noncomputable def Ia(A9:Int)(A8:Int)(AA:AO)(AB:AO)(v:Int×Int):Option (Int):=Hu (fun v=>El A9 A8 AA AB v.1 v.2) v
noncomputable def En(A9:Int)(A8:Int)(AA:AO)(AB:AO)(AC:Int)(t4_4:AL)(Ej:Int)(OB:AL)(vg:Int)(lw:Int):Option ((AL×Int×Int)⊕(AL)):= if lw<(IntKind.i64.wrap (A8-1))then ck (¬A9=0)<| ck (0≤lw∧lw.toNat<OB.length)<| some (Sum.inl ((OB.set lw.toNat (vg.tmod A9)),IntKind.i64.wrap (vg.tdiv A9),IntKind.i64.wrap (lw+1))) else some (Sum.inr OB)
noncomputable def Kk(A9:Int)(A8:Int)(AA:AO)(AB:AO)(AC:Int)(t4_4:AL)(Ej:Int)(v:AL×Int×Int):Option (AL):=Hu (fun v=>En A9 A8 AA AB AC t4_4 Ej v.1 v.2.1 v.2.2) v
noncomputable def Eo(A9:Int)(A8:Int)(AA:AO)(AB:AO)(AC:Int)(Ej:Int)(t4_41:AL)(OB:AL)(XV:Int):Option ((AL×AL×Int)⊕(AL)):= if XV<A9 then ck (0≤IntKind.i64.wrap (A8-1)∧(IntKind.i64.wrap (A8-1)).toNat<OB.length)<| (Ma A9 A8 AA AB (OB.set ((IntKind.i64.wrap (A8-1)).toNat) XV)).bind fun A6g=> if A6g=true then ck (0≤Ej∧Ej.toNat<t4_41.length)<| ck (¬XV<0)<| some (Sum.inl ((t4_41.set Ej.toNat (Ml .or .i64 (t4_41.getD Ej.toNat default) (IntKind.i64.wrap (1*2 ^ (min XV.toNat (IntKind.i64.bits)))))),(OB.set ((IntKind.i64.wrap (A8-1)).toNat) XV),IntKind.i64.wrap (XV+1))) else some (Sum.inl (t4_41,(OB.set ((IntKind.i64.wrap (A8-1)).toNat) XV),IntKind.i64.wrap (XV+1))) else some (Sum.inr t4_41)
noncomputable def Ib(A9:Int)(A8:Int)(AA:AO)(AB:AO)(AC:Int)(Ej:Int)(v:AL×AL×Int):Option (AL):=Hu (fun v=>Eo A9 A8 AA AB AC Ej v.1 v.2.1 v.2.2) v
noncomputable def Ep(A9:Int)(A8:Int)(AA:AO)(AB:AO)(AC:Int)(t4_4:AL)(Ej:Int):Option ((AL×Int)⊕(AL)):= if Ej<((List.replicate AC.toNat (0:Int)).length:Int)then ck (0≤A8∧A8<1099511627776)<| (Kk A9 A8 AA AB AC t4_4 Ej ((List.replicate A8.toNat 0),Ej,0)).bind fun Ao=> (Ib A9 A8 AA AB AC Ej (t4_4,Ao,0)).bind fun Lh=> some (Sum.inl (Lh,IntKind.i64.wrap (Ej+1))) else some (Sum.inr t4_4)
noncomputable def Ic(A9:Int)(A8:Int)(AA:AO)(AB:AO)(AC:Int)(v:AL×Int):Option (AL):=Hu (fun v=>Ep A9 A8 AA AB AC v.1 v.2) v
noncomputable def Hq(A9:Int)(A8:Int)(AA:AO)(AB:AO):Option (Int×Int×AO×AO×AL):= (Ia A9 A8 AA AB (1,0)).bind fun AC=> ck (0≤AC∧AC<1099511627776)<| (Ic A9 A8 AA AB AC ((List.replicate AC.toNat 0),0)).bind fun zY=> some (A9,A8,AA,AB,zY)
def iY:SC:= .seq (.ops [oB 14 .lss 3 (tK 13) (tK 12) 3 4]) (.seq (.cond (tK 14) .skip (.exit 0)) (.seq (.block 1 (.ops [oM 15 3 3,oF 16 26 1 0,oL 17 3 16 3,oB 18 .mul 3 (tK 15) (tK 17) 3 3,oA 3 18 3])) (.ops [oB 19 .add 3 (tK 13) (iK 1) 3 3,oM 13 19 3])))
def zZ:SC:= .loop iY
def iZ:SC:= .seq (.ops [oB 41 .lss 3 (tK 40) (tK 39) 3 4]) (.seq (.cond (tK 41) .skip (.exit 4)) (.seq (.block 5 (.seq (.ops [oM 42 40 3,oA 8 42 3]) (.seq (.ops [oM 43 6 27,oM 44 8 3,oM 45 7 3,oF 46 26 1 0,oL 47 3 46 3,oB 48 .rem 3 (tK 45) (tK 47) 3 3,oI 49 27 43 44,oS 3 49 48]) (.ops [oM 50 7 3,oF 51 26 1 0,oL 52 3 51 3,oB 53 .quo 3 (tK 50) (tK 52) 3 3,oA 7 53 3])))) (.ops [oB 54 .add 3 (tK 40) (iK 1) 3 3,oM 40 54 3])))
def za:SC:= .loop iZ
abbrev XW:List Nat:=[69,70,71,72,73,74,75,76,77,78,79,79,78,4,78]
def ib:SC:= .seq (.ops [oB 58 .lss 3 (tK 57) (tK 56) 3 4]) (.seq (.cond (tK 58) .skip (.exit 6)) (.seq (.block 7 (.seq (.ops [oM 59 57 3,oA 9 59 3]) (.seq (.ops [oM 60 6 27,oF 61 26 1 1,oL 62 3 61 3,oB 63 .sub 3 (tK 62) (iK 1) 3 3,oM 64 9 3,oI 65 27 60 63,oS 3 65 64]) (.seq (.ops [oL 66 26 1 26,oM 67 6 27,oC 68 77 [(tK 66),(tK 67)] [26,27] 4]) (.cond (tK 68) (.draws [(⟨[69,4,4],XW,[69]⟩,oM 69 4 58),(⟨[70,69,4],XW,[70]⟩,oX 70 (.nilCheck (tK 69)) 0),(⟨[71,70,4],XW,[71]⟩,oF 71 79 70 1),(⟨[72,71,4],XW,[72]⟩,oL 72 27 71 27),(⟨[73,5,5],XW,[73]⟩,oM 73 5 3),(⟨[74,72,73,4,5],XW,[74]⟩,oI 74 27 72 73),(⟨[75,74,4],XW,[75]⟩,oL 75 3 74 3),(⟨[76,9,9],XW,[76]⟩,oM 76 9 3),(⟨[77,76,9],XW,[77]⟩,oB 77 .shl 3 (iK 1) (tK 76) 3 3),(⟨[78,75,77,4,77],XW,[78]⟩,oB 78 .or 3 (tK 75) (tK 77) 3 3),(⟨[79,72,73,4,5],XW,[79]⟩,oI 79 27 72 73),(⟨[79,78,4,78],XW,[79,78,4,78]⟩,oS 3 79 78)]) .skip))))) (.ops [oB 80 .add 3 (tK 57) (iK 1) 3 3,oM 57 80 3])))
def zb:SC:= .loop ib
def ic:SC:= .seq (.ops [oB 31 .lss 3 (tK 30) (tK 29) 3 0]) (.seq (.cond (tK 31) .skip (.exit 2)) (.seq (.block 3 (.seq (.ops [oM 32 30 3,oA 5 32 3]) (.seq (.ops [oF 33 26 1 1,oL 34 3 33 3,oX 35 (.makeSlice 27 (tK 34) (tK 34)) 27,oA 6 35 27]) (.seq (.ops [oM 36 5 3,oA 7 36 3]) (.seq (.seq (.ops [oF 37 26 1 1,oL 38 3 37 3,oB 39 .sub 3 (tK 38) (iK 1) 3 3,oX 40 (.move (iK 0)) 3]) (.block 4 za)) (.seq (.ops [oF 55 26 1 0,oL 56 3 55 3,oX 57 (.move (iK 0)) 3]) (.block 6 zb))))))) (.ops [oB 81 .add 3 (tK 30) (iK 1) 3 3,oM 30 81 3])))
def ze:SC:= .loop ic
abbrev vB:List Nat:=[20,21,22,23,20,22,1,22,24,23,23,4,24,24]
def k50:SC:= .seq (.ops [oX 1 (.box 26 (tK 0)) 0,oX 2 (.assign (.const (.pointer none))) 58]) (.seq (.ops [oX 3 (.assign (iK 1)) 3]) (.seq (.seq (.ops [oF 10 26 1 1,oL 11 3 10 3,oB 12 .sub 3 (tK 11) (iK 1) 3 3,oX 13 (.move (iK 0)) 3]) (.block 0 zZ)) (.seq (.draws [(⟨[20,1,1],vB,[20]⟩,oL 20 26 1 26),(⟨[21,3,3],vB,[21]⟩,oM 21 3 3),(⟨[22,21,21,3,3],vB,[22]⟩,oX 22 (.makeSlice 27 (tK 21) (tK 21)) 27),(⟨[23,20,22,1,22],vB,[23,20,22,1,22]⟩,oX 23 (.build 79 #[(0,(tK 20)),(1,(tK 22))]) 79),(⟨[24,23,23],vB,[24,23,23]⟩,oX 24 (.box 79 (tK 23)) 58),(⟨[4,24,24],vB,[4,24,24]⟩,oA 4 24 58)]) (.seq (.seq (.ops [oM 25 4 58,oX 26 (.nilCheck (tK 25)) 0,oF 27 79 26 1,oL 28 27 27 27,oN 29 28 27,oX 30 (.move (iK 0)) 3]) (.block 2 ze)) (.seq (.ops [oM 82 4 58,oA 2 82 58]) .ret)))))
theorem A6h:Tryz.f50.body.map (Bw lends)=some k50:=by kernel_rfl
theorem AJM:CP Tryz.f50 1=true:=by kernel_rfl
theorem c50{a l:List D}{r:D×List D}(h:CG Y.env k50 (FX Ah l.length [ResultVar.tmp 2] r) (entry a l))(ha:a.length=1):Y.call 50 a l=some r:=
 AZ (Y:=Y) rfl Tryz.func50 (ha▸AJM) A6h h
def Er(A9:Int)(A8:Int)(AA:AO)(AB:AO)(UL:Int)(EW:Int)(s:St):Prop:=s.v 1=D.box [D.int .i64 A9,D.int .i64 A8,D.sl 27 (AV Aw AA),D.sl 27 (AV Aw AB)]∧s.v 3=D.int .i64 UL∧s.v 12=D.int .i64 (IntKind.i64.wrap (A8-1))∧s.v 13=D.int .i64 EW
def J9(A9:Int)(A8:Int)(AA:AO)(AB:AO)(r:Int)(ex:Ex)(s:St):Prop:=ex= .exit 0∧s.v 1=D.box [D.int .i64 A9,D.int .i64 A8,D.sl 27 (AV Aw AA),D.sl 27 (AV Aw AB)]∧s.v 3=D.int .i64 r
theorem TR(A9:Int)(A8:Int)(AA:AO)(AB:AO){v:Int×Int}{s:St}{r:Int}(h:Ia A9 A8 AA AB v=some r)(hM:Er A9 A8 AA AB v.1 v.2 s):CG Y.env zZ (J9 A9 A8 AA AB r) s:=by
 unfold Ia at h;refine BD (c:=iY) (fun v=>El A9 A8 AA AB v.1 v.2) (fun v s=>Er A9 A8 AA AB v.1 v.2 s) (J9 A9 A8 AA AB) ?_ h hM;clear h hM s v r;intro v s o hM h;obtain⟨UL,EW⟩:=v;dsimp only at h hM;unfold El at h;unfold Er at hM;obtain⟨m0,m1,m2,m3⟩:=hM;unfold iY;rcases iS h with⟨e1,h⟩|⟨e1,h⟩
 ·obtain rfl:=Option.some.inj h
  simp only [↓AR,AU,↓reduceIte,Nat.reduceEqDiff,Nat.reduceLT,m0,m1,m2,m3,e1,Er,FV]
 ·obtain rfl:=Option.some.inj h
  simp only [↓AR,AU,↓reduceIte,Nat.reduceEqDiff,Nat.reduceLT,m0,m1,m2,m3,e1,Er,J9,KF]
def Es(A9:Int)(A8:Int)(AA:AO)(AB:AO)(AC:Int)(t4_4:AL)(Ej:Int)(OB:AL)(vg:Int)(lw:Int)(s:St):Prop:=s.v 1=D.box [D.int .i64 A9,D.int .i64 A8,D.sl 27 (AV Aw AA),D.sl 27 (AV Aw AB)]∧s.v 4=D.box [D.int .i64 A9,D.int .i64 A8,D.sl 27 (AV Aw AA),D.sl 27 (AV Aw AB),D.own 3 (AV (D.int .i64) t4_4)]∧s.v 5=D.int .i64 Ej∧s.v 6=D.own 3 (AV (D.int .i64) OB)∧s.v 7=D.int .i64 vg∧s.v 29=D.int .i64 ((List.replicate AC.toNat (0:Int)).length:Int)∧s.v 30=D.int .i64 Ej∧s.v 39=D.int .i64 (IntKind.i64.wrap (A8-1))∧s.v 40=D.int .i64 lw
def JA(A9:Int)(A8:Int)(AA:AO)(AB:AO)(AC:Int)(t4_4:AL)(Ej:Int)(r:AL)(ex:Ex)(s:St):Prop:=ex= .exit 4∧s.v 1=D.box [D.int .i64 A9,D.int .i64 A8,D.sl 27 (AV Aw AA),D.sl 27 (AV Aw AB)]∧s.v 4=D.box [D.int .i64 A9,D.int .i64 A8,D.sl 27 (AV Aw AA),D.sl 27 (AV Aw AB),D.own 3 (AV (D.int .i64) t4_4)]∧s.v 5=D.int .i64 Ej∧s.v 6=D.own 3 (AV (D.int .i64) r)∧s.v 29=D.int .i64 ((List.replicate AC.toNat (0:Int)).length:Int)∧s.v 30=D.int .i64 Ej
theorem TS(A9:Int)(A8:Int)(AA:AO)(AB:AO)(AC:Int)(t4_4:AL)(Ej:Int){v:AL×Int×Int}{s:St}{r:AL}(h:Kk A9 A8 AA AB AC t4_4 Ej v=some r)(hM:Es A9 A8 AA AB AC t4_4 Ej v.1 v.2.1 v.2.2 s):CG Y.env za (JA A9 A8 AA AB AC t4_4 Ej r) s:=by
 unfold Kk at h;refine BD (c:=iZ) (fun v=>En A9 A8 AA AB AC t4_4 Ej v.1 v.2.1 v.2.2) (fun v s=>Es A9 A8 AA AB AC t4_4 Ej v.1 v.2.1 v.2.2 s) (JA A9 A8 AA AB AC t4_4 Ej) ?_ h hM;clear h hM s v r;intro v s o hM h;obtain⟨OB,vg,lw⟩:=v;dsimp only at h hM;unfold En at h;unfold Es at hM;obtain⟨m0,m1,m2,m3,m4,m5,m6,m7,m8⟩:=hM;unfold iZ;rcases iS h with⟨e6,h⟩|⟨e6,h⟩
 ·obtain⟨e7,e8,h⟩:=Hw h
  obtain rfl:=Option.some.inj h
  simp only [↓AR,AU,↓reduceIte,Nat.reduceEqDiff,Nat.reduceLT,m0,m1,m2,m3,m4,m5,m6,m7,m8,e6,e7,e8.1,e8.2,Es,FV]
 ·obtain rfl:=Option.some.inj h
  simp only [↓AR,AU,↓reduceIte,Nat.reduceEqDiff,Nat.reduceLT,m0,m1,m2,m3,m5,m6,m7,m8,e6,Es,JA,KF]
def Dz(A9:Int)(A8:Int)(AA:AO)(AB:AO)(AC:Int)(Ej:Int)(t4_41:AL)(OB:AL)(XV:Int)(s:St):Prop:=s.v 1=D.box [D.int .i64 A9,D.int .i64 A8,D.sl 27 (AV Aw AA),D.sl 27 (AV Aw AB)]∧s.v 4=D.box [D.int .i64 A9,D.int .i64 A8,D.sl 27 (AV Aw AA),D.sl 27 (AV Aw AB),D.own 3 (AV (D.int .i64) t4_41)]∧s.v 5=D.int .i64 Ej∧s.v 6=D.own 3 (AV (D.int .i64) OB)∧s.v 29=D.int .i64 ((List.replicate AC.toNat (0:Int)).length:Int)∧s.v 30=D.int .i64 Ej∧s.v 56=D.int .i64 A9∧s.v 57=D.int .i64 XV
def JB(A9:Int)(A8:Int)(AA:AO)(AB:AO)(AC:Int)(Ej:Int)(r:AL)(ex:Ex)(s:St):Prop:=ex= .exit 6∧s.v 1=D.box [D.int .i64 A9,D.int .i64 A8,D.sl 27 (AV Aw AA),D.sl 27 (AV Aw AB)]∧s.v 4=D.box [D.int .i64 A9,D.int .i64 A8,D.sl 27 (AV Aw AA),D.sl 27 (AV Aw AB),D.own 3 (AV (D.int .i64) r)]∧s.v 29=D.int .i64 ((List.replicate AC.toNat (0:Int)).length:Int)∧s.v 30=D.int .i64 Ej
theorem TT(A9:Int)(A8:Int)(AA:AO)(AB:AO)(AC:Int)(Ej:Int){v:AL×AL×Int}{s:St}{r:AL}(h:Ib A9 A8 AA AB AC Ej v=some r)(hM:Dz A9 A8 AA AB AC Ej v.1 v.2.1 v.2.2 s):CG Y.env zb (JB A9 A8 AA AB AC Ej r) s:=by
 unfold Ib at h;refine BD (c:=ib) (fun v=>Eo A9 A8 AA AB AC Ej v.1 v.2.1 v.2.2) (fun v s=>Dz A9 A8 AA AB AC Ej v.1 v.2.1 v.2.2 s) (JB A9 A8 AA AB AC Ej) ?_ h hM;clear h hM s v r;intro v s o hM h;obtain⟨t4_41,OB,XV⟩:=v;dsimp only at h hM;unfold Eo at h;unfold Dz at hM;obtain⟨m0,m1,m2,m3,m4,m5,m6,m7⟩:=hM;unfold ib;rcases iS h with⟨e8,h⟩|⟨e8,h⟩
 ·obtain⟨e9,h⟩:=EQ h;obtain⟨A6g,hl10,h⟩:=Aa h;have jO:=TQ A9 A8 AA AB (OB.set ((IntKind.i64.wrap (A8-1)).toNat) XV) hl10;rcases iS h with⟨e11,h⟩|⟨e11,h⟩
  ·obtain⟨e12,e13,h⟩:=Hw h
   obtain rfl:=Option.some.inj h
   simp only [↓AR,AU,↓reduceIte,Nat.reduceEqDiff,Nat.reduceLT,m0,m1,m2,m3,m4,m5,m6,m7,e8,e9.1,e9.2,jO,e11,e12.1,e12.2,e13,Dz,FV]
  ·have e11f:A6g=false:=Ju.mpr e11
   obtain rfl:=Option.some.inj h
   simp only [↓AR,AU,↓reduceIte,Nat.reduceEqDiff,Nat.reduceLT,m0,m1,m2,m3,m4,m5,m6,m7,e8,e9.1,e9.2,jO,e11f,Dz,FV]
 ·obtain rfl:=Option.some.inj h
  simp only [↓AR,AU,↓reduceIte,Nat.reduceEqDiff,Nat.reduceLT,m0,m1,m4,m5,m6,m7,e8,Dz,JB,KF]
def Et(A9:Int)(A8:Int)(AA:AO)(AB:AO)(AC:Int)(t4_4:AL)(Ej:Int)(s:St):Prop:=s.v 1=D.box [D.int .i64 A9,D.int .i64 A8,D.sl 27 (AV Aw AA),D.sl 27 (AV Aw AB)]∧s.v 4=D.box [D.int .i64 A9,D.int .i64 A8,D.sl 27 (AV Aw AA),D.sl 27 (AV Aw AB),D.own 3 (AV (D.int .i64) t4_4)]∧s.v 29=D.int .i64 ((List.replicate AC.toNat (0:Int)).length:Int)∧s.v 30=D.int .i64 Ej
def JC(A9:Int)(A8:Int)(AA:AO)(AB:AO)(AC:Int)(r:AL)(ex:Ex)(s:St):Prop:=ex= .exit 2∧s.v 4=D.box [D.int .i64 A9,D.int .i64 A8,D.sl 27 (AV Aw AA),D.sl 27 (AV Aw AB),D.own 3 (AV (D.int .i64) r)]
theorem TU(A9:Int)(A8:Int)(AA:AO)(AB:AO)(AC:Int){v:AL×Int}{s:St}{r:AL}(h:Ic A9 A8 AA AB AC v=some r)(hM:Et A9 A8 AA AB AC v.1 v.2 s):CG Y.env ze (JC A9 A8 AA AB AC r) s:=by
 unfold Ic at h;refine BD (c:=ic) (fun v=>Ep A9 A8 AA AB AC v.1 v.2) (fun v s=>Et A9 A8 AA AB AC v.1 v.2 s) (JC A9 A8 AA AB AC) ?_ h hM;clear h hM s v r;intro v s o hM h;obtain⟨t4_4,Ej⟩:=v;dsimp only at h hM;unfold Ep at h;unfold Et at hM;obtain⟨m0,m1,m2,m3⟩:=hM;unfold ic;rcases iS h with⟨e4,h⟩|⟨e4,h⟩
 ·obtain⟨e5,h⟩:=EQ h;obtain⟨Ao,hl7,h⟩:=Aa h;try dsimp only at h
  simp only [↓AR,AU,↓reduceIte,Nat.reduceEqDiff,Nat.reduceLT,Nat.reduceLeDiff,m0,m2,m3,e4,e5.1,e5.2];refine Ai (TS A9 A8 AA AB AC t4_4 Ej hl7 ?_) ?_
  ·simp only [Bd,↓reduceIte,Nat.reduceEqDiff,m0,m1,m2,m3,Es]
  ·intro ex7 s7 hX7;unfold JA at hX7;obtain⟨rfl,n7_0,n7_1,n7_2,n7_3,n7_4,n7_5⟩:=hX7;obtain⟨Lh,hl9,h⟩:=Aa h;try dsimp only at h
   simp only [↓AR,AU,↓reduceIte,Nat.reduceEqDiff,Nat.reduceLT,n7_0];refine Ai (TT A9 A8 AA AB AC Ej hl9 ?_) ?_
   ·simp only [Bd,↓reduceIte,Nat.reduceEqDiff,n7_0,n7_1,n7_2,n7_3,n7_4,n7_5,Dz]
   ·intro ex9 s9 hX9;unfold JB at hX9;obtain⟨rfl,n9_0,n9_1,n9_2,n9_3⟩:=hX9
    obtain rfl:=Option.some.inj h
    simp only [↓AR,AU,↓reduceIte,Nat.reduceEqDiff,Nat.reduceLT,n9_0,n9_1,n9_2,n9_3,Et,FV]
 ·obtain rfl:=Option.some.inj h
  simp only [↓AR,AU,↓reduceIte,Nat.reduceEqDiff,Nat.reduceLT,m1,m2,m3,e4,Et,JC,KF]
theorem P9(A9:Int)(A8:Int)(AA:AO)(AB:AO){r:Int×Int×AO×AO×AL}(h:Hq A9 A8 AA AB=some r):Y.call 50 [D.agg [D.int .i64 A9,D.int .i64 A8,D.sl 27 (AV Aw AA),D.sl 27 (AV Aw AB)]] []=some (D.box [D.int .i64 r.1,D.int .i64 r.2.1,D.sl 27 (AV Aw r.2.2.1),D.sl 27 (AV Aw r.2.2.2.1),D.own 3 (AV (D.int .i64) r.2.2.2.2)],[]):=by
 refine c50 ?_ rfl;unfold k50;unfold Hq at h;obtain⟨AC,hl2,h⟩:=Aa h;try dsimp only at h
 simp only [↓AR,AU,↓reduceIte,Nat.reduceEqDiff,Nat.reduceLT,Nat.reduceAdd];refine Ai (TR A9 A8 AA AB hl2 ?_) ?_
 ·simp only [Bd,↓reduceIte,Nat.reduceEqDiff,Er]
 ·intro ex2 s2 hX2;unfold J9 at hX2;obtain⟨rfl,n2_0,n2_1⟩:=hX2;obtain⟨e3,h⟩:=EQ h;obtain⟨zY,hl5,h⟩:=Aa h;try dsimp only at h
  simp only [↓AR,AU,↓reduceIte,Nat.reduceEqDiff,Nat.reduceLT,Nat.reduceLeDiff,n2_0,n2_1,e3.1,e3.2];refine Ai (TU A9 A8 AA AB AC hl5 ?_) ?_
  ·simp only [Bd,↓reduceIte,Nat.reduceEqDiff,n2_0,Et]
  ·intro ex5 s5 hX5;unfold JC at hX5;obtain⟨rfl,n5_0⟩:=hX5
   obtain rfl:=Option.some.inj h
   simp only [↓AR,AU,↓reduceIte,Nat.reduceEqDiff,Nat.reduceLT,n5_0]
noncomputable def CU(rec_:Int→Int→Int→Int→AL→Int→Int→AO→AO→AL→Option Int)(k:Int)(key:Int)(weight:Int)(c0_:AL)(c2__0:Int)(c2__1:Int)(c2__2:AO)(c2__3:AO)(c2__4:AL)(ak:Int)(t100000_0:Int):Option ((Int×Int)⊕(Int)):= if ak<c2__0 then ck (0≤k∧k.toNat<c0_.length)<| ck (¬ak<0)<| if(Ml .and .i64 ((c0_.getD k.toNat default).fdiv (2 ^ (min ak.toNat (IntKind.i64.bits)))) 1)=1 then if t100000_0=0 then some (Sum.inl (IntKind.i64.wrap (ak+1),t100000_0)) else (rec_ (IntKind.i64.wrap (k+1)) (IntKind.i64.wrap (key+(IntKind.i64.wrap (ak*weight)))) (IntKind.i64.wrap (weight*c2__0)) t100000_0 c0_ c2__0 c2__1 c2__2 c2__3 c2__4).bind fun ADA=> some (Sum.inl (IntKind.i64.wrap (ak+1),ADA)) else some (Sum.inl (IntKind.i64.wrap (ak+1),t100000_0)) else some (Sum.inr t100000_0)
noncomputable def EJ(rec_:Int→Int→Int→Int→AL→Int→Int→AO→AO→AL→Option Int)(k:Int)(key:Int)(weight:Int)(c0_:AL)(c2__0:Int)(c2__1:Int)(c2__2:AO)(c2__3:AO)(c2__4:AL)(v:Int×Int):Option (Int):=Hu (fun v=>CU rec_ k key weight c0_ c2__0 c2__1 c2__2 c2__3 c2__4 v.1 v.2) v
noncomputable def CS(rec_:Int→Int→Int→Int→AL→Int→Int→AO→AO→AL→Option Int)(k:Int)(key:Int)(weight:Int)(o0_:Int)(c0_:AL)(c2__0:Int)(c2__1:Int)(c2__2:AO)(c2__3:AO)(c2__4:AL):Option (Int):= if k=(c0_.length:Int)then ck (0≤key∧key.toNat<c2__4.length)<| some (Ml .and .i64 o0_ (c2__4.getD key.toNat default)) else (EJ rec_ k key weight c0_ c2__0 c2__1 c2__2 c2__3 c2__4 (0,o0_)).bind fun AC=> some AC
noncomputable def BC:Nat→Int→Int→Int→Int→AL→Int→Int→AO→AO→AL→Option Int |0=>fun _ _ _ _ _ _ _ _ _ _=>none |n+1=>fun k key weight o0_ c0_ c2__0 c2__1 c2__2 c2__3 c2__4=>CS (BC n) k key weight o0_ c0_ c2__0 c2__1 c2__2 c2__3 c2__4
noncomputable def Ie(k:Int)(key:Int)(weight:Int)(o0_:Int)(c0_:AL)(c2__0:Int)(c2__1:Int)(c2__2:AO)(c2__3:AO)(c2__4:AL):Option (Int):=BC 1000000 k key weight o0_ c0_ c2__0 c2__1 c2__2 c2__3 c2__4
abbrev TV:List Nat:=[44,45,46,47,48,49,50,51,52,53,54,55,56,57,58,100000,100001,100002,100003,100004,100005,100006,100007,59,44,46,51,58,6,46,51,58]
def ZO:SC:= .seq (.ops [oB 30 .lss 3 (tK 29) (tK 28) 3 4]) (.seq (.cond (tK 30) .skip (.exit 0)) (.seq (.block 1 (.seq (.ops [oM 31 29 3,oA 10 31 3]) (.seq (.ops [oL 32 27 3 27,oM 33 0 3,oI 34 27 32 33,oL 35 3 34 3,oM 36 10 3,oB 37 .shr 3 (tK 35) (tK 36) 3 3,oB 38 .and 3 (tK 37) (iK 1) 3 3,oB 39 .eql 3 (tK 38) (iK 1) 3 4,oM 40 39 4,⟨(some 41),(.load 3 (tK 4)),3,(some (some 40,true))⟩,⟨(some 42),(.binOp .neq 3 (tK 41) (iK 0) 3),4,(some (some 40,true))⟩,oX 43 (.pick (tK 40) (tK 42) OL) 4]) (.cond (tK 43) (.draws [(⟨[100000,100001,100002,100003,100004,100005,100006,100007,44,6,6],TV,[44]⟩,oL 44 96 6 96),(⟨[45,0,0],TV,[45]⟩,oM 45 0 3),(⟨[46,45,0],TV,[46]⟩,oB 46 .add 3 (tK 45) (iK 1) 3 3),(⟨[47,1,1],TV,[47]⟩,oM 47 1 3),(⟨[48,10,10],TV,[48]⟩,oM 48 10 3),(⟨[49,2,2],TV,[49]⟩,oM 49 2 3),(⟨[50,48,49,10,2],TV,[50]⟩,oB 50 .mul 3 (tK 48) (tK 49) 3 3),(⟨[51,47,50,1,50],TV,[51]⟩,oB 51 .add 3 (tK 47) (tK 50) 3 3),(⟨[52,2,2],TV,[52]⟩,oM 52 2 3),(⟨[100000,100001,100002,100003,100004,100005,100006,100007,53,5,5],TV,[53]⟩,oL 53 58 5 58),(⟨[100000,100001,100002,100003,100004,100005,100006,100007,54,53,5],TV,[54]⟩,oX 54 (.nilCheck (tK 53)) 0),(⟨[100000,100001,100002,100003,100004,100005,100006,100007,55,54,5],TV,[55]⟩,oF 55 79 54 0),
 (⟨[100000,100001,100002,100003,100004,100005,100006,100007,56,55,5],TV,[56]⟩,oF 56 26 55 0),(⟨[100000,100001,100002,100003,100004,100005,100006,100007,57,56,5],TV,[57]⟩,oL 57 3 56 3),(⟨[58,52,57,2,5],TV,[58]⟩,oB 58 .mul 3 (tK 52) (tK 57) 3 3),(⟨[100000,100001,100002,100003,100004,100005,100006,100007,59,44,46,51,58,6,46,51,58],TV,[100000,100001,100002,100003,100004,100005,100006,100007,59,44,46,51,58,6,46,51,58]⟩,oX 59 (.call ⟨(.value (tK 44)), #[(tK 46),(tK 51),(tK 58)], #[3,3,3]⟩) 0)]) .skip)))) (.ops [oB 60 .add 3 (tK 29) (iK 1) 3 3,oM 29 60 3])))
def rP:SC:= .loop ZO
abbrev au:List Nat:=[15,16,17,18,19,20,21,22,23,100000,100001,100002,100003,100004,100005,100006,100007,4,23,4,23]
def A6i:SC:= .seq (.seq (.ops [oM 11 0 3,oL 12 27 3 27,oN 13 12 27,oB 14 .eql 3 (tK 11) (tK 13) 3 4]) (.cond (tK 14) (.seq (.draws [(⟨[100000,100001,100002,100003,100004,100005,100006,100007,15,4,4],au,[15]⟩,oL 15 3 4 3),(⟨[100000,100001,100002,100003,100004,100005,100006,100007,16,5,5],au,[16]⟩,oL 16 58 5 58),(⟨[100000,100001,100002,100003,100004,100005,100006,100007,17,16,5],au,[17]⟩,oX 17 (.nilCheck (tK 16)) 0),(⟨[100000,100001,100002,100003,100004,100005,100006,100007,18,17,5],au,[18]⟩,oF 18 79 17 1),(⟨[100000,100001,100002,100003,100004,100005,100006,100007,19,18,5],au,[19]⟩,oL 19 27 18 27),(⟨[20,1,1],au,[20]⟩,oM 20 1 3),(⟨[100000,100001,100002,100003,100004,100005,100006,100007,21,19,20,5,1],au,[21]⟩,oI 21 27 19 20),(⟨[100000,100001,100002,100003,100004,100005,100006,100007,22,21,5],au,[22]⟩,oL 22 3 21 3),(⟨[23,15,22,4,5],au,[23]⟩,oB 23 .and 3 (tK 15) (tK 22) 3 3),(⟨[100000,100001,100002,100003,100004,100005,100006,100007,4,23,4,23],au,[100000,100001,100002,100003,100004,100005,100006,100007,4,23,4,23]⟩,oS 3 4 23)]) .ret) .skip)) (.seq (.ops [oL 24 58 5 58,oX 25 (.nilCheck (tK 24)) 0,oF 26 79 25 0,oF 27 26 26 0,oL 28 3 27 3,oX 29 (.move (iK 0)) 3]) (.block 0
 rP))
theorem A1W:Tryz.f109.body.map (Bw lends)=some A6i:=by kernel_rfl
theorem ADB:CP Tryz.f109 7=true:=by kernel_rfl
theorem AJN{a l:List D}{r:D×List D}(h:CG Y.env A6i (FX Ah l.length [] r) (entry a l))(ha:a.length=7):Y.call 109 a l=some r:=
 AZ (Y:=Y) rfl Tryz.func109 (ha▸ADB) A1W h
def BX(rec_:Int→Int→Int→Int→AL→Int→Int→AO→AO→AL→Option Int)(k:Int)(key:Int)(weight:Int)(c0_:AL)(c2__0:Int)(c2__1:Int)(c2__2:AO)(c2__3:AO)(c2__4:AL)(ak:Int)(t100000_0:Int)(s:St):Prop:=s.v 0=D.int .i64 k∧s.v 1=D.int .i64 key∧s.v 2=D.int .i64 weight∧s.v 3=D.cptr [D.sl 3 (AV (D.int .i64) c0_)]∧(∃w_,s.v 4=D.vw [100000] (s.k 100000) w_)∧s.v 5=D.cptr [D.cptr [D.int .i64 c2__0,D.int .i64 c2__1,D.sl 27 (AV Aw c2__2),D.sl 27 (AV Aw c2__3),D.sl 3 (AV (D.int .i64) c2__4)]]∧(∃w_,s.v 6=D.ocl true 109 [D.cptr [D.sl 3 (AV (D.int .i64) c0_)],D.vw [100000] (s.k 100000) w_,D.cptr [D.cptr [D.int .i64 c2__0,D.int .i64 c2__1,D.sl 27 (AV Aw c2__2),D.sl 27 (AV Aw c2__3),D.sl 3 (AV (D.int .i64) c2__4)]],D.undef])∧s.v 28=D.int .i64 c2__0∧s.v 29=D.int .i64 ak∧s.v 100000=D.box [D.int .i64 t100000_0]
def Dx(rec_:Int→Int→Int→Int→AL→Int→Int→AO→AO→AL→Option Int)(k:Int)(key:Int)(weight:Int)(c0_:AL)(c2__0:Int)(c2__1:Int)(c2__2:AO)(c2__3:AO)(c2__4:AL)(r:Int)(ex:Ex)(s:St):Prop:=ex= .exit 0∧s.v 100000=D.box [D.int .i64 r]
theorem O3(rec_:Int→Int→Int→Int→AL→Int→Int→AO→AO→AL→Option Int)(k:Int)(key:Int)(weight:Int)(c0_:AL)(c2__0:Int)(c2__1:Int)(c2__2:AO)(c2__3:AO)(c2__4:AL)(rec_h: ∀(k:Int) (key:Int) (weight:Int) (o0_:Int) (c0_:AL) (c2__0:Int) (c2__1:Int) (c2__2:AO) (c2__3:AO) (c2__4:AL) (r:Int),rec_ k key weight o0_ c0_ c2__0 c2__1 c2__2 c2__3 c2__4=some r→Y.call 109 [D.int .i64 k,D.int .i64 key,D.int .i64 weight,D.cptr [D.sl 3 (AV (D.int .i64) c0_)],D.vw [100000] 0 0,D.cptr [D.cptr [D.int .i64 c2__0,D.int .i64 c2__1,D.sl 27 (AV Aw c2__2),D.sl 27 (AV Aw c2__3),D.sl 3 (AV (D.int .i64) c2__4)]],D.ocl true 109 [D.cptr [D.sl 3 (AV (D.int .i64) c0_)],D.vw [100000] 0 0,D.cptr [D.cptr [D.int .i64 c2__0,D.int .i64 c2__1,D.sl 27 (AV Aw c2__2),D.sl 27 (AV Aw c2__3),D.sl 3 (AV (D.int .i64) c2__4)]],D.undef]] [D.box [D.int .i64 o0_]]=some (D.tup [],[D.box [D.int .i64 r]])){v:Int×Int}{s:St}{r:Int}(h:EJ rec_ k key weight c0_ c2__0 c2__1 c2__2 c2__3 c2__4 v=some r)(hM:BX rec_ k key weight c0_ c2__0 c2__1 c2__2 c2__3 c2__4 v.1 v.2 s):CG Y.env rP (Dx rec_ k key weight c0_ c2__0 c2__1 c2__2 c2__3 c2__4 r) s:=by
 unfold EJ at h;refine BD (c:=ZO) (fun v=>CU rec_ k key weight c0_ c2__0 c2__1 c2__2 c2__3 c2__4 v.1 v.2) (fun v s=>BX rec_ k key weight c0_ c2__0 c2__1 c2__2 c2__3 c2__4 v.1 v.2 s) (Dx rec_ k key weight c0_ c2__0 c2__1 c2__2 c2__3 c2__4) ?_ h hM;clear h hM s v r;intro v s o hM h;obtain⟨ak,t100000_0⟩:=v;dsimp only at h hM;unfold CU at h;unfold BX at hM;obtain⟨m0,m1,m2,m3,⟨w4_,m4⟩,m5,⟨w6_,m6⟩,m7,m8,m9⟩:=hM;unfold ZO;rcases iS h with⟨e2,h⟩|⟨e2,h⟩
 ·obtain⟨e3,e4,h⟩:=Hw h;rcases iS h with⟨e5,h⟩|⟨e5,h⟩
  ·rcases iS h with⟨e6,h⟩|⟨e6,h⟩
   ·obtain rfl:=Option.some.inj h
    simp only [↓AR,AU,↓reduceIte,Nat.reduceEqDiff,Nat.reduceLT,m0,m1,m2,m3,m4,m5,m6,m7,m8,m9,e2,e3.1,e3.2,e4,decide_eq_true e5,decide_eq_true e6,BX,FV]<;>(repeat' apply A7)<;>first|rfl|exact⟨_,rfl⟩|exact⟨_,_,rfl⟩|simp [AV,Ad]
   ·obtain⟨ADA,hl7,h⟩:=Aa h;try dsimp only at h
    have c7:=rec_h _ _ _ _ _ _ _ _ _ _ _ hl7
    obtain rfl:=Option.some.inj h
    simp only [↓AR,AU,↓reduceIte,Nat.reduceEqDiff,Nat.reduceLT,m0,m1,m2,m3,m4,m5,m6,m7,m8,m9,e2,e3.1,e3.2,e4,decide_eq_true e5,e6,c7,BX,FV]<;>(repeat' apply A7)<;>first|rfl|exact⟨_,rfl⟩|exact⟨_,_,rfl⟩|simp [AV,Ad]
  ·obtain rfl:=Option.some.inj h
   simp only [↓AR,AU,↓reduceIte,Nat.reduceEqDiff,Nat.reduceLT,m0,m1,m2,m3,m4,m5,m6,m7,m8,m9,e2,e3.1,e3.2,e4,e5,BX,FV]<;>(repeat' apply A7)<;>first|rfl|exact⟨_,rfl⟩|exact⟨_,_,rfl⟩|simp [AV,Ad]
 ·obtain rfl:=Option.some.inj h
  simp only [↓AR,AU,↓reduceIte,Nat.reduceEqDiff,Nat.reduceLT,m7,m8,m9,e2,BX,Dx,KF]
theorem NF(rec_:Int→Int→Int→Int→AL→Int→Int→AO→AO→AL→Option Int)(k:Int)(key:Int)(weight:Int)(o0_:Int)(c0_:AL)(c2__0:Int)(c2__1:Int)(c2__2:AO)(c2__3:AO)(c2__4:AL)(rec_h: ∀(k:Int) (key:Int) (weight:Int) (o0_:Int) (c0_:AL) (c2__0:Int) (c2__1:Int) (c2__2:AO) (c2__3:AO) (c2__4:AL) (r:Int),rec_ k key weight o0_ c0_ c2__0 c2__1 c2__2 c2__3 c2__4=some r→Y.call 109 [D.int .i64 k,D.int .i64 key,D.int .i64 weight,D.cptr [D.sl 3 (AV (D.int .i64) c0_)],D.vw [100000] 0 0,D.cptr [D.cptr [D.int .i64 c2__0,D.int .i64 c2__1,D.sl 27 (AV Aw c2__2),D.sl 27 (AV Aw c2__3),D.sl 3 (AV (D.int .i64) c2__4)]],D.ocl true 109 [D.cptr [D.sl 3 (AV (D.int .i64) c0_)],D.vw [100000] 0 0,D.cptr [D.cptr [D.int .i64 c2__0,D.int .i64 c2__1,D.sl 27 (AV Aw c2__2),D.sl 27 (AV Aw c2__3),D.sl 3 (AV (D.int .i64) c2__4)]],D.undef]] [D.box [D.int .i64 o0_]]=some (D.tup [],[D.box [D.int .i64 r]])){r:Int}(h:CS rec_ k key weight o0_ c0_ c2__0 c2__1 c2__2 c2__3 c2__4=some r):Y.call 109 [D.int .i64 k,D.int .i64 key,D.int .i64 weight,D.cptr [D.sl 3 (AV (D.int .i64) c0_)],D.vw [100000] 0 0,D.cptr [D.cptr [D.int .i64 c2__0,D.int .i64 c2__1,D.sl 27 (AV Aw c2__2),D.sl 27 (AV Aw c2__3),D.sl 3 (AV (D.int .i64) c2__4)]],D.ocl true 109 [D.cptr [D.sl 3 (AV (D.int .i64) c0_)],D.vw [100000] 0 0,D.cptr [D.cptr [D.int .i64 c2__0,D.int .i64 c2__1,D.sl 27 (AV Aw c2__2),D.sl 27 (AV Aw c2__3),D.sl 3 (AV (D.int .i64) c2__4)]],D.undef]] [D.box [D.int .i64 o0_]]=some (D.tup [],[D.box [D.int .i64 r]]):=by
 refine AJN ?_ rfl;unfold A6i;unfold CS at h;rcases iS h with⟨e1,h⟩|⟨e1,h⟩
 ·obtain⟨e2,h⟩:=EQ h
  obtain rfl:=Option.some.inj h
  simp only [↓AR,AU,↓reduceIte,Nat.reduceEqDiff,Nat.reduceLT,Nat.reduceAdd,Nat.reduceSub,decide_eq_true e1,e2.1,e2.2]
 ·obtain⟨AC,hl3,h⟩:=Aa h;try dsimp only at h
  simp only [↓AR,AU,↓reduceIte,Nat.reduceEqDiff,Nat.reduceLT,Nat.reduceAdd,e1];refine Ai (O3 rec_ k key weight c0_ c2__0 c2__1 c2__2 c2__3 c2__4 rec_h hl3 ?_) ?_
  ·simp only [Bd,Da,↓reduceIte,Nat.reduceEqDiff,Nat.reduceLT,Nat.reduceSub,BX]<;>(repeat' apply A7)<;>first|rfl|exact⟨_,rfl⟩|exact⟨_,_,rfl⟩|simp [AV,Ad]
  ·intro ex3 s3 hX3;unfold Dx at hX3;obtain⟨rfl,n3_0⟩:=hX3
   obtain rfl:=Option.some.inj h
   simp only [↓AR,AU,↓reduceIte,n3_0]
theorem NG(n:Nat): ∀(k:Int) (key:Int) (weight:Int) (o0_:Int) (c0_:AL) (c2__0:Int) (c2__1:Int) (c2__2:AO) (c2__3:AO) (c2__4:AL) (r:Int),BC n k key weight o0_ c0_ c2__0 c2__1 c2__2 c2__3 c2__4=some r→Y.call 109 [D.int .i64 k,D.int .i64 key,D.int .i64 weight,D.cptr [D.sl 3 (AV (D.int .i64) c0_)],D.vw [100000] 0 0,D.cptr [D.cptr [D.int .i64 c2__0,D.int .i64 c2__1,D.sl 27 (AV Aw c2__2),D.sl 27 (AV Aw c2__3),D.sl 3 (AV (D.int .i64) c2__4)]],D.ocl true 109 [D.cptr [D.sl 3 (AV (D.int .i64) c0_)],D.vw [100000] 0 0,D.cptr [D.cptr [D.int .i64 c2__0,D.int .i64 c2__1,D.sl 27 (AV Aw c2__2),D.sl 27 (AV Aw c2__3),D.sl 3 (AV (D.int .i64) c2__4)]],D.undef]] [D.box [D.int .i64 o0_]]=some (D.tup [],[D.box [D.int .i64 r]]):=by
 induction n with
 |zero=>intro k key weight o0_ c0_ c2__0 c2__1 c2__2 c2__3 c2__4 r h;exact absurd h (by rw [BC];exact fun e=>by cases e)
 |succ n ih=>intro k key weight o0_ c0_ c2__0 c2__1 c2__2 c2__3 c2__4 r h;rw [BC]at h;exact NF (BC n) k key weight o0_ c0_ c2__0 c2__1 c2__2 c2__3 c2__4 ih h
theorem OC(k:Int)(key:Int)(weight:Int)(o0_:Int)(c0_:AL)(c2__0:Int)(c2__1:Int)(c2__2:AO)(c2__3:AO)(c2__4:AL){r:Int}(h:Ie k key weight o0_ c0_ c2__0 c2__1 c2__2 c2__3 c2__4=some r):Y.call 109 [D.int .i64 k,D.int .i64 key,D.int .i64 weight,D.cptr [D.sl 3 (AV (D.int .i64) c0_)],D.vw [100000] 0 0,D.cptr [D.cptr [D.int .i64 c2__0,D.int .i64 c2__1,D.sl 27 (AV Aw c2__2),D.sl 27 (AV Aw c2__3),D.sl 3 (AV (D.int .i64) c2__4)]],D.ocl true 109 [D.cptr [D.sl 3 (AV (D.int .i64) c0_)],D.vw [100000] 0 0,D.cptr [D.cptr [D.int .i64 c2__0,D.int .i64 c2__1,D.sl 27 (AV Aw c2__2),D.sl 27 (AV Aw c2__3),D.sl 3 (AV (D.int .i64) c2__4)]],D.undef]] [D.box [D.int .i64 o0_]]=some (D.tup [],[D.box [D.int .i64 r]]):=NG 1000000 k key weight o0_ c0_ c2__0 c2__1 c2__2 c2__3 c2__4 r h
noncomputable def Dm(s_0:Int)(s_1:Int)(s_2:AO)(s_3:AO)(s_4:AL)(sets:AL):Option (Int):= ck (¬s_0<0)<| (Ie (0:Int) (0:Int) (1:Int) (IntKind.i64.wrap ((IntKind.i64.wrap (1*2 ^ (min s_0.toNat (IntKind.i64.bits))))-1)) sets s_0 s_1 s_2 s_3 s_4).bind fun aT=> some aT
def k80:SC:= .seq (.ops [oX 2 (.box 58 (tK 0)) 0,oX 3 (.box 27 (tK 1)) 0,oX 4 (.assign (iK 0)) 3]) (.seq (.ops [oL 7 58 2 58,oX 8 (.nilCheck (tK 7)) 0,oF 9 79 8 0,oF 10 26 9 0,oL 11 3 10 3,oB 12 .shl 3 (iK 1) (tK 11) 3 3,oB 13 .sub 3 (tK 12) (iK 1) 3 3,oX 5 (.alloc 3) 0,oS 3 5 13]) (.seq (.ops [oX 6 (.alloc 96) 0]) (.seq (.ops [oX 14 (.makeFunc (Fn.func 109) #[] #[(tK 3),(tK 5),(tK 2),(tK 6)]) 3000010,⟨none,(.store 96 (tK 6) (tK 14)),900010,none⟩]) (.seq (.ops [oL 15 96 6 96,oX 16 (.call ⟨(.value (tK 15)), #[(iK 0),(iK 0),(iK 1)], #[3,3,3]⟩) 0]) (.seq (.ops [oL 17 3 5 3,oA 4 17 3]) .ret)))))
theorem A6j:Tryz.f80.body.map (Bw lends)=some k80:=by kernel_rfl
theorem AJP:CP Tryz.f80 2=true:=by kernel_rfl
theorem c80{a l:List D}{r:D×List D}(h:CG Y.env k80 (FX Ah l.length [ResultVar.tmp 4] r) (entry a l))(ha:a.length=2):Y.call 80 a l=some r:=
 AZ (Y:=Y) rfl Tryz.func80 (ha▸AJP) A6j h
theorem KC(s_0:Int)(s_1:Int)(s_2:AO)(s_3:AO)(s_4:AL)(sets:AL){r:Int}(h:Dm s_0 s_1 s_2 s_3 s_4 sets=some r):Y.call 80 [D.cptr [D.int .i64 s_0,D.int .i64 s_1,D.sl 27 (AV Aw s_2),D.sl 27 (AV Aw s_3),D.sl 3 (AV (D.int .i64) s_4)],D.sl 3 (AV (D.int .i64) sets)] []=some (D.int .i64 r,[]):=by
 refine c80 ?_ rfl;unfold k80;unfold Dm at h;obtain⟨e1,h⟩:=EQ h;obtain⟨aT,hl2,h⟩:=Aa h;try dsimp only at h
 have c2:=OC (0:Int) (0:Int) (1:Int) (IntKind.i64.wrap ((IntKind.i64.wrap (1*2 ^ (min s_0.toNat (IntKind.i64.bits))))-1)) sets s_0 s_1 s_2 s_3 s_4 hl2
 obtain rfl:=Option.some.inj h
 simp only [↓AR,AU,↓reduceIte,Nat.reduceEqDiff,Nat.reduceLT,Nat.reduceAdd,Nat.reduceMod,Nat.reduceDiv,Nat.reducePow,Nat.reduceSub,e1,c2]
noncomputable def EK(s_0:Int)(s_1:Int)(s_2:AO)(s_3:AO)(s_4:AL)(list:AL)(O8:Int):Option ((Int)⊕(Unit⊕Unit)):= if O8<(list.length:Int)then ck (list.length<1099511627776)<| ck (0<list.length∧0≤O8∧O8≤(IntKind.i64.wrap (O8+1))∧(IntKind.i64.wrap (O8+1))≤(list.length:Int))<| (Dm s_0 s_1 s_2 s_3 s_4 (TN list O8.toNat (IntKind.i64.wrap (O8+1)).toNat)).bind fun H7=> ck (0≤O8∧O8.toNat<list.length)<| if H7=(list.getD O8.toNat default)then some (Sum.inl (IntKind.i64.wrap (O8+1))) else some (Sum.inr (Sum.inl ())) else some (Sum.inr (Sum.inr ()))
noncomputable def H8(s_0:Int)(s_1:Int)(s_2:AO)(s_3:AO)(s_4:AL)(list:AL)(v:Int):Option (Unit⊕Unit):=Hu (fun v=>EK s_0 s_1 s_2 s_3 s_4 list v) v
noncomputable def H9(s_0:Int)(s_1:Int)(s_2:AO)(s_3:AO)(s_4:AL)(list:AL):Option (Bool):=
 (H8 s_0 s_1 s_2 s_3 s_4 list 0).bind fun AC=>
 match AC with
 | .inl q1000_=>
  some false
 | .inr q1000_=>
  some true
abbrev WS:List Nat:=[11,12,13,14,15,16,17,13,14,16,13,16,18,19,20,21,22,23]
def ig:SC:= .seq (.ops [oB 9 .lss 3 (tK 8) (tK 7) 3 0]) (.seq (.cond (tK 9) .skip (.exit 0)) (.seq (.block 1 (.seq (.ops [oM 10 8 3,oA 5 10 3]) (.seq (.draws [(⟨[11,0,0],WS,[11]⟩,oM 11 0 58),(⟨[12,1,1],WS,[12]⟩,oM 12 1 27),(⟨[13,12,1],WS,[13]⟩,oC 13 106 [(tK 12)] [27] 27),(⟨[14,5,5],WS,[14]⟩,oM 14 5 3),(⟨[15,5,5],WS,[15]⟩,oM 15 5 3),(⟨[16,15,5],WS,[16]⟩,oB 16 .add 3 (tK 15) (iK 1) 3 3),(⟨[17,13,14,16,13,5,16],WS,[17,13,14,16,13,16]⟩,oC 17 110 [(tK 13),(tK 14),(tK 16)] [27,3,3] 27),(⟨[18,11,17,0,17],WS,[18]⟩,oC 18 80 [(tK 11),(tK 17)] [58,27] 3),(⟨[19,1,1],WS,[19]⟩,oM 19 1 27),(⟨[20,5,5],WS,[20]⟩,oM 20 5 3),(⟨[21,19,20,1,5],WS,[21]⟩,oI 21 27 19 20),(⟨[22,21,1],WS,[22]⟩,oL 22 3 21 3),(⟨[23,18,22,18,1],WS,[23]⟩,oB 23 .neq 3 (tK 18) (tK 22) 3 4)]) (.cond (tK 23) (.seq (.ops [oX 4 Cr 4]) .ret) .skip)))) (.ops [oB 24 .add 3 (tK 8) (iK 1) 3 3,oM 8 24 3])))
def zf:SC:= .loop ig
def k81:SC:= .seq (.ops [oX 4 Cr 4]) (.seq (.seq (.ops [oM 6 1 27,oN 7 6 27,oX 8 (.move (iK 0)) 3]) (.block 0 zf)) (.seq (.ops [oX 4 (.assign Kv) 4]) .ret))
theorem A6k:Tryz.f81.body.map (Bw lends)=some k81:=by kernel_rfl
theorem AJR:CP Tryz.f81 2=true:=by kernel_rfl
theorem c81{a l:List D}{r:D×List D}(h:CG Y.env k81 (FX Ah l.length [ResultVar.tmp 4] r) (entry a l))(ha:a.length=2):Y.call 81 a l=some r:=
 AZ (Y:=Y) rfl Tryz.func81 (ha▸AJR) A6k h
def Cq(s_0:Int)(s_1:Int)(s_2:AO)(s_3:AO)(s_4:AL)(list:AL)(O8:Int)(s:St):Prop:=s.v 0=D.cptr [D.int .i64 s_0,D.int .i64 s_1,D.sl 27 (AV Aw s_2),D.sl 27 (AV Aw s_3),D.sl 3 (AV (D.int .i64) s_4)]∧s.v 1=D.sl 3 (AV (D.int .i64) list)∧s.v 7=D.int .i64 (list.length:Int)∧s.v 8=D.int .i64 O8
def DY(s_0:Int)(s_1:Int)(s_2:AO)(s_3:AO)(s_4:AL)(list:AL)(r:Unit⊕Unit)(ex:Ex)(s:St):Prop:=match r with
 | .inl q=>ex= .ret∧s.v 4=D.bool false
 | .inr q=>ex= .exit 0
theorem Qf(s_0:Int)(s_1:Int)(s_2:AO)(s_3:AO)(s_4:AL)(list:AL){v:Int}{s:St}{r:Unit⊕Unit}(h:H8 s_0 s_1 s_2 s_3 s_4 list v=some r)(hM:Cq s_0 s_1 s_2 s_3 s_4 list v s):CG Y.env zf (DY s_0 s_1 s_2 s_3 s_4 list r) s:=by
 unfold H8 at h;refine BD (c:=ig) (fun v=>EK s_0 s_1 s_2 s_3 s_4 list v) (fun v s=>Cq s_0 s_1 s_2 s_3 s_4 list v s) (DY s_0 s_1 s_2 s_3 s_4 list) ?_ h hM;clear h hM s v r;intro O8 s o hM h;unfold EK at h;unfold Cq at hM;obtain⟨m0,m1,m2,m3⟩:=hM;unfold ig;rcases iS h with⟨e1,h⟩|⟨e1,h⟩
 ·obtain⟨e2,h⟩:=EQ h;have c3:=K7 list e2;obtain⟨e4,h⟩:=EQ h;have c5:=A1C list O8 (IntKind.i64.wrap (O8+1)) e4;obtain⟨H7,hl6,h⟩:=Aa h;have c6:=KC s_0 s_1 s_2 s_3 s_4 (TN list O8.toNat (IntKind.i64.wrap (O8+1)).toNat) hl6;obtain⟨e7,h⟩:=EQ h;rcases iS h with⟨e8,h⟩|⟨e8,h⟩
  ·obtain rfl:=Option.some.inj h
   simp only [↓AR,AU,↓reduceIte,Nat.reduceEqDiff,Nat.reduceLT,m0,m1,m2,m3,e1,c3,e4,c5,c6,e7.2,decide_eq_true e8,Cq,FV]
  ·obtain rfl:=Option.some.inj h
   simp only [↓AR,AU,↓reduceIte,Nat.reduceEqDiff,Nat.reduceLT,m0,m1,m2,m3,e1,c3,e4,c5,c6,e7.2,e8,Cq,DY,U2]
 ·obtain rfl:=Option.some.inj h
  simp only [↓AR,AU,↓reduceIte,Nat.reduceLT,m2,m3,e1,Cq,DY,KF]
theorem R7(s_0:Int)(s_1:Int)(s_2:AO)(s_3:AO)(s_4:AL)(list:AL){r:Bool}(h:H9 s_0 s_1 s_2 s_3 s_4 list=some r):Y.call 81 [D.cptr [D.int .i64 s_0,D.int .i64 s_1,D.sl 27 (AV Aw s_2),D.sl 27 (AV Aw s_3),D.sl 3 (AV (D.int .i64) s_4)],D.sl 3 (AV (D.int .i64) list)] []=some (D.bool r,[]):=by
 refine c81 ?_ rfl;unfold k81;unfold H9 at h;obtain⟨AC,hl2,h⟩:=Aa h;try dsimp only at h
 simp only [↓AR,AU,↓reduceIte,Nat.reduceEqDiff,Nat.reduceLT];refine Ai (Qf s_0 s_1 s_2 s_3 s_4 list hl2 ?_) ?_
 ·simp only [Bd,Da,↓reduceIte,Nat.reduceEqDiff,Nat.reduceLT,Cq]
 ·intro ex2 s2 hX2;rcases AC with q1000_|q1000_
  ·unfold DY at hX2;dsimp only at hX2 h;obtain⟨rfl,n2_0⟩:=hX2
   obtain rfl:=Option.some.inj h
   simp only [↓AR,AU,↓reduceIte,n2_0]
  ·unfold DY at hX2;dsimp only at hX2 h
   obtain rfl:=hX2
   obtain rfl:=Option.some.inj h
   simp only [↓AR,AU,↓reduceIte,Nat.reduceEqDiff,Nat.reduceLT]
noncomputable def Cj(t0_0:Int)(t0_1:Int)(t0_2:AO)(t0_3:AO)(t0_4:AL)(BO:AO)(UL:AO)(Lj:Int)(OB:AL)(mD:Int):Option ((AL×Int)⊕(AL)):= if mD<((BO.getD Lj.toNat default).length:Int)then ck (Lj.toNat<BO.length)<| ck (0≤mD∧mD.toNat<(BO.getD Lj.toNat default).length)<| ck (OB.length+1<1099511627776)<| some (Sum.inl ((OB++[IntKind.i64.wrap (((BO.getD Lj.toNat default).getD mD.toNat default)+1)]),IntKind.i64.wrap (mD+1))) else some (Sum.inr OB)
noncomputable def E9(t0_0:Int)(t0_1:Int)(t0_2:AO)(t0_3:AO)(t0_4:AL)(BO:AO)(UL:AO)(Lj:Int)(v:AL×Int):Option (AL):=Hu (fun v=>Cj t0_0 t0_1 t0_2 t0_3 t0_4 BO UL Lj v.1 v.2) v
noncomputable def Ck(t0_0:Int)(t0_1:Int)(t0_2:AO)(t0_3:AO)(t0_4:AL)(BO:AO)(UL:AO)(Lj:Int):Option ((AO×Int)⊕(AO)):= if Lj<(BO.length:Int)then ck (0≤Lj∧Lj.toNat<BO.length)<| ck (0≤t0_1∧t0_1<1099511627776)<| (E9 t0_0 t0_1 t0_2 t0_3 t0_4 BO UL Lj ([],0)).bind fun AC=> (Dm t0_0 t0_1 t0_2 t0_3 t0_4 AC).bind fun qF=> if qF=0 then some (Sum.inl (UL,IntKind.i64.wrap (Lj+1))) else ck (AC.length+1<1099511627776)<| (H9 t0_0 t0_1 t0_2 t0_3 t0_4 (AC++[qF])).bind fun A6l=> if A6l=true then ck ((AC++[qF]).length<4611686018427387904)<| ck (UL.length+1<1099511627776)<| some (Sum.inl ((UL++[(ER (AC++[qF]))]),IntKind.i64.wrap (Lj+1))) else some (Sum.inl (UL,IntKind.i64.wrap (Lj+1))) else some (Sum.inr UL)
noncomputable def EA(t0_0:Int)(t0_1:Int)(t0_2:AO)(t0_3:AO)(t0_4:AL)(BO:AO)(v:AO×Int):Option (AO):=Hu (fun v=>Ck t0_0 t0_1 t0_2 t0_3 t0_4 BO v.1 v.2) v
noncomputable def DR(t0_0:Int)(t0_1:Int)(t0_2:AO)(t0_3:AO)(t0_4:AL):Option (AO):= ck (¬t0_0<0)<| (M0 (IntKind.i64.wrap ((IntKind.i64.wrap (1*2 ^ (min t0_0.toNat (IntKind.i64.bits))))-1)) (IntKind.i64.wrap (t0_1-1))).bind fun BO=> (EA t0_0 t0_1 t0_2 t0_3 t0_4 BO ([],0)).bind fun Ao=> (Ja Ao).bind fun ADC=> some ADC
def ik:SC:= .seq (.ops [oB 38 .lss 3 (tK 37) (tK 36) 3 0]) (.seq (.cond (tK 38) .skip (.exit 2)) (.seq (.block 3 (.seq (.ops [oI 39 27 35 37,oL 40 3 39 3,oA 8 40 3]) (.ops [oM 41 6 27,oM 42 8 3,oB 43 .add 3 (tK 42) (iK 1) 3 3,oX 44 (.buildSlice 27 1 #[(0,(tK 43))]) 27,oX 45 (.call ⟨(.builtin .append), #[(tK 41),(tK 44)], #[27,27]⟩) 27,oA 6 45 27]))) (.ops [oB 46 .add 3 (tK 37) (iK 1) 3 3,oM 37 46 3])))
def zg:SC:= .loop ik
def il:SC:= .seq (.ops [oB 26 .lss 3 (tK 25) (tK 24) 3 0]) (.seq (.cond (tK 26) .skip (.exit 0)) (.seq (.block 1 (.seq (.ops [oI 27 22 23 25,oL 28 27 27 27,oA 5 28 27]) (.seq (.ops [oM 29 0 58,oX 30 (.nilCheck (tK 29)) 0,oF 31 79 30 0,oF 32 26 31 1,oL 33 3 32 3,oX 34 (.makeSlice 27 (iK 0) (tK 33)) 27,oA 6 34 27]) (.seq (.seq (.ops [oM 35 5 27,oN 36 35 27,oX 37 (.move (iK 0)) 3]) (.block 2 zg)) (.seq (.ops [oM 47 0 58,oM 48 6 27,oC 49 80 [(tK 47),(tK 48)] [58,27] 3,oA 9 49 3]) (.seq (.seq (.ops [oM 50 9 3,oB 51 .eql 3 (tK 50) (iK 0) 3 4]) (.cond (tK 51) (.exit 1) .skip)) (.seq (.ops [oM 52 6 27,oM 53 9 3,oX 54 (.buildSlice 27 1 #[(0,(tK 53))]) 27,oX 55 (.call ⟨(.builtin .append), #[(tK 52),(tK 54)], #[27,27]⟩) 27,oA 6 55 27]) (.seq (.ops [oM 56 0 58,oM 57 6 27,oC 58 81 [(tK 56),(tK 57)] [58,27] 4]) (.cond (tK 58) (.seq (.ops [oM 59 6 27,oC 60 68 [(tK 59)] [27] 0]) (.ops [oM 61 3 22,oM 62 6 27,oX 63 (.buildSlice 22 1 #[(0,(tK 62))]) 22,oX 64 (.call ⟨(.builtin .append), #[(tK 61),(tK 63)], #[22,22]⟩) 22,oA 3 64 22])) .skip))))))))) (.ops [oB 65 .add 3 (tK 25) (iK 1) 3 3,oM 25 65 3])))
def zh:SC:= .loop il
abbrev TW:List Nat:=[10,11,12,13,14,15,16,17,18,19,20,21,22,23,24,25]
def k51:SC:= .seq (.ops [oX 2 Ev 22]) (.seq (.ops [oX 3 Ev 22]) (.seq (.seq (.draws [(⟨[10,0,0],TW,[10]⟩,oM 10 0 58),(⟨[11,10,0],TW,[11]⟩,oX 11 (.nilCheck (tK 10)) 0),(⟨[12,11,0],TW,[12]⟩,oF 12 79 11 0),(⟨[13,12,0],TW,[13]⟩,oF 13 26 12 0),(⟨[14,13,0],TW,[14]⟩,oL 14 3 13 3),(⟨[15,14,0],TW,[15]⟩,oB 15 .shl 3 (iK 1) (tK 14) 3 3),(⟨[16,15,15],TW,[16]⟩,oB 16 .sub 3 (tK 15) (iK 1) 3 3),(⟨[17,0,0],TW,[17]⟩,oM 17 0 58),(⟨[18,17,0],TW,[18]⟩,oX 18 (.nilCheck (tK 17)) 0),(⟨[19,18,0],TW,[19]⟩,oF 19 79 18 0),(⟨[20,19,0],TW,[20]⟩,oF 20 26 19 1),(⟨[21,20,0],TW,[21]⟩,oL 21 3 20 3),(⟨[22,21,0],TW,[22]⟩,oB 22 .sub 3 (tK 21) (iK 1) 3 3),(⟨[23,16,22,16,22],TW,[23]⟩,oC 23 73 [(tK 16),(tK 22)] [3,3] 22),(⟨[24,23,23],TW,[24]⟩,oN 24 23 22),(⟨[25],TW,[25]⟩,oX 25 (.move (iK 0)) 3)]) (.block 0 zh)) (.seq (.ops [oM 66 3 22,oC 67 71 [(tK 66)] [22] 22,oA 2 67 22]) .ret)))
theorem A6m:Tryz.f51.body.map (Bw lends)=some k51:=by kernel_rfl
theorem AJT:CP Tryz.f51 1=true:=by kernel_rfl
theorem c51{a l:List D}{r:D×List D}(h:CG Y.env k51 (FX Ah l.length [ResultVar.tmp 2] r) (entry a l))(ha:a.length=1):Y.call 51 a l=some r:=
 AZ (Y:=Y) rfl Tryz.func51 (ha▸AJT) A6m h
def Cm(t0_0:Int)(t0_1:Int)(t0_2:AO)(t0_3:AO)(t0_4:AL)(BO:AO)(UL:AO)(Lj:Int)(OB:AL)(mD:Int)(s:St):Prop:=s.v 0=D.cptr [D.int .i64 t0_0,D.int .i64 t0_1,D.sl 27 (AV Aw t0_2),D.sl 27 (AV Aw t0_3),D.sl 3 (AV (D.int .i64) t0_4)]∧s.v 3=D.own 27 (AV KQ UL)∧s.v 6=D.own 3 (AV (D.int .i64) OB)∧s.v 23=D.own 27 (AV KQ BO)∧s.v 24=D.int .i64 (BO.length:Int)∧s.v 25=D.int .i64 Lj∧s.v 35=D.vw [23,Lj.toNat] (s.k 23) (s.m 23)∧s.v 36=D.int .i64 ((BO.getD Lj.toNat default).length:Int)∧s.v 37=D.int .i64 mD
def EY(t0_0:Int)(t0_1:Int)(t0_2:AO)(t0_3:AO)(t0_4:AL)(BO:AO)(UL:AO)(Lj:Int)(r:AL)(ex:Ex)(s:St):Prop:=ex= .exit 2∧s.v 0=D.cptr [D.int .i64 t0_0,D.int .i64 t0_1,D.sl 27 (AV Aw t0_2),D.sl 27 (AV Aw t0_3),D.sl 3 (AV (D.int .i64) t0_4)]∧s.v 3=D.own 27 (AV KQ UL)∧s.v 6=D.own 3 (AV (D.int .i64) r)∧s.v 23=D.own 27 (AV KQ BO)∧s.v 24=D.int .i64 (BO.length:Int)∧s.v 25=D.int .i64 Lj
theorem PD(t0_0:Int)(t0_1:Int)(t0_2:AO)(t0_3:AO)(t0_4:AL)(BO:AO)(UL:AO)(Lj:Int){v:AL×Int}{s:St}{r:AL}(h:E9 t0_0 t0_1 t0_2 t0_3 t0_4 BO UL Lj v=some r)(hM:Cm t0_0 t0_1 t0_2 t0_3 t0_4 BO UL Lj v.1 v.2 s):CG Y.env zg (EY t0_0 t0_1 t0_2 t0_3 t0_4 BO UL Lj r) s:=by
 unfold E9 at h;refine BD (c:=ik) (fun v=>Cj t0_0 t0_1 t0_2 t0_3 t0_4 BO UL Lj v.1 v.2) (fun v s=>Cm t0_0 t0_1 t0_2 t0_3 t0_4 BO UL Lj v.1 v.2 s) (EY t0_0 t0_1 t0_2 t0_3 t0_4 BO UL Lj) ?_ h hM;clear h hM s v r;intro v s o hM h;obtain⟨OB,mD⟩:=v;dsimp only at h hM;unfold Cj at h;unfold Cm at hM;obtain⟨m0,m1,m2,m3,m4,m5,m6,m7,m8⟩:=hM;unfold ik;rcases iS h with⟨e6,h⟩|⟨e6,h⟩
 ·obtain⟨e7,e8,e9,h⟩:=XE h
  obtain rfl:=Option.some.inj h
  simp only [↓AR,AU,↓reduceIte,Nat.reduceEqDiff,Nat.reduceLT,Nat.reduceLeDiff,m0,m1,m2,m3,m4,m5,m6,m7,m8,e6,e7,e8.1,e8.2,e9,Cm,FV]
 ·obtain rfl:=Option.some.inj h
  simp only [↓AR,AU,↓reduceIte,Nat.reduceEqDiff,Nat.reduceLT,m0,m1,m2,m3,m4,m5,m7,m8,e6,Cm,EY,KF]
def Bu(t0_0:Int)(t0_1:Int)(t0_2:AO)(t0_3:AO)(t0_4:AL)(BO:AO)(UL:AO)(Lj:Int)(s:St):Prop:=s.v 0=D.cptr [D.int .i64 t0_0,D.int .i64 t0_1,D.sl 27 (AV Aw t0_2),D.sl 27 (AV Aw t0_3),D.sl 3 (AV (D.int .i64) t0_4)]∧s.v 3=D.own 27 (AV KQ UL)∧s.v 23=D.own 27 (AV KQ BO)∧s.v 24=D.int .i64 (BO.length:Int)∧s.v 25=D.int .i64 Lj
def EZ(t0_0:Int)(t0_1:Int)(t0_2:AO)(t0_3:AO)(t0_4:AL)(BO:AO)(r:AO)(ex:Ex)(s:St):Prop:=ex= .exit 0∧s.v 3=D.own 27 (AV KQ r)
theorem PE(t0_0:Int)(t0_1:Int)(t0_2:AO)(t0_3:AO)(t0_4:AL)(BO:AO){v:AO×Int}{s:St}{r:AO}(h:EA t0_0 t0_1 t0_2 t0_3 t0_4 BO v=some r)(hM:Bu t0_0 t0_1 t0_2 t0_3 t0_4 BO v.1 v.2 s):CG Y.env zh (EZ t0_0 t0_1 t0_2 t0_3 t0_4 BO r) s:=by
 unfold EA at h;refine BD (c:=il) (fun v=>Ck t0_0 t0_1 t0_2 t0_3 t0_4 BO v.1 v.2) (fun v s=>Bu t0_0 t0_1 t0_2 t0_3 t0_4 BO v.1 v.2 s) (EZ t0_0 t0_1 t0_2 t0_3 t0_4 BO) ?_ h hM;clear h hM s v r;intro v s o hM h;obtain⟨UL,Lj⟩:=v;dsimp only at h hM;unfold Ck at h;unfold Bu at hM;obtain⟨m0,m1,m2,m3,m4⟩:=hM;unfold il;rcases iS h with⟨e3,h⟩|⟨e3,h⟩
 ·obtain⟨e4,e5,h⟩:=Hw h;obtain⟨AC,hl7,h⟩:=Aa h;try dsimp only at h
  simp only [↓AR,AU,↓reduceIte,Nat.reduceEqDiff,Nat.reduceLT,Nat.reduceLeDiff,m0,m2,m3,m4,e3,e4.1,e4.2,e5.1,e5.2];refine Ai (PD t0_0 t0_1 t0_2 t0_3 t0_4 BO UL Lj hl7 ?_) ?_
  ·simp only [Bd,↓reduceIte,Nat.reduceEqDiff,m0,m1,m2,m3,m4,Cm]<;>(repeat' apply A7)<;>first|rfl|exact⟨_,rfl⟩|exact⟨_,_,rfl⟩|simp [AV,Ad]
  ·intro ex7 s7 hX7;unfold EY at hX7;obtain⟨rfl,n7_0,n7_1,n7_2,n7_3,n7_4,n7_5⟩:=hX7;obtain⟨qF,hl8,h⟩:=Aa h;have c8:=KC t0_0 t0_1 t0_2 t0_3 t0_4 AC hl8;rcases iS h with⟨e9,h⟩|⟨e9,h⟩
   ·obtain rfl:=Option.some.inj h
    simp only [↓AR,AU,↓reduceIte,Nat.reduceEqDiff,Nat.reduceLT,n7_0,n7_1,n7_2,n7_3,n7_4,n7_5,c8,decide_eq_true e9,Bu,FV]
   ·obtain⟨e10,h⟩:=EQ h;obtain⟨A6l,hl11,h⟩:=Aa h;have jM:=R7 t0_0 t0_1 t0_2 t0_3 t0_4 (AC++[qF]) hl11;rcases iS h with⟨e12,h⟩|⟨e12,h⟩
    ·obtain⟨e13,h⟩:=EQ h;have bq:=fI (AC++[qF]) e13;obtain⟨e15,h⟩:=EQ h
     obtain rfl:=Option.some.inj h
     simp only [↓AR,AU,↓reduceIte,Nat.reduceEqDiff,Nat.reduceLT,Nat.reduceLeDiff,n7_0,n7_1,n7_2,n7_3,n7_4,n7_5,c8,e9,e10,jM,e12,bq,e15,Bu,FV]
    ·have e12f:A6l=false:=Ju.mpr e12
     obtain rfl:=Option.some.inj h
     simp only [↓AR,AU,↓reduceIte,Nat.reduceEqDiff,Nat.reduceLT,Nat.reduceLeDiff,n7_0,n7_1,n7_2,n7_3,n7_4,n7_5,c8,e9,e10,jM,e12f,Bu,FV]
 ·obtain rfl:=Option.some.inj h
  simp only [↓AR,AU,↓reduceIte,Nat.reduceEqDiff,Nat.reduceLT,m1,m3,m4,e3,Bu,EZ,KF]
theorem Km(t0_0:Int)(t0_1:Int)(t0_2:AO)(t0_3:AO)(t0_4:AL){r:AO}(h:DR t0_0 t0_1 t0_2 t0_3 t0_4=some r):Y.call 51 [D.cptr [D.int .i64 t0_0,D.int .i64 t0_1,D.sl 27 (AV Aw t0_2),D.sl 27 (AV Aw t0_3),D.sl 3 (AV (D.int .i64) t0_4)]] []=some (D.own 27 (AV KQ r),[]):=by
 refine c51 ?_ rfl;unfold k51;unfold DR at h;obtain⟨e1,h⟩:=EQ h;obtain⟨BO,hl2,h⟩:=Aa h;have c2:=Qa (IntKind.i64.wrap ((IntKind.i64.wrap (1*2 ^ (min t0_0.toNat (IntKind.i64.bits))))-1)) (IntKind.i64.wrap (t0_1-1)) hl2;obtain⟨Ao,hl4,h⟩:=Aa h;try dsimp only at h
 simp (maxDischargeDepth:=9) only [↓AR,AU,↓reduceIte,Nat.reduceEqDiff,Nat.reduceLT,e1,c2];refine Ai (PE t0_0 t0_1 t0_2 t0_3 t0_4 BO hl4 ?_) ?_
 ·simp (maxDischargeDepth:=9) only [Bd,Da,↓reduceIte,Nat.reduceEqDiff,Nat.reduceLT,Bu]<;>(repeat' apply A7)<;>first|rfl|exact⟨_,rfl⟩|exact⟨_,_,rfl⟩|simp [AV,Ad]
 ·intro ex4 s4 hX4;unfold EZ at hX4;obtain⟨rfl,n4_0⟩:=hX4;obtain⟨ADC,hl5,h⟩:=Aa h;try dsimp only at h
  have c5:=P7 Ao hl5
  obtain rfl:=Option.some.inj h
  simp (maxDischargeDepth:=9) only [↓AR,AU,↓reduceIte,Nat.reduceEqDiff,Nat.reduceLT,n4_0,c5]
noncomputable def DZ(labels:AL)(c0__0:Int)(c0__1:Int)(c0__2:AO)(c0__3:AO):Option (Bool):= ck (0<labels.length)<| ck (1<labels.length)<| ck (BB c0__3)<| ck (RV c0__3=true)<| some (uw c0__3 (labels.getD 0 default) (labels.getD 1 default))
abbrev iq:List Nat:=[4,5,6,7,8,9,10,11,3,11,11]
def k82:SC:= .seq (.ops [oX 3 Cr 4]) (.seq (.draws [(⟨[4,1,1],iq,[4]⟩,oL 4 26 1 26),(⟨[5,0,0],iq,[5]⟩,oM 5 0 27),(⟨[6,5,0],iq,[6]⟩,oX 6 (.indexAddr 27 (tK 5) (iK 0)) 0),(⟨[7,6,0],iq,[7]⟩,oL 7 3 6 3),(⟨[8,0,0],iq,[8]⟩,oM 8 0 27),(⟨[9,8,0],iq,[9]⟩,oX 9 (.indexAddr 27 (tK 8) (iK 1)) 0),(⟨[10,9,0],iq,[10]⟩,oL 10 3 9 3),(⟨[11,4,7,10,1,0,0],iq,[11]⟩,oC 11 83 [(tK 4),(tK 7),(tK 10)] [26,3,3] 4),(⟨[3,11,11],iq,[3,11,11]⟩,oA 3 11 4)]) .ret)
theorem A6n:Tryz.f82.body.map (Bw lends)=some k82:=by kernel_rfl
theorem AJV:CP Tryz.f82 2=true:=by kernel_rfl
theorem c82{a l:List D}{r:D×List D}(h:CG Y.env k82 (FX Ah l.length [ResultVar.tmp 3] r) (entry a l))(ha:a.length=2):Y.call 82 a l=some r:=
 AZ (Y:=Y) rfl Tryz.func82 (ha▸AJV) A6n h
theorem OV(labels:AL)(c0__0:Int)(c0__1:Int)(c0__2:AO)(c0__3:AO){r:Bool}(h:DZ labels c0__0 c0__1 c0__2 c0__3=some r):Y.call 82 [D.sl 3 (AV (D.int .i64) labels),D.cptr [D.int .i64 c0__0,D.int .i64 c0__1,D.sl 27 (AV Aw c0__2),D.sl 27 (AV Aw c0__3)]] []=some (D.bool r,[]):=by
 refine c82 ?_ rfl;unfold k82;unfold DZ at h;obtain⟨e1,e2,e3,e4,h⟩:=aH h;have c5:=VH c0__0 c0__1 c0__2 c0__3 (labels.getD 0 default) (labels.getD 1 default) e3 e4
 obtain rfl:=Option.some.inj h
 simp only [↓AR,AU,↓reduceIte,Nat.reduceEqDiff,Nat.reduceLT,Int.reduceLE,Int.reduceToNat,e1,e2,c5]
noncomputable def HV(AP:Int)(AQ:Int)(AX:AO)(AY:AO)(lists:AO):Option (AL×Bool):= (LK lists (fun a0=>DZ a0 AP AQ AX AY)).bind fun Ov=> some (Ov.1,Ov.2)
def k53:SC:= .seq (.ops [oX 2 (.box 26 (tK 0)) 0,oX 4 Ev 27,oX 5 Cr 4]) (.seq (.ops [oM 6 1 22,oX 7 (.makeFunc (Fn.func 82) #[] #[(tK 2)]) 52,oC 8 75 [(tK 6),(tK 7)] [22,52] 49,oE 9 8 0 27,oE 10 8 1 4,oA 4 9 27,oA 5 10 4]) .ret)
theorem A6o:Tryz.f53.body.map (Bw lends)=some k53:=by kernel_rfl
theorem AJX:CP Tryz.f53 2=true:=by kernel_rfl
theorem c53{a l:List D}{r:D×List D}(h:CG Y.env k53 (FX Ah l.length [ResultVar.tmp 4,ResultVar.tmp 5] r) (entry a l))(ha:a.length=2):Y.call 53 a l=some r:=
 AZ (Y:=Y) rfl Tryz.func53 (ha▸AJX) A6o h
theorem PP(AP:Int)(AQ:Int)(AX:AO)(AY:AO)(lists:AO){r:AL×Bool}(h:HV AP AQ AX AY lists=some r):Y.call 53 [D.agg [D.int .i64 AP,D.int .i64 AQ,D.sl 27 (AV Aw AX),D.sl 27 (AV Aw AY)],D.sl 27 (AV Aw lists)] []=some (D.tup [D.own 3 (AV (D.int .i64) r.1),D.bool r.2],[]):=by
 refine c53 ?_ rfl;unfold k53;unfold HV at h;obtain⟨Ov,hl1,h⟩:=Aa h;try dsimp only at h
 have c1:=UH lists (fun a0=>DZ a0 AP AQ AX AY) 82 [D.cptr [D.int .i64 AP,D.int .i64 AQ,D.sl 27 (AV Aw AX),D.sl 27 (AV Aw AY)]] (fun a0 _ hh=>OV a0 AP AQ AX AY hh) A5O hl1
 obtain rfl:=Option.some.inj h
 simp only [↓AR,AU,↓reduceIte,Nat.reduceEqDiff,Nat.reduceLT,c1]
noncomputable def Fa(c_:AL)(c0__0:Int)(c0__1:Int)(c0__2:AO)(c0__3:AO)(c1_:AL):Option (Bool):= (Qc c1_ c_).bind fun af=> (HV c0__0 c0__1 c0__2 c0__3 af).bind fun yl=> some yl.2
abbrev av:List Nat:=[8,9,10,11,12,7,12,13,14,5,13,12,6,14]
def k52:SC:= .seq (.ops [oX 4 Cr 4]) (.seq (.draws [(⟨[8,1,1],av,[8]⟩,oL 8 26 1 26),(⟨[9,2,2],av,[9]⟩,oL 9 27 2 27),(⟨[10,0,0],av,[10]⟩,oM 10 0 27),(⟨[11,9,10,2,0],av,[11]⟩,oC 11 45 [(tK 9),(tK 10)] [27,27] 22),(⟨[12,8,11,1,11],av,[12]⟩,oC 12 53 [(tK 8),(tK 11)] [26,22] 49),(⟨[7,12,12],av,[7,12]⟩,oM 7 12 49),(⟨[13,7],av,[13]⟩,oE 13 7 0 27),(⟨[14,7],av,[14]⟩,oE 14 7 1 4),(⟨[5,13,12],av,[5,13,12]⟩,oA 5 13 27),(⟨[6,14],av,[6,14]⟩,oA 6 14 4)]) (.seq (.ops [oM 15 6 4,oA 4 15 4]) .ret))
theorem A6p:Tryz.f52.body.map (Bw lends)=some k52:=by kernel_rfl
theorem AJZ:CP Tryz.f52 3=true:=by kernel_rfl
theorem c52{a l:List D}{r:D×List D}(h:CG Y.env k52 (FX Ah l.length [ResultVar.tmp 4] r) (entry a l))(ha:a.length=3):Y.call 52 a l=some r:=
 AZ (Y:=Y) rfl Tryz.func52 (ha▸AJZ) A6p h
theorem Pq(c_:AL)(c0__0:Int)(c0__1:Int)(c0__2:AO)(c0__3:AO)(c1_:AL){r:Bool}(h:Fa c_ c0__0 c0__1 c0__2 c0__3 c1_=some r):Y.call 52 [D.sl 3 (AV (D.int .i64) c_),D.cptr [D.int .i64 c0__0,D.int .i64 c0__1,D.sl 27 (AV Aw c0__2),D.sl 27 (AV Aw c0__3)],D.cptr [D.sl 3 (AV (D.int .i64) c1_)]] []=some (D.bool r,[]):=by
 refine c52 ?_ rfl;unfold k52;unfold Fa at h;obtain⟨af,hl1,h⟩:=Aa h;have c1:=ZJ c1_ c_ hl1;obtain⟨yl,hl2,h⟩:=Aa h;try dsimp only at h
 have c2:=PP c0__0 c0__1 c0__2 c0__3 af hl2
 obtain rfl:=Option.some.inj h
 simp only [↓AR,AU,↓reduceIte,Nat.reduceEqDiff,Nat.reduceLT,c1,c2]
noncomputable def Ll(AP:Int)(AQ:Int)(AX:AO)(AY:AO):Option (Int×Int×AO×AO×AL×Bool):= if AQ=4 then if 6<AP then some (0,0,[],[],[],false) else (Hq AP AQ AX AY).bind fun Nu=> (DR Nu.1 Nu.2.1 Nu.2.2.1 Nu.2.2.2.1 Nu.2.2.2.2).bind fun Z5=> (K6 Z5).bind fun NH=> if(PL (NH.1.length:Int) (1:Int) (8:Int))=true then (Im (NH.1.length:Int) (2:Int) (fun a0=>Fa a0 AP AQ AX AY NH.1)).bind fun R4=> some ((NH.1.length:Int),AQ,NH.2,R4,NH.1,true) else some (0,0,[],[],[],false) else (Hq AP AQ AX AY).bind fun Nu=> (DR Nu.1 Nu.2.1 Nu.2.2.1 Nu.2.2.2.1 Nu.2.2.2.2).bind fun Z5=> (K6 Z5).bind fun NH=> if(PL (NH.1.length:Int) (1:Int) (8:Int))=true then (Im (NH.1.length:Int) (2:Int) (fun a0=>Fa a0 AP AQ AX AY NH.1)).bind fun R4=> some ((NH.1.length:Int),AQ,NH.2,R4,NH.1,true) else some (0,0,[],[],[],false)
abbrev ZP:List Nat:=[33,34,35,36,37,38,39,34,36,37,38,34,6,7,40,2,39,2,39,3,40,5,4]
def k30:SC:= .seq (.ops [oX 1 (.box 26 (tK 0)) 0,oX 2 (.alloc 26) 0,oX 3 Ev 27,oX 4 Cr 4]) (.seq (.seq (.ops [oF 8 26 1 1,oL 9 3 8 3,oB 10 .eql 3 (tK 9) (iK 4) 3 4,oM 11 10 4,⟨(some 12),um,0,(some (some 11,true))⟩,⟨(some 13),(.load 3 (tK 12)),3,(some (some 11,true))⟩,⟨(some 14),(.binOp .gtr 3 (tK 13) (iK 6) 3),4,(some (some 11,true))⟩,oX 15 (.pick (tK 11) (tK 14) OL) 4]) (.cond (tK 15) (.seq (.ops [oX 16 (.build 26 #[]) 26,oS 26 2 16,oX 3 Ev 27,oX 4 Cr 4]) .ret) .skip)) (.seq (.ops [oL 18 26 1 26,oC 19 50 [(tK 18)] [26] 58,oC 20 51 [(tK 19)] [58] 22,oC 21 41 [(tK 20)] [22] 46,oM 17 21 46,oE 22 17 0 27,oE 23 17 1 22,oX 5 (.alloc 27) 0,oS 27 5 22,oA 6 23 22]) (.seq (.seq (.ops [oL 24 27 5 27,oN 25 24 27,oC 26 38 [(tK 25),(iK 1),(iK 8)] [3,3,3] 4,oX 27 (.unOp .not 4 (tK 26)) 4]) (.cond (tK 27) (.seq (.ops [oX 28 (.build 26 #[]) 26,oS 26 2 28,oX 3 Ev 27,oX 4 Cr 4]) .ret) .skip)) (.seq (.ops [oL 29 27 5 27,oN 30 29 27,oX 31 (.makeFunc (Fn.func 52) #[] #[(tK 1),(tK 5)]) 3000002,oC 32 42 [(tK 30),(iK 2),(tK 31)] [3,3,52] 22,oA 7 32 22]) (.seq (.draws [(⟨[33,5,5],ZP,[33]⟩,oL 33 27 5 27),(⟨[34,33,5],ZP,[34]⟩,oN 34 33 27),(⟨[35,1,1],ZP,[35]⟩,oF 35 26 1 1),
 (⟨[36,35,1],ZP,[36]⟩,oL 36 3 35 3),(⟨[37,6,6],ZP,[37]⟩,oM 37 6 22),(⟨[38,7,7],ZP,[38]⟩,oM 38 7 22),(⟨[39,34,36,37,38,34,1,6,7],ZP,[39,34,36,37,38,34,6,7]⟩,oX 39 (.build 26 #[(0,(tK 34)),(1,(tK 36)),(2,(tK 37)),(3,(tK 38))]) 26),(⟨[40,5,5],ZP,[40]⟩,oL 40 27 5 27),(⟨[2,39,2,39],ZP,[2,39,2,39]⟩,oS 26 2 39),(⟨[3,40,5],ZP,[3,40,5]⟩,oA 3 40 27),(⟨[4],ZP,[4]⟩,oX 4 (.assign Kv) 4)]) .ret)))))
theorem A6q:Tryz.f30.body.map (Bw lends)=some k30:=by kernel_rfl
theorem AJb:CP Tryz.f30 1=true:=by kernel_rfl
theorem c30{a l:List D}{r:D×List D}(h:CG Y.env k30 (FX Ah l.length [ResultVar.cell 2 26,ResultVar.tmp 3,ResultVar.tmp 4] r) (entry a l))(ha:a.length=1):Y.call 30 a l=some r:=
 AZ (Y:=Y) rfl Tryz.func30 (ha▸AJb) A6q h
theorem XX(AP:Int)(AQ:Int)(AX:AO)(AY:AO){r:Int×Int×AO×AO×AL×Bool}(h:Ll AP AQ AX AY=some r):Y.call 30 [D.agg [D.int .i64 AP,D.int .i64 AQ,D.sl 27 (AV Aw AX),D.sl 27 (AV Aw AY)]] []=some (D.tup [D.agg [D.int .i64 r.1,D.int .i64 r.2.1,D.own 27 (AV KQ r.2.2.1),D.own 27 (AV KQ r.2.2.2.1)],D.own 3 (AV (D.int .i64) r.2.2.2.2.1),D.bool r.2.2.2.2.2],[]):=by
 refine c30 ?_ rfl;unfold k30;unfold Ll at h;rcases iS h with⟨e1,h⟩|⟨e1,h⟩
 ·rcases iS h with⟨e2,h⟩|⟨e2,h⟩
  ·obtain rfl:=Option.some.inj h
   simp (maxDischargeDepth:=9) only [↓AR,AU,↓reduceIte,Nat.reduceEqDiff,Nat.reduceLT,Nat.reduceAdd,decide_eq_true e1,e2]<;>(repeat' apply A7)<;>first|rfl|exact⟨_,rfl⟩|exact⟨_,_,rfl⟩|simp [AV,Ad]
  ·obtain⟨Nu,hl3,h⟩:=Aa h;have c3:=P9 AP AQ AX AY hl3;obtain⟨Z5,hl4,h⟩:=Aa h;have c4:=Km Nu.1 Nu.2.1 Nu.2.2.1 Nu.2.2.2.1 Nu.2.2.2.2 hl4;obtain⟨NH,hl5,h⟩:=Aa h;have c5:=QZ Z5 hl5;have c6:=Nn (NH.1.length:Int) (1:Int) (8:Int);rcases iS h with⟨e7,h⟩|⟨e7,h⟩
   ·obtain⟨R4,hl8,h⟩:=Aa h;try dsimp only at h
    have c8:=Qb (NH.1.length:Int) (2:Int) (fun a0=>Fa a0 AP AQ AX AY NH.1) 52 [D.cptr [D.int .i64 AP,D.int .i64 AQ,D.sl 27 (AV Aw AX),D.sl 27 (AV Aw AY)],D.cptr [D.sl 3 (AV (D.int .i64) NH.1)]] (fun a0 _ hh=>Pq a0 AP AQ AX AY NH.1 hh) A16 hl8
    obtain rfl:=Option.some.inj h
    simp (maxDischargeDepth:=9) only [↓AR,AU,↓reduceIte,Nat.reduceEqDiff,Nat.reduceLT,Nat.reduceLeDiff,Nat.reduceAdd,Nat.reduceMod,Nat.reduceDiv,Nat.reducePow,Nat.reduceSub,decide_eq_true e1,e2,c3,c4,c5,c6,e7,c8]
   ·have e7f:(PL (NH.1.length:Int) (1:Int) (8:Int))=false:=Ju.mpr e7
    obtain rfl:=Option.some.inj h
    simp (maxDischargeDepth:=9) only [↓AR,AU,↓reduceIte,Nat.reduceEqDiff,Nat.reduceLT,Nat.reduceAdd,decide_eq_true e1,e2,c3,c4,c5,c6,e7f]<;>(repeat' apply A7)<;>first|rfl|exact⟨_,rfl⟩|exact⟨_,_,rfl⟩|simp [AV,Ad]
 ·obtain⟨Nu,hl2,h⟩:=Aa h;have c2:=P9 AP AQ AX AY hl2;obtain⟨Z5,hl3,h⟩:=Aa h;have c3:=Km Nu.1 Nu.2.1 Nu.2.2.1 Nu.2.2.2.1 Nu.2.2.2.2 hl3;obtain⟨NH,hl4,h⟩:=Aa h;have c4:=QZ Z5 hl4;have c5:=Nn (NH.1.length:Int) (1:Int) (8:Int);rcases iS h with⟨e6,h⟩|⟨e6,h⟩
  ·obtain⟨R4,hl7,h⟩:=Aa h;try dsimp only at h
   have c7:=Qb (NH.1.length:Int) (2:Int) (fun a0=>Fa a0 AP AQ AX AY NH.1) 52 [D.cptr [D.int .i64 AP,D.int .i64 AQ,D.sl 27 (AV Aw AX),D.sl 27 (AV Aw AY)],D.cptr [D.sl 3 (AV (D.int .i64) NH.1)]] (fun a0 _ hh=>Pq a0 AP AQ AX AY NH.1 hh) A16 hl7
   obtain rfl:=Option.some.inj h
   simp (maxDischargeDepth:=9) only [↓AR,AU,↓reduceIte,Nat.reduceEqDiff,Nat.reduceLT,Nat.reduceLeDiff,Nat.reduceAdd,Nat.reduceMod,Nat.reduceDiv,Nat.reducePow,Nat.reduceSub,e1,c2,c3,c4,c5,e6,c7]
  ·have e6f:(PL (NH.1.length:Int) (1:Int) (8:Int))=false:=Ju.mpr e6
   obtain rfl:=Option.some.inj h
   simp (maxDischargeDepth:=9) only [↓AR,AU,↓reduceIte,Nat.reduceEqDiff,Nat.reduceLT,Nat.reduceAdd,e1,c2,c3,c4,c5,e6f]<;>(repeat' apply A7)<;>first|rfl|exact⟨_,rfl⟩|exact⟨_,_,rfl⟩|simp [AV,Ad]
noncomputable def NI(AP:Int)(AQ:Int)(AX:AO)(AY:AO):Option (Int×Int×AO×AO×AL×Bool):= ck (BB AX)<| ck (BB AY)<| if(N8 AP AQ AX AY)=true then (Ll AP AQ AX AY).bind fun Mg=> some (Mg.1,Mg.2.1,Mg.2.2.1,Mg.2.2.2.1,Mg.2.2.2.2.1,Mg.2.2.2.2.2) else some (0,0,[],[],[],false)
def k17:SC:= .seq (.ops [oX 1 (.box 26 (tK 0)) 0,oX 2 (.alloc 26) 0,oX 3 Ev 27,oX 4 Cr 4]) (.seq (.seq (.ops [oL 5 26 1 26,oC 6 24 [(tK 5)] [26] 4,oX 7 (.unOp .not 4 (tK 6)) 4]) (.cond (tK 7) (.seq (.ops [oX 8 (.build 26 #[]) 26,oS 26 2 8,oX 3 Ev 27,oX 4 Cr 4]) .ret) .skip)) (.seq (.ops [oL 9 26 1 26,oC 10 30 [(tK 9)] [26] 28,oE 11 10 0 26,oE 12 10 1 27,oE 13 10 2 4,oS 26 2 11,oA 3 12 27,oA 4 13 4]) .ret))
theorem A6r:Tryz.f17.body.map (Bw lends)=some k17:=by kernel_rfl
theorem AJd:CP Tryz.f17 1=true:=by kernel_rfl
theorem rQ{a l:List D}{r:D×List D}(h:CG Y.env k17 (FX Ah l.length [ResultVar.cell 2 26,ResultVar.tmp 3,ResultVar.tmp 4] r) (entry a l))(ha:a.length=1):Y.call 17 a l=some r:=
 AZ (Y:=Y) rfl Tryz.func17 (ha▸AJd) A6r h
theorem XY(AP:Int)(AQ:Int)(AX:AO)(AY:AO){r:Int×Int×AO×AO×AL×Bool}(h:NI AP AQ AX AY=some r):Y.call 17 [D.agg [D.int .i64 AP,D.int .i64 AQ,D.sl 27 (AV Aw AX),D.sl 27 (AV Aw AY)]] []=some (D.tup [D.agg [D.int .i64 r.1,D.int .i64 r.2.1,D.own 27 (AV KQ r.2.2.1),D.own 27 (AV KQ r.2.2.2.1)],D.own 3 (AV (D.int .i64) r.2.2.2.2.1),D.bool r.2.2.2.2.2],[]):=by
 refine rQ ?_ rfl;unfold k17;unfold NI at h;obtain⟨e1,e2,h⟩:=Hw h;have c3:=ZA AP AQ AX AY e1 e2;rcases iS h with⟨e4,h⟩|⟨e4,h⟩
 ·obtain⟨Mg,hl5,h⟩:=Aa h;try dsimp only at h
  have c5:=XX AP AQ AX AY hl5
  obtain rfl:=Option.some.inj h
  simp only [↓AR,AU,↓reduceIte,Nat.reduceEqDiff,Nat.reduceLT,Nat.reduceAdd,c3,e4,c5]
 ·have e4f:(N8 AP AQ AX AY)=false:=Ju.mpr e4
  obtain rfl:=Option.some.inj h
  simp only [↓AR,AU,↓reduceIte,Nat.reduceEqDiff,Nat.reduceLT,Nat.reduceAdd,c3,e4f]<;>(repeat' apply A7)<;>first|rfl|exact⟨_,rfl⟩|exact⟨_,_,rfl⟩|simp [AV,Ad]
noncomputable def VV(AP:Int)(AQ:Int)(AX:AO)(AY:AO)(l:AL):Option (Bool):= ck (l.length<1099511627776)<| ck (AX.length<1099511627776)<| ck ((CY l).length<1099511627776)<| some (AX.contains (CY l))
abbrev vC:List Nat:=[5,6,7,8,9,4,9,9]
def k78:SC:= .seq (.ops [oX 2 (.box 26 (tK 0)) 0,oX 4 Cr 4]) (.seq (.draws [(⟨[5,2,2],vC,[5]⟩,oF 5 26 2 2),(⟨[6,5,2],vC,[6]⟩,oL 6 22 5 22),(⟨[7,1,1],vC,[7]⟩,oM 7 1 27),(⟨[8,7,1],vC,[8]⟩,oC 8 90 [(tK 7)] [27] 27),(⟨[9,6,8,2,8],vC,[9]⟩,oC 9 86 [(tK 6),(tK 8)] [22,27] 4),(⟨[4,9,9],vC,[4,9,9]⟩,oA 4 9 4)]) .ret)
theorem A6s:Tryz.f78.body.map (Bw lends)=some k78:=by kernel_rfl
theorem AJf:CP Tryz.f78 2=true:=by kernel_rfl
theorem c78{a l:List D}{r:D×List D}(h:CG Y.env k78 (FX Ah l.length [ResultVar.tmp 4] r) (entry a l))(ha:a.length=2):Y.call 78 a l=some r:=
 AZ (Y:=Y) rfl Tryz.func78 (ha▸AJf) A6s h
theorem ay(AP:Int)(AQ:Int)(AX:AO)(AY:AO)(l:AL){r:Bool}(h:VV AP AQ AX AY l=some r):Y.call 78 [D.agg [D.int .i64 AP,D.int .i64 AQ,D.sl 27 (AV Aw AX),D.sl 27 (AV Aw AY)],D.sl 3 (AV (D.int .i64) l)] []=some (D.bool r,[]):=by
 refine c78 ?_ rfl;unfold k78;unfold VV at h;obtain⟨e1,h⟩:=EQ h;have c2:=Q5 l e1;obtain⟨e3,e4,h⟩:=Hw h;have c5:=ZG AX (CY l) e3 e4
 obtain rfl:=Option.some.inj h
 simp only [↓AR,AU,↓reduceIte,Nat.reduceEqDiff,Nat.reduceLT,c2,c5]
noncomputable def Gn(AP:Int)(AQ:Int)(AX:AO)(AY:AO)(size:Int)(k:Int):Option ((Int×Int)⊕(Int)):= if k<AQ then some (Sum.inl (IntKind.i64.wrap (size*AP),IntKind.i64.wrap (k+1))) else some (Sum.inr size)
noncomputable def LM(AP:Int)(AQ:Int)(AX:AO)(AY:AO)(v:Int×Int):Option (Int):=Hu (fun v=>Gn AP AQ AX AY v.1 v.2) v
noncomputable def Gp(AP:Int)(AQ:Int)(AX:AO)(AY:AO)(AC:Int)(x_4:List Bool)(JN:Int)(l:AL)(rest:Int):Option ((AL×Int)⊕(AL)):= if(l.length:Int)<AQ then ck (¬AP=0)<| ck (l.length+1<1099511627776)<| some (Sum.inl ((l++[(rest.tmod AP)]),IntKind.i64.wrap (rest.tdiv AP))) else some (Sum.inr l)
noncomputable def LP(AP:Int)(AQ:Int)(AX:AO)(AY:AO)(AC:Int)(x_4:List Bool)(JN:Int)(v:AL×Int):Option (AL):=Hu (fun v=>Gp AP AQ AX AY AC x_4 JN v.1 v.2) v
noncomputable def Gq(AP:Int)(AQ:Int)(AX:AO)(AY:AO)(AC:Int)(x_4:List Bool)(JN:Int):Option (((List Bool)×Int)⊕((List Bool))):= if JN<((List.replicate AC.toNat false).length:Int)then (LP AP AQ AX AY AC x_4 JN ([],JN)).bind fun Ao=> (VV AP AQ AX AY Ao).bind fun UF=> ck (0≤JN∧JN.toNat<x_4.length)<| some (Sum.inl ((x_4.set JN.toNat UF),IntKind.i64.wrap (JN+1))) else some (Sum.inr x_4)
noncomputable def LQ(AP:Int)(AQ:Int)(AX:AO)(AY:AO)(AC:Int)(v:(List Bool)×Int):Option ((List Bool)):=Hu (fun v=>Gq AP AQ AX AY AC v.1 v.2) v
noncomputable def NJ(AP:Int)(AQ:Int)(AX:AO)(AY:AO):Option (Int×Int×AO×AO×(List Bool)):= (LM AP AQ AX AY (1,0)).bind fun AC=> ck (0≤AC∧AC<1099511627776)<| (LQ AP AQ AX AY AC ((List.replicate AC.toNat false),0)).bind fun Lh=> some (AP,AQ,AX,AY,Lh)
def iw:SC:= .seq (.seq (.ops [oM 9 4 3,oF 10 26 1 1,oL 11 3 10 3,oB 12 .lss 3 (tK 9) (tK 11) 3 4]) (.cond (tK 12) .skip (.exit 0))) (.seq (.block 1 (.ops [oM 15 3 3,oF 16 26 1 0,oL 17 3 16 3,oB 18 .mul 3 (tK 15) (tK 17) 3 3,oA 3 18 3])) (.ops [oM 13 4 3,oB 14 .add 3 (tK 13) (iK 1) 3 3,oA 4 14 3]))
def zi:SC:= .loop iw
def iy:SC:= .seq (.seq (.ops [oM 30 7 27,oN 31 30 27,oF 32 26 1 1,oL 33 3 32 3,oB 34 .lss 3 (tK 31) (tK 33) 3 4]) (.cond (tK 34) .skip (.exit 4))) (.seq (.block 5 (.ops [oM 39 7 27,oM 40 8 3,oF 41 26 1 0,oL 42 3 41 3,oB 43 .rem 3 (tK 40) (tK 42) 3 3,oX 44 (.buildSlice 27 1 #[(0,(tK 43))]) 27,oX 45 (.call ⟨(.builtin .append), #[(tK 39),(tK 44)], #[27,27]⟩) 27,oA 7 45 27])) (.ops [oM 35 8 3,oF 36 26 1 0,oL 37 3 36 3,oB 38 .quo 3 (tK 35) (tK 37) 3 3,oA 8 38 3]))
def zk:SC:= .loop iy
abbrev mE:List Nat:=[46,47,48,49,50,51,52,100000,100001,100002,100003,100004,100005,100006,100007,52,51,5,51]
def j3:SC:= .seq (.ops [oB 27 .lss 3 (tK 26) (tK 25) 3 0]) (.seq (.cond (tK 27) .skip (.exit 2)) (.seq (.block 3 (.seq (.ops [oM 28 26 3,oA 6 28 3]) (.seq (.ops [oX 7 Ev 27]) (.seq (.seq (.ops [oM 29 6 3,oA 8 29 3]) (.block 4 zk)) (.draws [(⟨[100000,100001,100002,100003,100004,100005,100006,100007,46,5,5],mE,[46]⟩,oF 46 55 5 1),(⟨[100000,100001,100002,100003,100004,100005,100006,100007,47,46,5],mE,[47]⟩,oL 47 53 46 53),(⟨[48,6,6],mE,[48]⟩,oM 48 6 3),(⟨[100000,100001,100002,100003,100004,100005,100006,100007,49,1,1],mE,[49]⟩,oL 49 26 1 26),(⟨[50,7,7],mE,[50]⟩,oM 50 7 27),(⟨[100000,100001,100002,100003,100004,100005,100006,100007,51,49,50,1,7],mE,[51]⟩,oC 51 78 [(tK 49),(tK 50)] [26,27] 4),(⟨[100000,100001,100002,100003,100004,100005,100006,100007,52,47,48,5,6],mE,[52]⟩,oI 52 53 47 48),(⟨[100000,100001,100002,100003,100004,100005,100006,100007,52,51,5,51],mE,[100000,100001,100002,100003,100004,100005,100006,100007,52,51,5,51]⟩,oS 4 52 51)]))))) (.ops [oB 53 .add 3 (tK 26) (iK 1) 3 3,oM 26 53 3])))
def zm:SC:= .loop j3
abbrev vD:List Nat:=[19,20,21,22,19,21,1,21,5,5,22,5,22]
def k46:SC:= .seq (.ops [oX 1 (.box 26 (tK 0)) 0,oX 2 (.alloc 55) 0]) (.seq (.ops [oX 3 (.assign (iK 1)) 3]) (.seq (.seq (.ops [oX 4 (.assign (iK 0)) 3]) (.block 0 zi)) (.seq (.draws [(⟨[19,1,1],vD,[19]⟩,oL 19 26 1 26),(⟨[20,3,3],vD,[20]⟩,oM 20 3 3),(⟨[21,20,20,3,3],vD,[21]⟩,oX 21 (.makeSlice 53 (tK 20) (tK 20)) 53),(⟨[22,19,21,1,21],vD,[22,19,21,1,21]⟩,oX 22 (.build 55 #[(0,(tK 19)),(1,(tK 21))]) 55),(⟨[5],vD,[5]⟩,oX 5 (.alloc 55) 0),(⟨[5,22,5,22],vD,[5,22,5,22]⟩,oS 55 5 22)]) (.seq (.seq (.ops [oF 23 55 5 1,oL 24 53 23 53,oN 25 24 53,oX 26 (.move (iK 0)) 3]) (.block 2 zm)) (.seq (.ops [oL 54 55 5 55,oS 55 2 54]) .ret)))))
theorem A6t:Tryz.f46.body.map (Bw lends)=some k46:=by kernel_rfl
theorem AJh:CP Tryz.f46 1=true:=by kernel_rfl
theorem c46{a l:List D}{r:D×List D}(h:CG Y.env k46 (FX Ah l.length [ResultVar.cell 2 55] r) (entry a l))(ha:a.length=1):Y.call 46 a l=some r:=
 AZ (Y:=Y) rfl Tryz.func46 (ha▸AJh) A6t h
def Gr(AP:Int)(AQ:Int)(AX:AO)(AY:AO)(size:Int)(k:Int)(s:St):Prop:=s.v 1=D.box [D.int .i64 AP,D.int .i64 AQ,D.sl 27 (AV Aw AX),D.sl 27 (AV Aw AY)]∧s.v 2=D.box [D.int .i64 0,D.int .i64 0,D.own 27 [],D.own 27 [],D.own 4 []]∧s.v 3=D.int .i64 size∧s.v 4=D.int .i64 k
def Lc(AP:Int)(AQ:Int)(AX:AO)(AY:AO)(r:Int)(ex:Ex)(s:St):Prop:=ex= .exit 0∧s.v 1=D.box [D.int .i64 AP,D.int .i64 AQ,D.sl 27 (AV Aw AX),D.sl 27 (AV Aw AY)]∧s.v 2=D.box [D.int .i64 0,D.int .i64 0,D.own 27 [],D.own 27 [],D.own 4 []]∧s.v 3=D.int .i64 r
theorem WT(AP:Int)(AQ:Int)(AX:AO)(AY:AO){v:Int×Int}{s:St}{r:Int}(h:LM AP AQ AX AY v=some r)(hM:Gr AP AQ AX AY v.1 v.2 s):CG Y.env zi (Lc AP AQ AX AY r) s:=by
 unfold LM at h;refine BD (c:=iw) (fun v=>Gn AP AQ AX AY v.1 v.2) (fun v s=>Gr AP AQ AX AY v.1 v.2 s) (Lc AP AQ AX AY) ?_ h hM;clear h hM s v r;intro v s o hM h;obtain⟨size,k⟩:=v;dsimp only at h hM;unfold Gn at h;unfold Gr at hM;obtain⟨m0,m1,m2,m3⟩:=hM;unfold iw;rcases iS h with⟨e1,h⟩|⟨e1,h⟩
 ·obtain rfl:=Option.some.inj h
  simp only [↓AR,AU,↓reduceIte,Nat.reduceEqDiff,Nat.reduceLT,m0,m1,m2,m3,e1,Gr,FV]
 ·obtain rfl:=Option.some.inj h
  simp only [↓AR,AU,↓reduceIte,Nat.reduceEqDiff,Nat.reduceLT,m0,m1,m2,m3,e1,Gr,Lc,KF]
def Gs(AP:Int)(AQ:Int)(AX:AO)(AY:AO)(AC:Int)(x_4:List Bool)(JN:Int)(l:AL)(rest:Int)(s:St):Prop:=s.v 1=D.box [D.int .i64 AP,D.int .i64 AQ,D.sl 27 (AV Aw AX),D.sl 27 (AV Aw AY)]∧s.v 2=D.box [D.int .i64 0,D.int .i64 0,D.own 27 [],D.own 27 [],D.own 4 []]∧s.v 5=D.box [D.int .i64 AP,D.int .i64 AQ,D.sl 27 (AV Aw AX),D.sl 27 (AV Aw AY),D.own 4 (AV D.bool x_4)]∧s.v 6=D.int .i64 JN∧s.v 7=D.own 3 (AV (D.int .i64) l)∧s.v 8=D.int .i64 rest∧s.v 25=D.int .i64 ((List.replicate AC.toNat false).length:Int)∧s.v 26=D.int .i64 JN
def Ld(AP:Int)(AQ:Int)(AX:AO)(AY:AO)(AC:Int)(x_4:List Bool)(JN:Int)(r:AL)(ex:Ex)(s:St):Prop:=ex= .exit 4∧s.v 1=D.box [D.int .i64 AP,D.int .i64 AQ,D.sl 27 (AV Aw AX),D.sl 27 (AV Aw AY)]∧s.v 2=D.box [D.int .i64 0,D.int .i64 0,D.own 27 [],D.own 27 [],D.own 4 []]∧s.v 5=D.box [D.int .i64 AP,D.int .i64 AQ,D.sl 27 (AV Aw AX),D.sl 27 (AV Aw AY),D.own 4 (AV D.bool x_4)]∧s.v 6=D.int .i64 JN∧s.v 7=D.own 3 (AV (D.int .i64) r)∧s.v 25=D.int .i64 ((List.replicate AC.toNat false).length:Int)∧s.v 26=D.int .i64 JN
theorem WU(AP:Int)(AQ:Int)(AX:AO)(AY:AO)(AC:Int)(x_4:List Bool)(JN:Int){v:AL×Int}{s:St}{r:AL}(h:LP AP AQ AX AY AC x_4 JN v=some r)(hM:Gs AP AQ AX AY AC x_4 JN v.1 v.2 s):CG Y.env zk (Ld AP AQ AX AY AC x_4 JN r) s:=by
 unfold LP at h;refine BD (c:=iy) (fun v=>Gp AP AQ AX AY AC x_4 JN v.1 v.2) (fun v s=>Gs AP AQ AX AY AC x_4 JN v.1 v.2 s) (Ld AP AQ AX AY AC x_4 JN) ?_ h hM;clear h hM s v r;intro v s o hM h;obtain⟨l,rest⟩:=v;dsimp only at h hM;unfold Gp at h;unfold Gs at hM;obtain⟨m0,m1,m2,m3,m4,m5,m6,m7⟩:=hM;unfold iy;rcases iS h with⟨e5,h⟩|⟨e5,h⟩
 ·obtain⟨e6,e7,h⟩:=Hw h
  obtain rfl:=Option.some.inj h
  simp only [↓AR,AU,↓reduceIte,Nat.reduceEqDiff,Nat.reduceLT,Nat.reduceLeDiff,m0,m1,m2,m3,m4,m5,m6,m7,e5,e6,e7,Gs,FV]
 ·obtain rfl:=Option.some.inj h
  simp only [↓AR,AU,↓reduceIte,Nat.reduceEqDiff,Nat.reduceLT,m0,m1,m2,m3,m4,m6,m7,e5,Gs,Ld,KF]
def Gt(AP:Int)(AQ:Int)(AX:AO)(AY:AO)(AC:Int)(x_4:List Bool)(JN:Int)(s:St):Prop:=s.v 1=D.box [D.int .i64 AP,D.int .i64 AQ,D.sl 27 (AV Aw AX),D.sl 27 (AV Aw AY)]∧s.v 2=D.box [D.int .i64 0,D.int .i64 0,D.own 27 [],D.own 27 [],D.own 4 []]∧s.v 5=D.box [D.int .i64 AP,D.int .i64 AQ,D.sl 27 (AV Aw AX),D.sl 27 (AV Aw AY),D.own 4 (AV D.bool x_4)]∧s.v 25=D.int .i64 ((List.replicate AC.toNat false).length:Int)∧s.v 26=D.int .i64 JN
def Le(AP:Int)(AQ:Int)(AX:AO)(AY:AO)(AC:Int)(r:(List Bool))(ex:Ex)(s:St):Prop:=ex= .exit 2∧s.v 2=D.box [D.int .i64 0,D.int .i64 0,D.own 27 [],D.own 27 [],D.own 4 []]∧s.v 5=D.box [D.int .i64 AP,D.int .i64 AQ,D.sl 27 (AV Aw AX),D.sl 27 (AV Aw AY),D.own 4 (AV D.bool r)]
theorem WV(AP:Int)(AQ:Int)(AX:AO)(AY:AO)(AC:Int){v:(List Bool)×Int}{s:St}{r:(List Bool)}(h:LQ AP AQ AX AY AC v=some r)(hM:Gt AP AQ AX AY AC v.1 v.2 s):CG Y.env zm (Le AP AQ AX AY AC r) s:=by
 unfold LQ at h;refine BD (c:=j3) (fun v=>Gq AP AQ AX AY AC v.1 v.2) (fun v s=>Gt AP AQ AX AY AC v.1 v.2 s) (Le AP AQ AX AY AC) ?_ h hM;clear h hM s v r;intro v s o hM h;obtain⟨x_4,JN⟩:=v;dsimp only at h hM;unfold Gq at h;unfold Gt at hM;obtain⟨m0,m1,m2,m3,m4⟩:=hM;unfold j3;rcases iS h with⟨e4,h⟩|⟨e4,h⟩
 ·obtain⟨Ao,hl6,h⟩:=Aa h;try dsimp only at h
  simp only [↓AR,AU,↓reduceIte,Nat.reduceEqDiff,Nat.reduceLT,m3,m4,e4];refine Ai (WU AP AQ AX AY AC x_4 JN hl6 ?_) ?_
  ·simp only [Bd,↓reduceIte,Nat.reduceEqDiff,m0,m1,m2,m3,m4,Gs]<;>(repeat' apply A7)<;>first|rfl|exact⟨_,rfl⟩|exact⟨_,_,rfl⟩|simp [AV,Ad]
  ·intro ex6 s6 hX6;unfold Ld at hX6;obtain⟨rfl,n6_0,n6_1,n6_2,n6_3,n6_4,n6_5,n6_6⟩:=hX6;obtain⟨UF,hl7,h⟩:=Aa h;have c7:=ay AP AQ AX AY Ao hl7;obtain⟨e8,h⟩:=EQ h
   obtain rfl:=Option.some.inj h
   simp only [↓AR,AU,↓reduceIte,Nat.reduceEqDiff,Nat.reduceLT,n6_0,n6_1,n6_2,n6_3,n6_4,n6_5,n6_6,c7,e8.1,e8.2,Gt,FV]
 ·obtain rfl:=Option.some.inj h
  simp only [↓AR,AU,↓reduceIte,Nat.reduceEqDiff,Nat.reduceLT,m1,m2,m3,m4,e4,Gt,Le,KF]
theorem RL(AP:Int)(AQ:Int)(AX:AO)(AY:AO){r:Int×Int×AO×AO×(List Bool)}(h:NJ AP AQ AX AY=some r):Y.call 46 [D.agg [D.int .i64 AP,D.int .i64 AQ,D.sl 27 (AV Aw AX),D.sl 27 (AV Aw AY)]] []=some (D.agg [D.int .i64 r.1,D.int .i64 r.2.1,D.sl 27 (AV Aw r.2.2.1),D.sl 27 (AV Aw r.2.2.2.1),D.own 4 (AV D.bool r.2.2.2.2)],[]):=by
 refine c46 ?_ rfl;unfold k46;unfold NJ at h;obtain⟨AC,hl2,h⟩:=Aa h;try dsimp only at h
 simp only [↓AR,AU,↓reduceIte,Nat.reduceEqDiff,Nat.reduceLT];refine Ai (WT AP AQ AX AY hl2 ?_) ?_
 ·simp only [Bd,↓reduceIte,Nat.reduceEqDiff,Gr]
 ·intro ex2 s2 hX2;unfold Lc at hX2;obtain⟨rfl,n2_0,n2_1,n2_2⟩:=hX2;obtain⟨e3,h⟩:=EQ h;obtain⟨Lh,hl5,h⟩:=Aa h;try dsimp only at h
  simp only [↓AR,AU,↓reduceIte,Nat.reduceEqDiff,Nat.reduceLeDiff,n2_0,n2_2,e3.1,e3.2];refine Ai (WV AP AQ AX AY AC hl5 ?_) ?_
  ·simp only [Bd,↓reduceIte,Nat.reduceEqDiff,n2_0,n2_1,Gt]
  ·intro ex5 s5 hX5;unfold Le at hX5;obtain⟨rfl,n5_0,n5_1⟩:=hX5
   obtain rfl:=Option.some.inj h
   simp only [↓AR,AU,↓reduceIte,Nat.reduceEqDiff,n5_0,n5_1]
noncomputable def EM(t0_p:Int)(t0_good:Int)(t0_2:AO)(t0_3:AO)(t0_4:List Bool)(Eb:Int)(vg:Int)(O8:Int):Option ((Int×Int)⊕(Int)):= if O8<t0_p then ck (0≤IntKind.i64.wrap ((IntKind.i64.wrap (Eb*t0_p))+O8)∧(IntKind.i64.wrap ((IntKind.i64.wrap (Eb*t0_p))+O8)).toNat<t0_4.length)<| if(t0_4.getD ((IntKind.i64.wrap ((IntKind.i64.wrap (Eb*t0_p))+O8)).toNat) default)=true then ck (¬O8<0)<| some (Sum.inl (IntKind.i64.wrap (vg+(IntKind.i64.wrap (1*2 ^ (min O8.toNat (IntKind.i64.bits))))),IntKind.i64.wrap (O8+1))) else some (Sum.inl (vg,IntKind.i64.wrap (O8+1))) else some (Sum.inr vg)
noncomputable def Jm(t0_p:Int)(t0_good:Int)(t0_2:AO)(t0_3:AO)(t0_4:List Bool)(Eb:Int)(v:Int×Int):Option (Int):=Hu (fun v=>EM t0_p t0_good t0_2 t0_3 t0_4 Eb v.1 v.2) v
noncomputable def EN(rec_:Int→Int→AO→AO→(List Bool)→AL→Int→Option Int)(t0_p:Int)(t0_good:Int)(t0_2:AO)(t0_3:AO)(t0_4:List Bool)(EX:AL)(Eb:Int)(Oz:AL)(PM:Int)(j4:Int):Option ((Int×Int)⊕(Int)):= if j4<(Oz.length:Int)then ck (0≤j4∧j4.toNat<Oz.length)<| if 0<PM then ck (1≤EX.length)<| (rec_ t0_p t0_good t0_2 t0_3 t0_4 ((EX.take EX.length).drop 1) (IntKind.i64.wrap ((IntKind.i64.wrap (Eb*t0_p))+(Oz.getD j4.toNat default)))).bind fun zU=> some (Sum.inl (Ml .and .i64 PM zU,IntKind.i64.wrap (j4+1))) else some (Sum.inl (PM,IntKind.i64.wrap (j4+1))) else some (Sum.inr PM)
noncomputable def Jn(rec_:Int→Int→AO→AO→(List Bool)→AL→Int→Option Int)(t0_p:Int)(t0_good:Int)(t0_2:AO)(t0_3:AO)(t0_4:List Bool)(EX:AL)(Eb:Int)(Oz:AL)(v:Int×Int):Option (Int):=Hu (fun v=>EN rec_ t0_p t0_good t0_2 t0_3 t0_4 EX Eb Oz v.1 v.2) v
noncomputable def Eu(rec_:Int→Int→AO→AO→(List Bool)→AL→Int→Option Int)(t0_p:Int)(t0_good:Int)(t0_2:AO)(t0_3:AO)(t0_4:List Bool)(EX:AL)(Eb:Int):Option (Int):= if(EX.length:Int)=0 then (Jm t0_p t0_good t0_2 t0_3 t0_4 Eb (0,0)).bind fun AC=> some AC else ck (¬t0_p<0)<| ck (0<EX.length)<| (NE (EX.getD 0 default)).bind fun Oz=> (Jn rec_ t0_p t0_good t0_2 t0_3 t0_4 EX Eb Oz (IntKind.i64.wrap ((IntKind.i64.wrap (1*2 ^ (min t0_p.toNat (IntKind.i64.bits))))-1),0)).bind fun Ao=> some Ao
noncomputable def Cf:Nat→Int→Int→AO→AO→(List Bool)→AL→Int→Option Int |0=>fun _ _ _ _ _ _ _=>none |n+1=>fun t0_p t0_good t0_2 t0_3 t0_4 EX Eb=>Eu (Cf n) t0_p t0_good t0_2 t0_3 t0_4 EX Eb
noncomputable def Mc(t0_p:Int)(t0_good:Int)(t0_2:AO)(t0_3:AO)(t0_4:List Bool)(EX:AL)(Eb:Int):Option (Int):=Cf 1000000 t0_p t0_good t0_2 t0_3 t0_4 EX Eb
def j5:SC:= .seq (.seq (.ops [oM 15 8 3,oF 16 55 3 0,oF 17 26 16 0,oL 18 3 17 3,oB 19 .lss 3 (tK 15) (tK 18) 3 4]) (.cond (tK 19) .skip (.exit 0))) (.seq (.block 1 (.seq (.ops [oF 22 55 3 1,oL 23 53 22 53,oM 24 2 3,oF 25 55 3 0,oF 26 26 25 0,oL 27 3 26 3,oB 28 .mul 3 (tK 24) (tK 27) 3 3,oM 29 8 3,oB 30 .add 3 (tK 28) (tK 29) 3 3,oI 31 53 23 30,oL 32 4 31 4]) (.cond (tK 32) (.ops [oM 33 7 3,oM 34 8 3,oB 35 .shl 3 (iK 1) (tK 34) 3 3,oB 36 .add 3 (tK 33) (tK 35) 3 3,oA 7 36 3]) .skip))) (.ops [oM 20 8 3,oB 21 .add 3 (tK 20) (iK 1) 3 3,oA 8 21 3]))
def zn:SC:= .loop j5
abbrev VW:List Nat:=[54,55,56,57,58,59,60,61,62,63,64,65,66,9,66]
def j6:SC:= .seq (.ops [oB 49 .lss 3 (tK 48) (tK 47) 3 0]) (.seq (.cond (tK 49) .skip (.exit 2)) (.seq (.block 3 (.seq (.ops [oI 50 27 46 48,oL 51 3 50 3,oA 11 51 3]) (.seq (.ops [oM 52 9 3,oB 53 .gtr 3 (tK 52) (iK 0) 3 4]) (.cond (tK 53) (.draws [(⟨[54,9,9],VW,[54]⟩,oM 54 9 3),(⟨[55,3,3],VW,[55]⟩,oL 55 55 3 55),(⟨[56,1,1],VW,[56]⟩,oM 56 1 27),(⟨[57,56,1],VW,[57]⟩,oX 57 (.slice 27 (tK 56) (some (iK 1)) none none) 27),(⟨[58,2,2],VW,[58]⟩,oM 58 2 3),(⟨[59,3,3],VW,[59]⟩,oF 59 55 3 0),(⟨[60,59,3],VW,[60]⟩,oF 60 26 59 0),(⟨[61,60,3],VW,[61]⟩,oL 61 3 60 3),(⟨[62,58,61,2,3],VW,[62]⟩,oB 62 .mul 3 (tK 58) (tK 61) 3 3),(⟨[63,11,11],VW,[63]⟩,oM 63 11 3),(⟨[64,62,63,62,11],VW,[64]⟩,oB 64 .add 3 (tK 62) (tK 63) 3 3),(⟨[65,55,57,64,3,1,64],VW,[65]⟩,oC 65 48 [(tK 55),(tK 57),(tK 64)] [55,27,3] 3),(⟨[66,54,65,9,65],VW,[66]⟩,oB 66 .and 3 (tK 54) (tK 65) 3 3),(⟨[9,66,66],VW,[9,66]⟩,oA 9 66 3)]) .skip)))) (.ops [oB 67 .add 3 (tK 48) (iK 1) 3 3,oM 48 67 3])))
def zo:SC:= .loop j6
def k48:SC:= .seq (.ops [oX 3 (.box 55 (tK 0)) 0,oX 6 (.assign (iK 0)) 3]) (.seq (.seq (.ops [oM 12 1 27,oN 13 12 27,oB 14 .eql 3 (tK 13) (iK 0) 3 4]) (.cond (tK 14) (.seq (.ops [oX 7 (.assign (iK 0)) 3]) (.seq (.seq (.ops [oX 8 (.assign (iK 0)) 3]) (.block 0 zn)) (.seq (.ops [oM 37 7 3,oA 6 37 3]) .ret))) .skip)) (.seq (.ops [oF 38 55 3 0,oF 39 26 38 0,oL 40 3 39 3,oB 41 .shl 3 (iK 1) (tK 40) 3 3,oB 42 .sub 3 (tK 41) (iK 1) 3 3,oA 9 42 3]) (.seq (.seq (.ops [oM 43 1 27,oX 44 (.indexAddr 27 (tK 43) (iK 0)) 0,oL 45 3 44 3,oC 46 56 [(tK 45)] [3] 27,oN 47 46 27,oX 48 (.move (iK 0)) 3]) (.block 2 zo)) (.seq (.ops [oM 68 9 3,oA 6 68 3]) .ret))))
theorem A6u:Tryz.f48.body.map (Bw lends)=some k48:=by kernel_rfl
theorem AJj:CP Tryz.f48 3=true:=by kernel_rfl
theorem c48{a l:List D}{r:D×List D}(h:CG Y.env k48 (FX Ah l.length [ResultVar.tmp 6] r) (entry a l))(ha:a.length=3):Y.call 48 a l=some r:=
 AZ (Y:=Y) rfl Tryz.func48 (ha▸AJj) A6u h
def Df(t0_p:Int)(t0_good:Int)(t0_2:AO)(t0_3:AO)(t0_4:List Bool)(Eb:Int)(vg:Int)(O8:Int)(s:St):Prop:=s.v 2=D.int .i64 Eb∧s.v 3=D.box [D.int .i64 t0_p,D.int .i64 t0_good,D.sl 27 (AV Aw t0_2),D.sl 27 (AV Aw t0_3),D.sl 4 (AV D.bool t0_4)]∧s.v 7=D.int .i64 vg∧s.v 8=D.int .i64 O8
def Hy(t0_p:Int)(t0_good:Int)(t0_2:AO)(t0_3:AO)(t0_4:List Bool)(Eb:Int)(r:Int)(ex:Ex)(s:St):Prop:=ex= .exit 0∧s.v 7=D.int .i64 r
theorem SS(t0_p:Int)(t0_good:Int)(t0_2:AO)(t0_3:AO)(t0_4:List Bool)(Eb:Int){v:Int×Int}{s:St}{r:Int}(h:Jm t0_p t0_good t0_2 t0_3 t0_4 Eb v=some r)(hM:Df t0_p t0_good t0_2 t0_3 t0_4 Eb v.1 v.2 s):CG Y.env zn (Hy t0_p t0_good t0_2 t0_3 t0_4 Eb r) s:=by
 unfold Jm at h;refine BD (c:=j5) (fun v=>EM t0_p t0_good t0_2 t0_3 t0_4 Eb v.1 v.2) (fun v s=>Df t0_p t0_good t0_2 t0_3 t0_4 Eb v.1 v.2 s) (Hy t0_p t0_good t0_2 t0_3 t0_4 Eb) ?_ h hM;clear h hM s v r;intro v s o hM h;obtain⟨vg,O8⟩:=v;dsimp only at h hM;unfold EM at h;unfold Df at hM;obtain⟨m0,m1,m2,m3⟩:=hM;unfold j5;rcases iS h with⟨e2,h⟩|⟨e2,h⟩
 ·obtain⟨e3,h⟩:=EQ h;rcases iS h with⟨e4,h⟩|⟨e4,h⟩
  ·obtain⟨e5,h⟩:=EQ h
   obtain rfl:=Option.some.inj h
   simp only [↓AR,AU,↓reduceIte,Nat.reduceEqDiff,Nat.reduceLT,m0,m1,m2,m3,e2,e3.1,e3.2,e4,e5,Df,FV]
  ·have e4f:(t0_4.getD ((IntKind.i64.wrap ((IntKind.i64.wrap (Eb*t0_p))+O8)).toNat) default)=false:=Ju.mpr e4
   obtain rfl:=Option.some.inj h
   simp only [↓AR,AU,↓reduceIte,Nat.reduceEqDiff,Nat.reduceLT,m0,m1,m2,m3,e2,e3.1,e3.2,e4f,Df,FV]
 ·obtain rfl:=Option.some.inj h
  simp only [↓AR,AU,↓reduceIte,Nat.reduceEqDiff,Nat.reduceLT,m1,m2,m3,e2,Df,Hy,KF]
def Dh(rec_:Int→Int→AO→AO→(List Bool)→AL→Int→Option Int)(t0_p:Int)(t0_good:Int)(t0_2:AO)(t0_3:AO)(t0_4:List Bool)(EX:AL)(Eb:Int)(Oz:AL)(PM:Int)(j4:Int)(s:St):Prop:=s.v 1=D.sl 3 (AV (D.int .i64) EX)∧s.v 2=D.int .i64 Eb∧s.v 3=D.box [D.int .i64 t0_p,D.int .i64 t0_good,D.sl 27 (AV Aw t0_2),D.sl 27 (AV Aw t0_3),D.sl 4 (AV D.bool t0_4)]∧s.v 9=D.int .i64 PM∧s.v 46=D.own 3 (AV (D.int .i64) Oz)∧s.v 47=D.int .i64 (Oz.length:Int)∧s.v 48=D.int .i64 j4
def Hz(rec_:Int→Int→AO→AO→(List Bool)→AL→Int→Option Int)(t0_p:Int)(t0_good:Int)(t0_2:AO)(t0_3:AO)(t0_4:List Bool)(EX:AL)(Eb:Int)(Oz:AL)(r:Int)(ex:Ex)(s:St):Prop:=ex= .exit 2∧s.v 9=D.int .i64 r
theorem SV(rec_:Int→Int→AO→AO→(List Bool)→AL→Int→Option Int)(t0_p:Int)(t0_good:Int)(t0_2:AO)(t0_3:AO)(t0_4:List Bool)(EX:AL)(Eb:Int)(Oz:AL)(rec_h: ∀(t0_p:Int) (t0_good:Int) (t0_2:AO) (t0_3:AO) (t0_4:List Bool) (EX:AL) (Eb:Int) (r:Int),rec_ t0_p t0_good t0_2 t0_3 t0_4 EX Eb=some r→Y.call 48 [D.agg [D.int .i64 t0_p,D.int .i64 t0_good,D.sl 27 (AV Aw t0_2),D.sl 27 (AV Aw t0_3),D.sl 4 (AV D.bool t0_4)],D.sl 3 (AV (D.int .i64) EX),D.int .i64 Eb] []=some (D.int .i64 r,[])){v:Int×Int}{s:St}{r:Int}(h:Jn rec_ t0_p t0_good t0_2 t0_3 t0_4 EX Eb Oz v=some r)(hM:Dh rec_ t0_p t0_good t0_2 t0_3 t0_4 EX Eb Oz v.1 v.2 s):CG Y.env zo (Hz rec_ t0_p t0_good t0_2 t0_3 t0_4 EX Eb Oz r) s:=by
 unfold Jn at h;refine BD (c:=j6) (fun v=>EN rec_ t0_p t0_good t0_2 t0_3 t0_4 EX Eb Oz v.1 v.2) (fun v s=>Dh rec_ t0_p t0_good t0_2 t0_3 t0_4 EX Eb Oz v.1 v.2 s) (Hz rec_ t0_p t0_good t0_2 t0_3 t0_4 EX Eb Oz) ?_ h hM;clear h hM s v r;intro v s o hM h;obtain⟨PM,j4⟩:=v;dsimp only at h hM;unfold EN at h;unfold Dh at hM;obtain⟨m0,m1,m2,m3,m4,m5,m6⟩:=hM;unfold j6;rcases iS h with⟨e5,h⟩|⟨e5,h⟩
 ·obtain⟨e6,h⟩:=EQ h;rcases iS h with⟨e7,h⟩|⟨e7,h⟩
  ·obtain⟨e8,h⟩:=EQ h;obtain⟨zU,hl9,h⟩:=Aa h;try dsimp only at h
   have c9:=rec_h _ _ _ _ _ _ _ _ hl9
   obtain rfl:=Option.some.inj h
   simp only [↓AR,AU,↓reduceIte,Nat.reduceEqDiff,Nat.reduceLT,Int.reduceLE,Int.reduceToNat,m0,m1,m2,m3,m4,m5,m6,e5,e6.1,e6.2,e7,e8,c9,Dh,FV]
  ·obtain rfl:=Option.some.inj h
   simp only [↓AR,AU,↓reduceIte,Nat.reduceEqDiff,Nat.reduceLT,m0,m1,m2,m3,m4,m5,m6,e5,e6.1,e6.2,e7,Dh,FV]
 ·obtain rfl:=Option.some.inj h
  simp only [↓AR,AU,↓reduceIte,Nat.reduceEqDiff,Nat.reduceLT,m3,m5,m6,e5,Dh,Hz,KF]
theorem RZ(rec_:Int→Int→AO→AO→(List Bool)→AL→Int→Option Int)(t0_p:Int)(t0_good:Int)(t0_2:AO)(t0_3:AO)(t0_4:List Bool)(EX:AL)(Eb:Int)(rec_h: ∀(t0_p:Int) (t0_good:Int) (t0_2:AO) (t0_3:AO) (t0_4:List Bool) (EX:AL) (Eb:Int) (r:Int),rec_ t0_p t0_good t0_2 t0_3 t0_4 EX Eb=some r→Y.call 48 [D.agg [D.int .i64 t0_p,D.int .i64 t0_good,D.sl 27 (AV Aw t0_2),D.sl 27 (AV Aw t0_3),D.sl 4 (AV D.bool t0_4)],D.sl 3 (AV (D.int .i64) EX),D.int .i64 Eb] []=some (D.int .i64 r,[])){r:Int}(h:Eu rec_ t0_p t0_good t0_2 t0_3 t0_4 EX Eb=some r):Y.call 48 [D.agg [D.int .i64 t0_p,D.int .i64 t0_good,D.sl 27 (AV Aw t0_2),D.sl 27 (AV Aw t0_3),D.sl 4 (AV D.bool t0_4)],D.sl 3 (AV (D.int .i64) EX),D.int .i64 Eb] []=some (D.int .i64 r,[]):=by
 refine c48 ?_ rfl;unfold k48;unfold Eu at h;rcases iS h with⟨e1,h⟩|⟨e1,h⟩
 ·obtain⟨AC,hl3,h⟩:=Aa h;try dsimp only at h
  simp only [↓AR,AU,↓reduceIte,Nat.reduceEqDiff,Nat.reduceLT,decide_eq_true e1];refine Ai (SS t0_p t0_good t0_2 t0_3 t0_4 Eb hl3 ?_) ?_
  ·simp only [Bd,Da,↓reduceIte,Nat.reduceEqDiff,Nat.reduceLT,Df]
  ·intro ex3 s3 hX3;unfold Hy at hX3;obtain⟨rfl,n3_0⟩:=hX3
   obtain rfl:=Option.some.inj h
   simp only [↓AR,AU,↓reduceIte,Nat.reduceEqDiff,Nat.reduceLT,n3_0]
 ·obtain⟨e2,e3,h⟩:=Hw h;obtain⟨Oz,hl4,h⟩:=Aa h;have c4:=RJ (EX.getD 0 default) hl4;obtain⟨Ao,hl6,h⟩:=Aa h;try dsimp only at h
  simp only [↓AR,AU,↓reduceIte,Nat.reduceEqDiff,Nat.reduceLT,e1,e2,e3,c4];refine Ai (SV rec_ t0_p t0_good t0_2 t0_3 t0_4 EX Eb Oz rec_h hl6 ?_) ?_
  ·simp only [Bd,Da,↓reduceIte,Nat.reduceEqDiff,Nat.reduceLT,Dh]
  ·intro ex6 s6 hX6;unfold Hz at hX6;obtain⟨rfl,n6_0⟩:=hX6
   obtain rfl:=Option.some.inj h
   simp only [↓AR,AU,↓reduceIte,Nat.reduceEqDiff,Nat.reduceLT,n6_0]
theorem Ra(n:Nat): ∀(t0_p:Int) (t0_good:Int) (t0_2:AO) (t0_3:AO) (t0_4:List Bool) (EX:AL) (Eb:Int) (r:Int),Cf n t0_p t0_good t0_2 t0_3 t0_4 EX Eb=some r→Y.call 48 [D.agg [D.int .i64 t0_p,D.int .i64 t0_good,D.sl 27 (AV Aw t0_2),D.sl 27 (AV Aw t0_3),D.sl 4 (AV D.bool t0_4)],D.sl 3 (AV (D.int .i64) EX),D.int .i64 Eb] []=some (D.int .i64 r,[]):=by
 induction n with
 |zero=>intro t0_p t0_good t0_2 t0_3 t0_4 EX Eb r h;exact absurd h (by rw [Cf];exact fun e=>by cases e)
 |succ n ih=>intro t0_p t0_good t0_2 t0_3 t0_4 EX Eb r h;rw [Cf]at h;exact RZ (Cf n) t0_p t0_good t0_2 t0_3 t0_4 EX Eb ih h
theorem OE(t0_p:Int)(t0_good:Int)(t0_2:AO)(t0_3:AO)(t0_4:List Bool)(EX:AL)(Eb:Int){r:Int}(h:Mc t0_p t0_good t0_2 t0_3 t0_4 EX Eb=some r):Y.call 48 [D.agg [D.int .i64 t0_p,D.int .i64 t0_good,D.sl 27 (AV Aw t0_2),D.sl 27 (AV Aw t0_3),D.sl 4 (AV D.bool t0_4)],D.sl 3 (AV (D.int .i64) EX),D.int .i64 Eb] []=some (D.int .i64 r,[]):=Ra 1000000 t0_p t0_good t0_2 t0_3 t0_4 EX Eb r h
noncomputable def FW(x_p:Int)(x_good:Int)(x_2:AO)(x_3:AO)(x_4:List Bool)(sets:AL)(Ij:Int):Option ((Int)⊕(Unit⊕Unit)):= if Ij<(sets.length:Int)then ck (0≤Ij∧Ij.toNat<sets.length)<| ck (0≤Ij)<| ck (Ij.toNat≤sets.length)<| (NS ((sets.take Ij.toNat).drop 0)).bind fun H7=> ck (0≤IntKind.i64.wrap (Ij+1))<| ck ((IntKind.i64.wrap (Ij+1)).toNat≤sets.length)<| ck (H7.length+((sets.take sets.length).drop ((IntKind.i64.wrap (Ij+1)).toNat)).length<1099511627776)<| (Mc x_p x_good x_2 x_3 x_4 (H7++((sets.take sets.length).drop ((IntKind.i64.wrap (Ij+1)).toNat))) (0:Int)).bind fun WE=> if WE=(sets.getD Ij.toNat default)then some (Sum.inl (IntKind.i64.wrap (Ij+1))) else some (Sum.inr (Sum.inl ())) else some (Sum.inr (Sum.inr ()))
noncomputable def Jo(x_p:Int)(x_good:Int)(x_2:AO)(x_3:AO)(x_4:List Bool)(sets:AL)(v:Int):Option (Unit⊕Unit):=Hu (fun v=>FW x_p x_good x_2 x_3 x_4 sets v) v
noncomputable def Ig(x_p:Int)(x_good:Int)(x_2:AO)(x_3:AO)(x_4:List Bool)(sets:AL):Option (Bool):=
 (Jo x_p x_good x_2 x_3 x_4 sets 0).bind fun AC=>
 match AC with
 | .inl q1000_=>
  some false
 | .inr q1000_=>
  some true
abbrev az:List Nat:=[15,16,17,18,19,20,21,22,23,18,22,18,1,7,23,23]
def jA:SC:= .seq (.ops [oB 11 .lss 3 (tK 10) (tK 9) 3 0]) (.seq (.cond (tK 11) .skip (.exit 0)) (.seq (.block 1 (.seq (.ops [oM 12 10 3,oI 13 27 8 10,oL 14 3 13 3,oA 5 12 3,oA 6 14 3]) (.seq (.draws [(⟨[15,1,1],az,[15]⟩,oM 15 1 27),(⟨[16,5,5],az,[16]⟩,oM 16 5 3),(⟨[17,15,16,1,5],az,[17]⟩,oX 17 (.slice 27 (tK 15) none (some (tK 16)) none) 27),(⟨[18,17,1],az,[18]⟩,oC 18 79 [(tK 17)] [27] 27),(⟨[19,1,1],az,[19]⟩,oM 19 1 27),(⟨[20,5,5],az,[20]⟩,oM 20 5 3),(⟨[21,20,5],az,[21]⟩,oB 21 .add 3 (tK 20) (iK 1) 3 3),(⟨[22,19,21,1,21],az,[22]⟩,oX 22 (.slice 27 (tK 19) (some (tK 21)) none none) 27),(⟨[23,18,22,18,1],az,[23,18,22,18,1]⟩,oX 23 (.call ⟨(.builtin .append), #[(tK 18),(tK 22)], #[27,27]⟩) 27),(⟨[7,23,23],az,[7,23,23]⟩,oA 7 23 27)]) (.seq (.ops [oL 24 55 2 55,oM 25 7 27,oC 26 48 [(tK 24),(tK 25),(iK 0)] [55,27,3] 3,oM 27 6 3,oB 28 .neq 3 (tK 26) (tK 27) 3 4]) (.cond (tK 28) (.seq (.ops [oX 4 Cr 4]) .ret) .skip))))) (.ops [oB 29 .add 3 (tK 10) (iK 1) 3 3,oM 10 29 3])))
def zq:SC:= .loop jA
def k49:SC:= .seq (.ops [oX 2 (.box 55 (tK 0)) 0,oX 4 Cr 4]) (.seq (.seq (.ops [oM 8 1 27,oN 9 8 27,oX 10 (.move (iK 0)) 3]) (.block 0 zq)) (.seq (.ops [oX 4 (.assign Kv) 4]) .ret))
theorem A6v:Tryz.f49.body.map (Bw lends)=some k49:=by kernel_rfl
theorem AJl:CP Tryz.f49 2=true:=by kernel_rfl
theorem c49{a l:List D}{r:D×List D}(h:CG Y.env k49 (FX Ah l.length [ResultVar.tmp 4] r) (entry a l))(ha:a.length=2):Y.call 49 a l=some r:=
 AZ (Y:=Y) rfl Tryz.func49 (ha▸AJl) A6v h
def Di(x_p:Int)(x_good:Int)(x_2:AO)(x_3:AO)(x_4:List Bool)(sets:AL)(Ij:Int)(s:St):Prop:=s.v 1=D.sl 3 (AV (D.int .i64) sets)∧s.v 2=D.box [D.int .i64 x_p,D.int .i64 x_good,D.sl 27 (AV Aw x_2),D.sl 27 (AV Aw x_3),D.sl 4 (AV D.bool x_4)]∧s.v 8=D.sl 3 (AV (D.int .i64) sets)∧s.v 9=D.int .i64 (sets.length:Int)∧s.v 10=D.int .i64 Ij
def EO(x_p:Int)(x_good:Int)(x_2:AO)(x_3:AO)(x_4:List Bool)(sets:AL)(r:Unit⊕Unit)(ex:Ex)(s:St):Prop:=match r with
 | .inl q=>ex= .ret∧s.v 4=D.bool false
 | .inr q=>ex= .exit 0
theorem SX(x_p:Int)(x_good:Int)(x_2:AO)(x_3:AO)(x_4:List Bool)(sets:AL){v:Int}{s:St}{r:Unit⊕Unit}(h:Jo x_p x_good x_2 x_3 x_4 sets v=some r)(hM:Di x_p x_good x_2 x_3 x_4 sets v s):CG Y.env zq (EO x_p x_good x_2 x_3 x_4 sets r) s:=by
 unfold Jo at h;refine BD (c:=jA) (fun v=>FW x_p x_good x_2 x_3 x_4 sets v) (fun v s=>Di x_p x_good x_2 x_3 x_4 sets v s) (EO x_p x_good x_2 x_3 x_4 sets) ?_ h hM;clear h hM s v r;intro Ij s o hM h;unfold FW at h;unfold Di at hM;obtain⟨m0,m1,m2,m3,m4⟩:=hM;unfold jA;rcases iS h with⟨e1,h⟩|⟨e1,h⟩
 ·obtain⟨e2,e3,e4,h⟩:=XE h;obtain⟨H7,hl5,h⟩:=Aa h;have c5:=OQ ((sets.take Ij.toNat).drop 0) hl5;obtain⟨e6,e7,e8,h⟩:=XE h;obtain⟨WE,hl9,h⟩:=Aa h;have c9:=OE x_p x_good x_2 x_3 x_4 (H7++((sets.take sets.length).drop ((IntKind.i64.wrap (Ij+1)).toNat))) (0:Int) hl9;rcases iS h with⟨e10,h⟩|⟨e10,h⟩
  ·obtain rfl:=Option.some.inj h
   simp only [↓AR,AU,↓reduceIte,Nat.reduceEqDiff,Nat.reduceLT,Nat.reduceLeDiff,m0,m1,m2,m3,m4,e1,e2.1,e2.2,e4,c5,e6,e7,e8,c9,decide_eq_true e10,Di,FV]
  ·obtain rfl:=Option.some.inj h
   simp only [↓AR,AU,↓reduceIte,Nat.reduceEqDiff,Nat.reduceLT,Nat.reduceLeDiff,m0,m1,m2,m3,m4,e1,e2.1,e2.2,e4,c5,e6,e7,e8,c9,e10,Di,EO,U2]
 ·obtain rfl:=Option.some.inj h
  simp only [↓AR,AU,↓reduceIte,Nat.reduceLT,m3,m4,e1,Di,EO,KF]
theorem OG(x_p:Int)(x_good:Int)(x_2:AO)(x_3:AO)(x_4:List Bool)(sets:AL){r:Bool}(h:Ig x_p x_good x_2 x_3 x_4 sets=some r):Y.call 49 [D.agg [D.int .i64 x_p,D.int .i64 x_good,D.sl 27 (AV Aw x_2),D.sl 27 (AV Aw x_3),D.sl 4 (AV D.bool x_4)],D.sl 3 (AV (D.int .i64) sets)] []=some (D.bool r,[]):=by
 refine c49 ?_ rfl;unfold k49;unfold Ig at h;obtain⟨AC,hl2,h⟩:=Aa h;try dsimp only at h
 simp only [↓AR,AU,↓reduceIte,Nat.reduceEqDiff,Nat.reduceLT];refine Ai (SX x_p x_good x_2 x_3 x_4 sets hl2 ?_) ?_
 ·simp only [Bd,Da,↓reduceIte,Nat.reduceEqDiff,Nat.reduceLT,Di]
 ·intro ex2 s2 hX2;rcases AC with q1000_|q1000_
  ·unfold EO at hX2;dsimp only at hX2 h;obtain⟨rfl,n2_0⟩:=hX2
   obtain rfl:=Option.some.inj h
   simp only [↓AR,AU,↓reduceIte,n2_0]
  ·unfold EO at hX2;dsimp only at hX2 h
   obtain rfl:=hX2
   obtain rfl:=Option.some.inj h
   simp only [↓AR,AU,↓reduceIte,Nat.reduceEqDiff,Nat.reduceLT]
noncomputable def Jf(A9:Int)(A8:Int)(AA:AO)(AB:AO)(BO:Int×Int×AO×AO×(List Bool))(GY:AO)(OB:AO)(Kz:Int)(PM:AL)(mF:Int):Option ((AL×Int)⊕(AL)):= if mF<((GY.getD Kz.toNat default).length:Int)then ck (0≤mF∧mF.toNat<(GY.getD Kz.toNat default).length)<| ck (PM.length+1<1099511627776)<| some (Sum.inl ((PM++[IntKind.i64.wrap (((GY.getD Kz.toNat default).getD mF.toNat default)+1)]),IntKind.i64.wrap (mF+1))) else some (Sum.inr PM)
noncomputable def O4(A9:Int)(A8:Int)(AA:AO)(AB:AO)(BO:Int×Int×AO×AO×(List Bool))(GY:AO)(OB:AO)(Kz:Int)(v:AL×Int):Option (AL):=Hu (fun v=>Jf A9 A8 AA AB BO GY OB Kz v.1 v.2) v
noncomputable def Jg(A9:Int)(A8:Int)(AA:AO)(AB:AO)(BO:Int×Int×AO×AO×(List Bool))(GY:AO)(OB:AO)(Kz:Int):Option ((AO×Int)⊕(AO)):= if Kz<(GY.length:Int)then ck (0≤Kz∧Kz.toNat<GY.length)<| (O4 A9 A8 AA AB BO GY OB Kz ([],0)).bind fun AC=> (Mc BO.1 BO.2.1 BO.2.2.1 BO.2.2.2.1 BO.2.2.2.2 AC (0:Int)).bind fun UF=> if UF=0 then some (Sum.inl (OB,IntKind.i64.wrap (Kz+1))) else if 0<(AC.length:Int)then ck (0≤IntKind.i64.wrap ((AC.length:Int)-1)∧(IntKind.i64.wrap ((AC.length:Int)-1)).toNat<AC.length)<| if UF<(AC.getD ((IntKind.i64.wrap ((AC.length:Int)-1)).toNat) default)then some (Sum.inl (OB,IntKind.i64.wrap (Kz+1))) else ck (AC.length+1<1099511627776)<| (Ig BO.1 BO.2.1 BO.2.2.1 BO.2.2.2.1 BO.2.2.2.2 (AC++[UF])).bind fun qG=> if qG=true then ck (OB.length+1<1099511627776)<| some (Sum.inl ((OB++[(AC++[UF])]),IntKind.i64.wrap (Kz+1))) else some (Sum.inl (OB,IntKind.i64.wrap (Kz+1))) else ck (AC.length+1<1099511627776)<| (Ig BO.1 BO.2.1 BO.2.2.1 BO.2.2.2.1 BO.2.2.2.2 (AC++[UF])).bind fun qG=> if qG=true then ck (OB.length+1<1099511627776)<| some (Sum.inl ((OB++[(AC++[UF])]),IntKind.i64.wrap (Kz+1))) else some (Sum.inl (OB,IntKind.i64.wrap (Kz+1))) else some (Sum.inr OB)
noncomputable def M3(A9:Int)(A8:Int)(AA:AO)(AB:AO)(BO:Int×Int×AO×AO×(List Bool))(GY:AO)(v:AO×Int):Option (AO):=Hu (fun v=>Jg A9 A8 AA AB BO GY v.1 v.2) v
noncomputable def O5(A9:Int)(A8:Int)(AA:AO)(AB:AO):Option ((Int×Int×AO×AO×AL×Bool)⊕((Int×Int×AO×AO×AL×Bool)⊕(Int×Int×AO×AO×AL×Bool))):=
 if A8=4 then
  if 6<A9 then
   some (Sum.inl (0,0,[],[],[],false))
  else
   (NJ A9 A8 AA AB).bind fun BO=>
   ck (¬A9<0)<|
   (Io (IntKind.i64.wrap ((IntKind.i64.wrap (1*2 ^ (min A9.toNat (IntKind.i64.bits))))-1)) (IntKind.i64.wrap (A8-1))).bind fun GY=>
   (M3 A9 A8 AA AB BO GY ([],0)).bind fun Ao=>
   (Qe A9 A8 AA AB Ao false).bind fun qH=>
   match qH with
   | .inl q83_=>
    some (Sum.inr (Sum.inl (q83_.1,q83_.2.1,q83_.2.2.1,q83_.2.2.2.1,q83_.2.2.2.2.1,q83_.2.2.2.2.2)))
   | .inr (.inl q83_)=>
    some (Sum.inr (Sum.inr (q83_.1,q83_.2.1,q83_.2.2.1,q83_.2.2.2.1,q83_.2.2.2.2.1,q83_.2.2.2.2.2)))
   | .inr (.inr q83_)=>
    some (Sum.inl (q83_.1,q83_.2.1,q83_.2.2.1,q83_.2.2.2.1,q83_.2.2.2.2.1,q83_.2.2.2.2.2))
 else
  (NJ A9 A8 AA AB).bind fun BO=>
  ck (¬A9<0)<|
  (Io (IntKind.i64.wrap ((IntKind.i64.wrap (1*2 ^ (min A9.toNat (IntKind.i64.bits))))-1)) (IntKind.i64.wrap (A8-1))).bind fun GY=>
  (M3 A9 A8 AA AB BO GY ([],0)).bind fun Ao=>
  (Qe A9 A8 AA AB Ao false).bind fun qH=>
  match qH with
  | .inl q83_=>
   some (Sum.inr (Sum.inl (q83_.1,q83_.2.1,q83_.2.2.1,q83_.2.2.2.1,q83_.2.2.2.2.1,q83_.2.2.2.2.2)))
  | .inr (.inl q83_)=>
   some (Sum.inr (Sum.inr (q83_.1,q83_.2.1,q83_.2.2.1,q83_.2.2.2.1,q83_.2.2.2.2.1,q83_.2.2.2.2.2)))
  | .inr (.inr q83_)=>
   some (Sum.inl (q83_.1,q83_.2.1,q83_.2.2.1,q83_.2.2.2.1,q83_.2.2.2.2.1,q83_.2.2.2.2.2))
def jB:SC:= .seq (.ops [oB 40 .lss 3 (tK 39) (tK 38) 3 0]) (.seq (.cond (tK 40) .skip (.exit 2)) (.seq (.block 3 (.seq (.ops [oI 41 27 37 39,oL 42 3 41 3,oA 11 42 3]) (.ops [oM 43 9 27,oM 44 11 3,oB 45 .add 3 (tK 44) (iK 1) 3 3,oX 46 (.buildSlice 27 1 #[(0,(tK 45))]) 27,oX 47 (.call ⟨(.builtin .append), #[(tK 43),(tK 46)], #[27,27]⟩) 27,oA 9 47 27]))) (.ops [oB 48 .add 3 (tK 39) (iK 1) 3 3,oM 39 48 3])))
def zt:SC:= .loop jB
def jC:SC:= .seq (.ops [oB 34 .lss 3 (tK 33) (tK 32) 3 0]) (.seq (.cond (tK 34) .skip (.exit 0)) (.seq (.block 1 (.seq (.ops [oI 35 22 31 33,oL 36 27 35 27,oA 8 36 27]) (.seq (.ops [oX 9 Ev 27]) (.seq (.seq (.ops [oM 37 8 27,oN 38 37 27,oX 39 (.move (iK 0)) 3]) (.block 2 zt)) (.seq (.ops [oL 49 55 5 55,oM 50 9 27,oC 51 48 [(tK 49),(tK 50),(iK 0)] [55,27,3] 3,oA 12 51 3]) (.seq (.seq (.ops [oM 52 12 3,oB 53 .eql 3 (tK 52) (iK 0) 3 4,oM 54 53 4,⟨(some 55),(.move (tK 9)),27,(some (some 54,false))⟩,⟨(some 56),(.call ⟨(.builtin .len), #[(tK 55)], #[27]⟩),3,(some (some 54,false))⟩,⟨(some 57),(.binOp .gtr 3 (tK 56) (iK 0) 3),4,(some (some 54,false))⟩,⟨(some 58),(.move (tK 57)),4,(some (some 54,false))⟩,⟨(some 59),(.move (tK 12)),3,(some (some 58,true))⟩,⟨(some 60),(.move (tK 9)),27,(some (some 58,true))⟩,⟨(some 61),(.move (tK 9)),27,(some (some 58,true))⟩,⟨(some 62),(.call ⟨(.builtin .len), #[(tK 61)], #[27]⟩),3,(some (some 58,true))⟩,⟨(some 63),(.binOp .sub 3 (tK 62) (iK 1) 3),3,(some (some 58,true))⟩,⟨(some 64),(.indexAddr 27 (tK 60) (tK 63)),0,(some (some 58,true))⟩,⟨(some 65),(.load 3 (tK 64)),3,(some (some 58,true))⟩,⟨(some 66),(.binOp .lss 3 (tK 59) (tK 65) 3),4,(some (some 58,true))⟩,
 ⟨(some 67),(.pick (tK 58) (tK 66) OL),4,(some (some 54,false))⟩,oX 68 (.pick (tK 54) Kv (tK 67)) 4]) (.cond (tK 68) (.exit 1) .skip)) (.seq (.ops [oM 69 9 27,oM 70 12 3,oX 71 (.buildSlice 27 1 #[(0,(tK 70))]) 27,oX 72 (.call ⟨(.builtin .append), #[(tK 69),(tK 71)], #[27,27]⟩) 27,oA 9 72 27]) (.seq (.ops [oL 73 55 5 55,oM 74 9 27,oC 75 49 [(tK 73),(tK 74)] [55,27] 4]) (.cond (tK 75) (.ops [oM 76 6 22,oM 77 9 27,oX 78 (.buildSlice 22 1 #[(0,(tK 77))]) 22,oX 79 (.call ⟨(.builtin .append), #[(tK 76),(tK 78)], #[22,22]⟩) 22,oA 6 79 22]) .skip))))))))) (.ops [oB 80 .add 3 (tK 33) (iK 1) 3 3,oM 33 80 3])))
def zu:SC:= .loop jC
abbrev bA:List Nat:=[24,25,26,27,28,29,30,31,32,33]
def k29:SC:= .seq (.ops [oX 1 (.box 26 (tK 0)) 0,oX 2 (.alloc 26) 0,oX 3 Ev 27,oX 4 Cr 4]) (.seq (.seq (.ops [oF 13 26 1 1,oL 14 3 13 3,oB 15 .eql 3 (tK 14) (iK 4) 3 4,oM 16 15 4,⟨(some 17),um,0,(some (some 16,true))⟩,⟨(some 18),(.load 3 (tK 17)),3,(some (some 16,true))⟩,⟨(some 19),(.binOp .gtr 3 (tK 18) (iK 6) 3),4,(some (some 16,true))⟩,oX 20 (.pick (tK 16) (tK 19) OL) 4]) (.cond (tK 20) (.seq (.ops [oX 21 (.build 26 #[]) 26,oS 26 2 21,oX 3 Ev 27,oX 4 Cr 4]) .ret) .skip)) (.seq (.ops [oL 22 26 1 26,oC 23 46 [(tK 22)] [26] 55,oX 5 (.alloc 55) 0,oS 55 5 23]) (.seq (.ops [oX 6 Ev 22]) (.seq (.seq (.draws [(⟨[24,1,1],bA,[24]⟩,oF 24 26 1 0),(⟨[25,24,1],bA,[25]⟩,oL 25 3 24 3),(⟨[26,25,1],bA,[26]⟩,oB 26 .shl 3 (iK 1) (tK 25) 3 3),(⟨[27,26,26],bA,[27]⟩,oB 27 .sub 3 (tK 26) (iK 1) 3 3),(⟨[28,1,1],bA,[28]⟩,oF 28 26 1 1),(⟨[29,28,1],bA,[29]⟩,oL 29 3 28 3),(⟨[30,29,1],bA,[30]⟩,oB 30 .sub 3 (tK 29) (iK 1) 3 3),(⟨[31,27,30,27,30],bA,[31]⟩,oC 31 47 [(tK 27),(tK 30)] [3,3] 22),(⟨[32,31,31],bA,[32]⟩,oN 32 31 22),(⟨[33],bA,[33]⟩,oX 33 (.move (iK 0)) 3)]) (.block 0 zu)) (.seq (.ops [oL 81 26 1 26,oM 82 6 22,oC 83 36 [(tK 81),(tK 82),OL] [26,22,4] 28,oE 84 83 0 26,oE 85 83 1 27,
 oE 86 83 2 4,oS 26 2 84,oA 3 85 27,oA 4 86 4]) .ret)))))
theorem A6w:Tryz.f29.body.map (Bw lends)=some k29:=by kernel_rfl
theorem AJn:CP Tryz.f29 1=true:=by kernel_rfl
theorem zw{a l:List D}{r:D×List D}(h:CG Y.env k29 (FX Ah l.length [ResultVar.cell 2 26,ResultVar.tmp 3,ResultVar.tmp 4] r) (entry a l))(ha:a.length=1):Y.call 29 a l=some r:=
 AZ (Y:=Y) rfl Tryz.func29 (ha▸AJn) A6w h
def Jh(A9:Int)(A8:Int)(AA:AO)(AB:AO)(BO:Int×Int×AO×AO×(List Bool))(GY:AO)(OB:AO)(Kz:Int)(PM:AL)(mF:Int)(s:St):Prop:=s.v 1=D.box [D.int .i64 A9,D.int .i64 A8,D.sl 27 (AV Aw AA),D.sl 27 (AV Aw AB)]∧s.v 2=D.box [D.int .i64 0,D.int .i64 0,D.own 27 [],D.own 27 []]∧s.v 5=D.box [D.int .i64 BO.1,D.int .i64 BO.2.1,D.sl 27 (AV Aw BO.2.2.1),D.sl 27 (AV Aw BO.2.2.2.1),D.own 4 (AV D.bool BO.2.2.2.2)]∧s.v 6=D.own 27 (AV KQ OB)∧s.v 9=D.own 3 (AV (D.int .i64) PM)∧s.v 31=D.own 27 (AV Aw GY)∧s.v 32=D.int .i64 (GY.length:Int)∧s.v 33=D.int .i64 Kz∧s.v 37=D.sl 3 (AV (D.int .i64) (GY.getD Kz.toNat default))∧s.v 38=D.int .i64 ((GY.getD Kz.toNat default).length:Int)∧s.v 39=D.int .i64 mF
def Nf(A9:Int)(A8:Int)(AA:AO)(AB:AO)(BO:Int×Int×AO×AO×(List Bool))(GY:AO)(OB:AO)(Kz:Int)(r:AL)(ex:Ex)(s:St):Prop:=ex= .exit 2∧s.v 1=D.box [D.int .i64 A9,D.int .i64 A8,D.sl 27 (AV Aw AA),D.sl 27 (AV Aw AB)]∧s.v 2=D.box [D.int .i64 0,D.int .i64 0,D.own 27 [],D.own 27 []]∧s.v 5=D.box [D.int .i64 BO.1,D.int .i64 BO.2.1,D.sl 27 (AV Aw BO.2.2.1),D.sl 27 (AV Aw BO.2.2.2.1),D.own 4 (AV D.bool BO.2.2.2.2)]∧s.v 6=D.own 27 (AV KQ OB)∧s.v 9=D.own 3 (AV (D.int .i64) r)∧s.v 31=D.own 27 (AV Aw GY)∧s.v 32=D.int .i64 (GY.length:Int)∧s.v 33=D.int .i64 Kz
theorem ZQ(A9:Int)(A8:Int)(AA:AO)(AB:AO)(BO:Int×Int×AO×AO×(List Bool))(GY:AO)(OB:AO)(Kz:Int){v:AL×Int}{s:St}{r:AL}(h:O4 A9 A8 AA AB BO GY OB Kz v=some r)(hM:Jh A9 A8 AA AB BO GY OB Kz v.1 v.2 s):CG Y.env zt (Nf A9 A8 AA AB BO GY OB Kz r) s:=by
 unfold O4 at h;refine BD (c:=jB) (fun v=>Jf A9 A8 AA AB BO GY OB Kz v.1 v.2) (fun v s=>Jh A9 A8 AA AB BO GY OB Kz v.1 v.2 s) (Nf A9 A8 AA AB BO GY OB Kz) ?_ h hM;clear h hM s v r;intro v s o hM h;obtain⟨PM,mF⟩:=v;dsimp only at h hM;unfold Jf at h;unfold Jh at hM;obtain⟨m0,m1,m2,m3,m4,m5,m6,m7,m8,m9,m10⟩:=hM;unfold jB;rcases iS h with⟨e8,h⟩|⟨e8,h⟩
 ·obtain⟨e9,e10,h⟩:=Hw h
  obtain rfl:=Option.some.inj h
  simp only [↓AR,AU,↓reduceIte,Nat.reduceEqDiff,Nat.reduceLT,Nat.reduceLeDiff,m0,m1,m2,m3,m4,m5,m6,m7,m8,m9,m10,e8,e9.1,e9.2,e10,Jh,FV]
 ·obtain rfl:=Option.some.inj h
  simp only [↓AR,AU,↓reduceIte,Nat.reduceEqDiff,Nat.reduceLT,m0,m1,m2,m3,m4,m5,m6,m7,m9,m10,e8,Jh,Nf,KF]
def DU(A9:Int)(A8:Int)(AA:AO)(AB:AO)(BO:Int×Int×AO×AO×(List Bool))(GY:AO)(OB:AO)(Kz:Int)(s:St):Prop:=s.v 1=D.box [D.int .i64 A9,D.int .i64 A8,D.sl 27 (AV Aw AA),D.sl 27 (AV Aw AB)]∧s.v 2=D.box [D.int .i64 0,D.int .i64 0,D.own 27 [],D.own 27 []]∧s.v 5=D.box [D.int .i64 BO.1,D.int .i64 BO.2.1,D.sl 27 (AV Aw BO.2.2.1),D.sl 27 (AV Aw BO.2.2.2.1),D.own 4 (AV D.bool BO.2.2.2.2)]∧s.v 6=D.own 27 (AV KQ OB)∧s.v 31=D.own 27 (AV Aw GY)∧s.v 32=D.int .i64 (GY.length:Int)∧s.v 33=D.int .i64 Kz
def LU(A9:Int)(A8:Int)(AA:AO)(AB:AO)(BO:Int×Int×AO×AO×(List Bool))(GY:AO)(r:AO)(ex:Ex)(s:St):Prop:=ex= .exit 0∧s.v 1=D.box [D.int .i64 A9,D.int .i64 A8,D.sl 27 (AV Aw AA),D.sl 27 (AV Aw AB)]∧s.v 2=D.box [D.int .i64 0,D.int .i64 0,D.own 27 [],D.own 27 []]∧s.v 6=D.own 27 (AV KQ r)
theorem SY(A9:Int)(A8:Int)(AA:AO)(AB:AO)(BO:Int×Int×AO×AO×(List Bool))(GY:AO){v:AO×Int}{s:St}{r:AO}(h:M3 A9 A8 AA AB BO GY v=some r)(hM:DU A9 A8 AA AB BO GY v.1 v.2 s):CG Y.env zu (LU A9 A8 AA AB BO GY r) s:=by
 unfold M3 at h;refine BD (c:=jC) (fun v=>Jg A9 A8 AA AB BO GY v.1 v.2) (fun v s=>DU A9 A8 AA AB BO GY v.1 v.2 s) (LU A9 A8 AA AB BO GY) ?_ h hM;clear h hM s v r;intro v s o hM h;obtain⟨OB,Kz⟩:=v;dsimp only at h hM;unfold Jg at h;unfold DU at hM;obtain⟨m0,m1,m2,m3,m4,m5,m6⟩:=hM;unfold jC;rcases iS h with⟨e6,h⟩|⟨e6,h⟩
 ·obtain⟨e7,h⟩:=EQ h;obtain⟨AC,hl9,h⟩:=Aa h;try dsimp only at h
  simp only [↓AR,AU,↓reduceIte,Nat.reduceEqDiff,Nat.reduceLT,m4,m5,m6,e6,e7.1,e7.2];refine Ai (ZQ A9 A8 AA AB BO GY OB Kz hl9 ?_) ?_
  ·simp only [Bd,↓reduceIte,Nat.reduceEqDiff,m0,m1,m2,m3,m4,m5,m6,Jh]<;>(repeat' apply A7)<;>first|rfl|exact⟨_,rfl⟩|exact⟨_,_,rfl⟩|simp [AV,Ad]
  ·intro ex9 s9 hX9;unfold Nf at hX9;obtain⟨rfl,n9_0,n9_1,n9_2,n9_3,n9_4,n9_5,n9_6,n9_7⟩:=hX9;obtain⟨UF,hl10,h⟩:=Aa h;have jO:=OE BO.1 BO.2.1 BO.2.2.1 BO.2.2.2.1 BO.2.2.2.2 AC (0:Int) hl10;rcases iS h with⟨e11,h⟩|⟨e11,h⟩
   ·obtain rfl:=Option.some.inj h
    simp only [↓AR,AU,↓reduceIte,Nat.reduceEqDiff,Nat.reduceLT,n9_0,n9_1,n9_2,n9_3,n9_4,n9_5,n9_6,n9_7,jO,decide_eq_true e11,DU,FV]
   ·rcases iS h with⟨e12,h⟩|⟨e12,h⟩
    ·obtain⟨e13,h⟩:=EQ h;rcases iS h with⟨e14,h⟩|⟨e14,h⟩
     ·obtain rfl:=Option.some.inj h
      simp only [↓AR,AU,↓reduceIte,Nat.reduceEqDiff,Nat.reduceLT,n9_0,n9_1,n9_2,n9_3,n9_4,n9_5,n9_6,n9_7,jO,e11,e12,e13.1,e13.2,e14,DU,FV]
     ·obtain⟨e15,h⟩:=EQ h;obtain⟨qG,hl16,h⟩:=Aa h;have c16:=OG BO.1 BO.2.1 BO.2.2.1 BO.2.2.2.1 BO.2.2.2.2 (AC++[UF]) hl16;rcases iS h with⟨e17,h⟩|⟨e17,h⟩
      ·obtain⟨e18,h⟩:=EQ h
       obtain rfl:=Option.some.inj h
       simp only [↓AR,AU,↓reduceIte,Nat.reduceEqDiff,Nat.reduceLT,Nat.reduceLeDiff,n9_0,n9_1,n9_2,n9_3,n9_4,n9_5,n9_6,n9_7,jO,e11,e12,e13.1,e13.2,e14,e15,c16,e17,e18,DU,FV]
      ·have e17f:qG=false:=Ju.mpr e17
       obtain rfl:=Option.some.inj h
       simp only [↓AR,AU,↓reduceIte,Nat.reduceEqDiff,Nat.reduceLT,Nat.reduceLeDiff,n9_0,n9_1,n9_2,n9_3,n9_4,n9_5,n9_6,n9_7,jO,e11,e12,e13.1,e13.2,e14,e15,c16,e17f,DU,FV]
    ·obtain⟨e13,h⟩:=EQ h;obtain⟨qG,hl14,h⟩:=Aa h;have bq:=OG BO.1 BO.2.1 BO.2.2.1 BO.2.2.2.1 BO.2.2.2.2 (AC++[UF]) hl14;rcases iS h with⟨e15,h⟩|⟨e15,h⟩
     ·obtain⟨e16,h⟩:=EQ h
      obtain rfl:=Option.some.inj h
      simp only [↓AR,AU,↓reduceIte,Nat.reduceEqDiff,Nat.reduceLT,Nat.reduceLeDiff,n9_0,n9_1,n9_2,n9_3,n9_4,n9_5,n9_6,n9_7,jO,e11,e12,e13,bq,e15,e16,DU,FV]
     ·have e15f:qG=false:=Ju.mpr e15
      obtain rfl:=Option.some.inj h
      simp only [↓AR,AU,↓reduceIte,Nat.reduceEqDiff,Nat.reduceLT,Nat.reduceLeDiff,n9_0,n9_1,n9_2,n9_3,n9_4,n9_5,n9_6,n9_7,jO,e11,e12,e13,bq,e15f,DU,FV]
 ·obtain rfl:=Option.some.inj h
  simp only [↓AR,AU,↓reduceIte,Nat.reduceEqDiff,Nat.reduceLT,m0,m1,m3,m5,m6,e6,DU,LU,KF]
theorem bB(A9:Int)(A8:Int)(AA:AO)(AB:AO){r:(Int×Int×AO×AO×AL×Bool)⊕((Int×Int×AO×AO×AL×Bool)⊕(Int×Int×AO×AO×AL×Bool))}(h:O5 A9 A8 AA AB=some r):Y.call 29 [D.agg [D.int .i64 A9,D.int .i64 A8,D.sl 27 (AV Aw AA),D.sl 27 (AV Aw AB)]] []=some (match (generalizing:=false) r with| .inl q=>(D.tup [D.agg [D.int .i64 q.1,D.int .i64 q.2.1,D.own 27 (AV KQ q.2.2.1),D.own 27 (AV KQ q.2.2.2.1)],D.own 3 (AV (D.int .i64) q.2.2.2.2.1),D.bool q.2.2.2.2.2],[])| .inr (.inl q)=>(D.tup [D.agg [D.int .i64 q.1,D.int .i64 q.2.1,D.own 27 (AV Aw q.2.2.1),D.sl 27 (AV Aw q.2.2.2.1)],D.sl 3 (AV (D.int .i64) q.2.2.2.2.1),D.bool q.2.2.2.2.2],[])| .inr (.inr q)=>(D.tup [D.agg [D.int .i64 q.1,D.int .i64 q.2.1,D.sl 27 (AV Aw q.2.2.1),D.own 27 (AV Aw q.2.2.2.1)],D.sl 3 (AV (D.int .i64) q.2.2.2.2.1),D.bool q.2.2.2.2.2],[])):=by
 refine zw ?_ rfl;unfold k29;unfold O5 at h;rcases iS h with⟨e1,h⟩|⟨e1,h⟩
 ·rcases iS h with⟨e2,h⟩|⟨e2,h⟩
  ·obtain rfl:=Option.some.inj h
   simp (maxDischargeDepth:=9) only [↓AR,AU,↓reduceIte,Nat.reduceEqDiff,Nat.reduceLT,Nat.reduceAdd,decide_eq_true e1,e2]<;>(repeat' apply A7)<;>first|rfl|exact⟨_,rfl⟩|exact⟨_,_,rfl⟩|simp [AV,Ad]
  ·obtain⟨BO,hl3,h⟩:=Aa h;have c3:=RL A9 A8 AA AB hl3;obtain⟨e4,h⟩:=EQ h;obtain⟨GY,hl5,h⟩:=Aa h;have c5:=ND (IntKind.i64.wrap ((IntKind.i64.wrap (1*2 ^ (min A9.toNat (IntKind.i64.bits))))-1)) (IntKind.i64.wrap (A8-1)) hl5;obtain⟨Ao,hl7,h⟩:=Aa h;try dsimp only at h
   simp (maxDischargeDepth:=9) only [↓AR,AU,↓reduceIte,Nat.reduceEqDiff,Nat.reduceLT,Nat.reduceAdd,decide_eq_true e1,e2,c3,e4,c5];refine Ai (SY A9 A8 AA AB BO GY hl7 ?_) ?_
   ·simp (maxDischargeDepth:=9) only [Bd,↓reduceIte,Nat.reduceEqDiff,DU]<;>(repeat' apply A7)<;>first|rfl|exact⟨_,rfl⟩|exact⟨_,_,rfl⟩|simp [AV,Ad]
   ·intro ex7 s7 hX7;unfold LU at hX7;obtain⟨rfl,n7_0,n7_1,n7_2⟩:=hX7;obtain⟨qH,hl8,h⟩:=Aa h;try dsimp only at h
    have c8:=Ti A9 A8 AA AB Ao false hl8;rcases qH with(q83_|q83_|q83_)
    ·dsimp only at h c8;by_cases e9:(q83_.2.2.1.any fun x=>(!x.isEmpty))=true
     ·skip
      obtain rfl:=Option.some.inj h
      simp (maxDischargeDepth:=9) only [↓AR,AU,↓reduceIte,Nat.reduceEqDiff,Nat.reduceLT,Nat.reduceAdd,n7_0,n7_1,n7_2,c8,e9]
     ·skip
      have e9f:(q83_.2.2.1.any fun x=>(!x.isEmpty))=false:=Ju.mpr e9;by_cases e10:(!q83_.2.2.2.1.isEmpty)=true
      ·skip
       obtain rfl:=Option.some.inj h
       simp (maxDischargeDepth:=9) only [↓AR,AU,↓reduceIte,Nat.reduceEqDiff,Nat.reduceLT,Nat.reduceAdd,n7_0,n7_1,n7_2,c8,e9f,e10]
      ·skip
       have e10f:(!q83_.2.2.2.1.isEmpty)=false:=Ju.mpr e10;by_cases e11:(!q83_.2.2.2.2.1.isEmpty)=true
       ·skip
        obtain rfl:=Option.some.inj h
        simp (maxDischargeDepth:=9) only [↓AR,AU,↓reduceIte,Nat.reduceEqDiff,Nat.reduceLT,Nat.reduceAdd,n7_0,n7_1,n7_2,c8,e9f,e10f,e11]
       ·skip
        have e11f:(!q83_.2.2.2.2.1.isEmpty)=false:=Ju.mpr e11
        obtain rfl:=Option.some.inj h
        simp (maxDischargeDepth:=9) only [↓AR,AU,↓reduceIte,Nat.reduceEqDiff,Nat.reduceLT,Nat.reduceAdd,n7_0,n7_1,n7_2,c8,e9f,e10f,e11f]
    ·dsimp only at h c8;by_cases e12:(!q83_.2.2.1.isEmpty)=true
     ·skip
      obtain rfl:=Option.some.inj h
      simp (maxDischargeDepth:=9) only [↓AR,AU,↓reduceIte,Nat.reduceEqDiff,Nat.reduceLT,Nat.reduceAdd,n7_0,n7_1,n7_2,c8,e12]
     ·skip
      have e12f:(!q83_.2.2.1.isEmpty)=false:=Ju.mpr e12;by_cases e13:(q83_.2.2.2.1.any fun x=>(!x.isEmpty))=true
      ·skip
       obtain rfl:=Option.some.inj h
       simp (maxDischargeDepth:=9) only [↓AR,AU,↓reduceIte,Nat.reduceEqDiff,Nat.reduceLT,Nat.reduceAdd,n7_0,n7_1,n7_2,c8,e12f,e13]
      ·skip
       have e13f:(q83_.2.2.2.1.any fun x=>(!x.isEmpty))=false:=Ju.mpr e13;by_cases e14:(!q83_.2.2.2.2.1.isEmpty)=true
       ·skip
        obtain rfl:=Option.some.inj h
        simp (maxDischargeDepth:=9) only [↓AR,AU,↓reduceIte,Nat.reduceEqDiff,Nat.reduceLT,Nat.reduceAdd,n7_0,n7_1,n7_2,c8,e12f,e13f,e14]
       ·skip
        have e14f:(!q83_.2.2.2.2.1.isEmpty)=false:=Ju.mpr e14
        obtain rfl:=Option.some.inj h
        simp (maxDischargeDepth:=9) only [↓AR,AU,↓reduceIte,Nat.reduceEqDiff,Nat.reduceLT,Nat.reduceAdd,n7_0,n7_1,n7_2,c8,e12f,e13f,e14f]
    ·dsimp only at h c8
     obtain rfl:=Option.some.inj h
     simp (maxDischargeDepth:=9) only [↓AR,AU,↓reduceIte,Nat.reduceEqDiff,Nat.reduceLT,Nat.reduceAdd,n7_0,n7_1,n7_2,c8]
 ·obtain⟨BO,hl2,h⟩:=Aa h;have c2:=RL A9 A8 AA AB hl2;obtain⟨e3,h⟩:=EQ h;obtain⟨GY,hl4,h⟩:=Aa h;have c4:=ND (IntKind.i64.wrap ((IntKind.i64.wrap (1*2 ^ (min A9.toNat (IntKind.i64.bits))))-1)) (IntKind.i64.wrap (A8-1)) hl4;obtain⟨Ao,hl6,h⟩:=Aa h;try dsimp only at h
  simp (maxDischargeDepth:=9) only [↓AR,AU,↓reduceIte,Nat.reduceEqDiff,Nat.reduceLT,Nat.reduceAdd,e1,c2,e3,c4];refine Ai (SY A9 A8 AA AB BO GY hl6 ?_) ?_
  ·simp (maxDischargeDepth:=9) only [Bd,↓reduceIte,Nat.reduceEqDiff,DU]<;>(repeat' apply A7)<;>first|rfl|exact⟨_,rfl⟩|exact⟨_,_,rfl⟩|simp [AV,Ad]
  ·intro ex6 s6 hX6;unfold LU at hX6;obtain⟨rfl,n6_0,n6_1,n6_2⟩:=hX6;obtain⟨qH,hl7,h⟩:=Aa h;try dsimp only at h
   have c7:=Ti A9 A8 AA AB Ao false hl7;rcases qH with(q83_|q83_|q83_)
   ·dsimp only at h c7;by_cases e8:(q83_.2.2.1.any fun x=>(!x.isEmpty))=true
    ·skip
     obtain rfl:=Option.some.inj h
     simp (maxDischargeDepth:=9) only [↓AR,AU,↓reduceIte,Nat.reduceEqDiff,Nat.reduceLT,Nat.reduceAdd,n6_0,n6_1,n6_2,c7,e8]
    ·skip
     have e8f:(q83_.2.2.1.any fun x=>(!x.isEmpty))=false:=Ju.mpr e8;by_cases e9:(!q83_.2.2.2.1.isEmpty)=true
     ·skip
      obtain rfl:=Option.some.inj h
      simp (maxDischargeDepth:=9) only [↓AR,AU,↓reduceIte,Nat.reduceEqDiff,Nat.reduceLT,Nat.reduceAdd,n6_0,n6_1,n6_2,c7,e8f,e9]
     ·skip
      have e9f:(!q83_.2.2.2.1.isEmpty)=false:=Ju.mpr e9;by_cases e10:(!q83_.2.2.2.2.1.isEmpty)=true
      ·skip
       obtain rfl:=Option.some.inj h
       simp (maxDischargeDepth:=9) only [↓AR,AU,↓reduceIte,Nat.reduceEqDiff,Nat.reduceLT,Nat.reduceAdd,n6_0,n6_1,n6_2,c7,e8f,e9f,e10]
      ·skip
       have e10f:(!q83_.2.2.2.2.1.isEmpty)=false:=Ju.mpr e10
       obtain rfl:=Option.some.inj h
       simp (maxDischargeDepth:=9) only [↓AR,AU,↓reduceIte,Nat.reduceEqDiff,Nat.reduceLT,Nat.reduceAdd,n6_0,n6_1,n6_2,c7,e8f,e9f,e10f]
   ·dsimp only at h c7;by_cases e11:(!q83_.2.2.1.isEmpty)=true
    ·skip
     obtain rfl:=Option.some.inj h
     simp (maxDischargeDepth:=9) only [↓AR,AU,↓reduceIte,Nat.reduceEqDiff,Nat.reduceLT,Nat.reduceAdd,n6_0,n6_1,n6_2,c7,e11]
    ·skip
     have e11f:(!q83_.2.2.1.isEmpty)=false:=Ju.mpr e11;by_cases e12:(q83_.2.2.2.1.any fun x=>(!x.isEmpty))=true
     ·skip
      obtain rfl:=Option.some.inj h
      simp (maxDischargeDepth:=9) only [↓AR,AU,↓reduceIte,Nat.reduceEqDiff,Nat.reduceLT,Nat.reduceAdd,n6_0,n6_1,n6_2,c7,e11f,e12]
     ·skip
      have e12f:(q83_.2.2.2.1.any fun x=>(!x.isEmpty))=false:=Ju.mpr e12;by_cases e13:(!q83_.2.2.2.2.1.isEmpty)=true
      ·skip
       obtain rfl:=Option.some.inj h
       simp (maxDischargeDepth:=9) only [↓AR,AU,↓reduceIte,Nat.reduceEqDiff,Nat.reduceLT,Nat.reduceAdd,n6_0,n6_1,n6_2,c7,e11f,e12f,e13]
      ·skip
       have e13f:(!q83_.2.2.2.2.1.isEmpty)=false:=Ju.mpr e13
       obtain rfl:=Option.some.inj h
       simp (maxDischargeDepth:=9) only [↓AR,AU,↓reduceIte,Nat.reduceEqDiff,Nat.reduceLT,Nat.reduceAdd,n6_0,n6_1,n6_2,c7,e11f,e12f,e13f]
   ·dsimp only at h c7
    obtain rfl:=Option.some.inj h
    simp (maxDischargeDepth:=9) only [↓AR,AU,↓reduceIte,Nat.reduceEqDiff,Nat.reduceLT,Nat.reduceAdd,n6_0,n6_1,n6_2,c7]
noncomputable def PG(AP:Int)(AQ:Int)(AX:AO)(AY:AO):Option (Int×Int×AO×AO×AL×Bool):=
 ck (BB AX)<|
 ck (BB AY)<|
 if(N8 AP AQ AX AY)=true then
  (O5 AP AQ AX AY).bind fun Mg=>
  match Mg with
  | .inl q10_=>
   some (q10_.1,q10_.2.1,q10_.2.2.1,q10_.2.2.2.1,q10_.2.2.2.2.1,q10_.2.2.2.2.2)
  | .inr (.inl q10_)=>
   some (q10_.1,q10_.2.1,q10_.2.2.1,q10_.2.2.2.1,q10_.2.2.2.2.1,q10_.2.2.2.2.2)
  | .inr (.inr q10_)=>
   some (q10_.1,q10_.2.1,q10_.2.2.1,q10_.2.2.2.1,q10_.2.2.2.2.1,q10_.2.2.2.2.2)
 else
  some (0,0,[],[],[],false)
def k16:SC:= .seq (.ops [oX 1 (.box 26 (tK 0)) 0,oX 2 (.alloc 26) 0,oX 3 Ev 27,oX 4 Cr 4]) (.seq (.seq (.ops [oL 5 26 1 26,oC 6 21 [(tK 5)] [26] 4,oX 7 (.unOp .not 4 (tK 6)) 4]) (.cond (tK 7) (.seq (.ops [oX 8 (.build 26 #[]) 26,⟨none,(.store 26 (tK 2) (tK 8)),900011,none⟩,oX 3 Ev 1000027,oX 4 Cr 4]) .ret) .skip)) (.seq (.ops [oL 9 26 1 26,oC 10 29 [(tK 9)] [26] 28,oE 11 10 0 26,oE 12 10 1 27,oE 13 10 2 4,⟨none,(.store 26 (tK 2) (tK 11)),900011,none⟩,oA 3 12 900003,oA 4 13 4]) .ret))
theorem A6x:Tryz.f16.body.map (Bw lends)=some k16:=by kernel_rfl
theorem AJp:CP Tryz.f16 1=true:=by kernel_rfl
theorem c16{a l:List D}{r:D×List D}(h:CG Y.env k16 (FX Ah l.length [ResultVar.cell 2 26,ResultVar.tmp 3,ResultVar.tmp 4] r) (entry a l))(ha:a.length=1):Y.call 16 a l=some r:=
 AZ (Y:=Y) rfl Tryz.func16 (ha▸AJp) A6x h
theorem XZ(AP:Int)(AQ:Int)(AX:AO)(AY:AO){r:Int×Int×AO×AO×AL×Bool}(h:PG AP AQ AX AY=some r):Y.call 16 [D.agg [D.int .i64 AP,D.int .i64 AQ,D.sl 27 (AV Aw AX),D.sl 27 (AV Aw AY)]] []=some (D.tup [D.agg [D.int .i64 r.1,D.int .i64 r.2.1,D.sl 27 (AV Aw r.2.2.1),D.sl 27 (AV Aw r.2.2.2.1)],D.sl 3 (AV (D.int .i64) r.2.2.2.2.1),D.bool r.2.2.2.2.2],[]):=by
 refine c16 ?_ rfl;unfold k16;unfold PG at h;obtain⟨e1,e2,h⟩:=Hw h;have c3:=lh AP AQ AX AY e1 e2;rcases iS h with⟨e4,h⟩|⟨e4,h⟩
 ·obtain⟨Mg,hl5,h⟩:=Aa h;try dsimp only at h
  have c5:=bB AP AQ AX AY hl5;rcases Mg with(q10_|q10_|q10_)
  ·dsimp only at h c5
   obtain rfl:=Option.some.inj h
   simp only [↓AR,AU,↓reduceIte,Nat.reduceEqDiff,Nat.reduceLT,Nat.reduceAdd,c3,e4,c5]<;>(repeat' apply A7)<;>first|rfl|exact⟨_,rfl⟩|exact⟨_,_,rfl⟩|simp [AV,Ad]
  ·dsimp only at h c5
   obtain rfl:=Option.some.inj h
   simp only [↓AR,AU,↓reduceIte,Nat.reduceEqDiff,Nat.reduceLT,Nat.reduceAdd,c3,e4,c5]<;>(repeat' apply A7)<;>first|rfl|exact⟨_,rfl⟩|exact⟨_,_,rfl⟩|simp [AV,Ad]
  ·dsimp only at h c5
   obtain rfl:=Option.some.inj h
   simp only [↓AR,AU,↓reduceIte,Nat.reduceEqDiff,Nat.reduceLT,Nat.reduceAdd,c3,e4,c5]<;>(repeat' apply A7)<;>first|rfl|exact⟨_,rfl⟩|exact⟨_,_,rfl⟩|simp [AV,Ad]
 ·have e4f:(N8 AP AQ AX AY)=false:=Ju.mpr e4
  obtain rfl:=Option.some.inj h
  simp only [↓AR,AU,↓reduceIte,Nat.reduceEqDiff,Nat.reduceLT,Nat.reduceAdd,Nat.reduceSub,c3,e4f]<;>(repeat' apply A7)<;>first|rfl|exact⟨_,rfl⟩|exact⟨_,_,rfl⟩|simp [AV,Ad]
end Go.Proofs.YtjhjkfoabhplfaaGreat
