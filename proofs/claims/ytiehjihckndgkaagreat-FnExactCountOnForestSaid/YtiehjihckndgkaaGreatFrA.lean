/- Forests: lifted. Conditions: none. -/
import Derived.Test.YtiehjihckndgkaaGreatL6
import Derived.Test.YtiehjihckndgkaaGreatDstA
import Derived.Test.YtiehjihckndgkaaGreatEdg
namespace Go.Proofs.YtiehjihckndgkaaGreat
open Go Dv
set_option linter.unusedSimpArgs false
set_option linter.unusedVariables false
set_option maxRecDepth 100000
set_option maxHeartbeats 4000000
noncomputable def EL(A8:List (List (Int×Int)))(Aj:Int)(out1:List (Int×Int×Int×Int))(LB:Int):Option (((List (Int×Int×Int×Int))×Int)⊕((List (Int×Int×Int×Int)))):= if LB<((A8.getD Aj.toNat default).length:Int)then ck (0≤LB∧LB.toNat<(A8.getD Aj.toNat default).length)<| if Aj<(BP (A8.getD Aj.toNat default) LB.toNat)then ck (out1.length*4+4<1099511627776)<| some (Sum.inl ((out1++[(Aj,LB,(BP (A8.getD Aj.toNat default) LB.toNat),(Ck (A8.getD Aj.toNat default) LB.toNat))]),IntKind.i64.wrap (LB+1))) else if Aj=(BP (A8.getD Aj.toNat default) LB.toNat)then if LB≤(Ck (A8.getD Aj.toNat default) LB.toNat)then ck (out1.length*4+4<1099511627776)<| some (Sum.inl ((out1++[(Aj,LB,(BP (A8.getD Aj.toNat default) LB.toNat),(Ck (A8.getD Aj.toNat default) LB.toNat))]),IntKind.i64.wrap (LB+1))) else some (Sum.inl (out1,IntKind.i64.wrap (LB+1))) else some (Sum.inl (out1,IntKind.i64.wrap (LB+1))) else some (Sum.inr out1)
noncomputable def GL(A8:List (List (Int×Int)))(Aj:Int)(v:(List (Int×Int×Int×Int))×Int):Option ((List (Int×Int×Int×Int))):=Fb (fun v=>EL A8 Aj v.1 v.2) v
noncomputable def EM(A8:List (List (Int×Int)))(out:List (Int×Int×Int×Int))(Aj:Int):Option (((List (Int×Int×Int×Int))×Int)⊕((List (Int×Int×Int×Int)))):= if Aj<(A8.length:Int)then ck (0≤Aj∧Aj.toNat<A8.length)<| (GL A8 Aj (out,0)).bind fun Aa=> some (Sum.inl (Aa,IntKind.i64.wrap (Aj+1))) else some (Sum.inr out)
noncomputable def J7(A8:List (List (Int×Int)))(v:(List (Int×Int×Int×Int))×Int):Option ((List (Int×Int×Int×Int))):=Fb (fun v=>EM A8 v.1 v.2) v
noncomputable def JJ(A8:List (List (Int×Int)))(AR:AB)(A9:AB):Option ((List (Int×Int×Int×Int))):= (J7 A8 ([],0)).bind fun BA=> some BA
def mh:SC:= .seq (.ops [oB 19 .lss 3 (tK 18) (tK 17) 3 0]) (.seq (.cond (tK 19) .skip (.exit 2)) (.seq (.block 3 (.seq (.ops [oM 20 18 3,oI 21 79 16 18,oL 22 87 21 87,oX 7 (.alloc 87) 0,oA 6 20 3,oS 87 7 22]) (.seq (.ops [oM 23 4 3,oF 24 87 7 0,oL 25 3 24 3,oB 26 .lss 3 (tK 23) (tK 25) 3 4,oM 27 26 4,⟨(some 28),(.move (tK 4)),3,(some (some 27,false))⟩,⟨(some 29),(.fieldAddr 87 (tK 7) 0),0,(some (some 27,false))⟩,⟨(some 30),(.load 3 (tK 29)),3,(some (some 27,false))⟩,⟨(some 31),(.binOp .eql 3 (tK 28) (tK 30) 3),4,(some (some 27,false))⟩,⟨(some 32),(.move (tK 31)),4,(some (some 27,false))⟩,⟨(some 33),(.move (tK 6)),3,(some (some 32,true))⟩,⟨(some 34),(.fieldAddr 87 (tK 7) 1),0,(some (some 32,true))⟩,⟨(some 35),(.load 3 (tK 34)),3,(some (some 32,true))⟩,⟨(some 36),(.binOp .leq 3 (tK 33) (tK 35) 3),4,(some (some 32,true))⟩,⟨(some 37),(.pick (tK 32) (tK 36) MS),4,(some (some 27,false))⟩,oX 38 (.pick (tK 27) F7 (tK 37)) 4]) (.cond (tK 38) (.ops [oM 39 3 97,oM 40 4 3,oM 41 6 3,oF 42 87 7 0,oL 43 3 42 3,oF 44 87 7 1,oL 45 3 44 3,oX 46 (.build 101 #[(0,(tK 40)),(1,(tK 41)),(2,(tK 43)),(3,(tK 45))]) 101,oX 47 (.buildSlice 97 1 #[(0,(tK 46))]) 97,oX 48 (.call ⟨(.builtin .append), #[(tK 39),(tK 47)], #[97,97]⟩) 97,
 oA 3 48 97]) .skip)))) (.ops [oB 49 .add 3 (tK 18) (iK 1) 3 3,oM 18 49 3])))
def A2R:SC:= .loop mh
def mo:SC:= .seq (.ops [oB 12 .lss 3 (tK 11) (tK 10) 3 0]) (.seq (.cond (tK 12) .skip (.exit 0)) (.seq (.block 1 (.seq (.ops [oM 13 11 3,oI 14 36 9 11,oL 15 79 14 79,oA 4 13 3,oA 5 15 79]) (.seq (.ops [oM 16 5 79,oN 17 16 79,oX 18 (.move (iK 0)) 3]) (.block 2 A2R)))) (.ops [oB 50 .add 3 (tK 11) (iK 1) 3 3,oM 11 50 3])))
def A2S:SC:= .loop mo
def k78:SC:= .seq (.ops [oX 1 (.box 38 (tK 0)) 0,oX 2 KL 97]) (.seq (.ops [oX 3 KL 97]) (.seq (.seq (.ops [oF 8 38 1 0,oL 9 36 8 36,oN 10 9 36,oX 11 (.move (iK 0)) 3]) (.block 0 A2S)) (.seq (.ops [oM 51 3 97,oA 2 51 97]) .ret)))
theorem AAv:Tryz.f78.body.map (BX lends)=some k78:=by kernel_rfl
theorem AOO:Bj Tryz.f78 1=true:=by kernel_rfl
theorem c78{a l:List D}{r:D×List D}(h:Br Y.env k78 (fin Ap l.length [ResultVar.tmp 2] r) (entry a l))(ha:a.length=1):Y.call 78 a l=some r:=
 AZ (Y:=Y) rfl Tryz.func78 (ha▸AOO) AAv h
def Cg(A8:List (List (Int×Int)))(Aj:Int)(out1:List (Int×Int×Int×Int))(LB:Int)(s:St):Prop:=s.v 3=D.own 101 (OV out1)∧s.v 4=D.int .i64 Aj∧s.v 9=D.sl 79 (AQ (fun x=>D.sl 87 (Au .i64 .i64 x)) A8)∧s.v 10=D.int .i64 (A8.length:Int)∧s.v 11=D.int .i64 Aj∧s.v 16=D.sl 87 (Au .i64 .i64 (A8.getD Aj.toNat default))∧s.v 17=D.int .i64 ((A8.getD Aj.toNat default).length:Int)∧s.v 18=D.int .i64 LB
def H6(A8:List (List (Int×Int)))(Aj:Int)(r:(List (Int×Int×Int×Int)))(ex:Ex)(s:St):Prop:=ex= .exit 2∧s.v 3=D.own 101 (OV r)∧s.v 9=D.sl 79 (AQ (fun x=>D.sl 87 (Au .i64 .i64 x)) A8)∧s.v 10=D.int .i64 (A8.length:Int)∧s.v 11=D.int .i64 Aj
theorem SX(A8:List (List (Int×Int)))(Aj:Int){v:(List (Int×Int×Int×Int))×Int}{s:St}{r:(List (Int×Int×Int×Int))}(h:GL A8 Aj v=some r)(hM:Cg A8 Aj v.1 v.2 s):Br Y.env A2R (H6 A8 Aj r) s:=by
 unfold GL at h;refine BH (c:=mh) (fun v=>EL A8 Aj v.1 v.2) (fun v s=>Cg A8 Aj v.1 v.2 s) (H6 A8 Aj) ?_ h hM;clear h hM s v r;intro v s o hM h;obtain⟨out1,LB⟩:=v;dsimp only at h hM;unfold EL at h;unfold Cg at hM;obtain⟨m0,m1,m2,m3,m4,m5,m6,m7⟩:=hM;unfold mh;rcases iS h with⟨e3,h⟩|⟨e3,h⟩
 ·obtain⟨e4,h⟩:=ES h;rcases iS h with⟨e5,h⟩|⟨e5,h⟩
  ·obtain⟨e6,h⟩:=ES h
   obtain rfl:=Option.some.inj h
   simp (maxDischargeDepth:=9) only [↓AL,AO,↓reduceIte,Nat.reduceEqDiff,Nat.reduceLT,Nat.reduceLeDiff,Nat.reduceAdd,m0,m1,m2,m3,m4,m5,m6,m7,e3,e4.1,e4.2,e5,e6,Cg,En]
  ·rcases iS h with⟨e6,h⟩|⟨e6,h⟩
   ·rcases iS h with⟨e7,h⟩|⟨e7,h⟩
    ·obtain⟨e8,h⟩:=ES h
     obtain rfl:=Option.some.inj h
     simp (maxDischargeDepth:=9) only [↓AL,AO,↓reduceIte,Nat.reduceEqDiff,Nat.reduceLT,Nat.reduceLeDiff,Nat.reduceAdd,m0,m1,m2,m3,m4,m5,m6,m7,e3,e4.1,e4.2,e5,decide_eq_true e6,e7,e8,Cg,En]
    ·obtain rfl:=Option.some.inj h
     simp (maxDischargeDepth:=9) only [↓AL,AO,↓reduceIte,Nat.reduceEqDiff,Nat.reduceLT,Nat.reduceAdd,m0,m1,m2,m3,m4,m5,m6,m7,e3,e4.1,e4.2,e5,decide_eq_true e6,e7,Cg,En]
   ·obtain rfl:=Option.some.inj h
    simp (maxDischargeDepth:=9) only [↓AL,AO,↓reduceIte,Nat.reduceEqDiff,Nat.reduceLT,Nat.reduceAdd,m0,m1,m2,m3,m4,m5,m6,m7,e3,e4.1,e4.2,e5,e6,Cg,En]
 ·obtain rfl:=Option.some.inj h
  simp (maxDischargeDepth:=9) only [↓AL,AO,↓reduceIte,Nat.reduceEqDiff,Nat.reduceLT,m0,m2,m3,m4,m6,m7,e3,Cg,H6,K3]
def EN(A8:List (List (Int×Int)))(out:List (Int×Int×Int×Int))(Aj:Int)(s:St):Prop:=s.v 3=D.own 101 (OV out)∧s.v 9=D.sl 79 (AQ (fun x=>D.sl 87 (Au .i64 .i64 x)) A8)∧s.v 10=D.int .i64 (A8.length:Int)∧s.v 11=D.int .i64 Aj
def H7(A8:List (List (Int×Int)))(r:(List (Int×Int×Int×Int)))(ex:Ex)(s:St):Prop:=ex= .exit 0∧s.v 3=D.own 101 (OV r)
theorem SY(A8:List (List (Int×Int))){v:(List (Int×Int×Int×Int))×Int}{s:St}{r:(List (Int×Int×Int×Int))}(h:J7 A8 v=some r)(hM:EN A8 v.1 v.2 s):Br Y.env A2S (H7 A8 r) s:=by
 unfold J7 at h;refine BH (c:=mo) (fun v=>EM A8 v.1 v.2) (fun v s=>EN A8 v.1 v.2 s) (H7 A8) ?_ h hM;clear h hM s v r;intro v s o hM h;obtain⟨out,Aj⟩:=v;dsimp only at h hM;unfold EM at h;unfold EN at hM;obtain⟨m0,m1,m2,m3⟩:=hM;unfold mo;rcases iS h with⟨e1,h⟩|⟨e1,h⟩
 ·obtain⟨e2,h⟩:=ES h;obtain⟨Aa,hl4,h⟩:=Ak h;try dsimp only at h
  simp (maxDischargeDepth:=9) only [↓AL,AO,↓reduceIte,Nat.reduceEqDiff,Nat.reduceLT,m1,m2,m3,e1,e2.1,e2.2];refine Aw (SX A8 Aj hl4 ?_) ?_
  ·simp (maxDischargeDepth:=9) only [BZ,↓reduceIte,Nat.reduceEqDiff,m0,m1,m2,m3,Cg]
  ·intro ex4 s4 hX4;unfold H6 at hX4;obtain⟨rfl,n4_0,n4_1,n4_2,n4_3⟩:=hX4
   obtain rfl:=Option.some.inj h
   simp (maxDischargeDepth:=9) only [↓AL,AO,↓reduceIte,Nat.reduceEqDiff,Nat.reduceLT,n4_0,n4_1,n4_2,n4_3,EN,En]
 ·obtain rfl:=Option.some.inj h
  simp (maxDischargeDepth:=9) only [↓AL,AO,↓reduceIte,Nat.reduceEqDiff,Nat.reduceLT,m0,m2,m3,e1,EN,H7,K3]
theorem Tc(A8:List (List (Int×Int)))(AR:AB)(A9:AB){r:(List (Int×Int×Int×Int))}(h:JJ A8 AR A9=some r):Y.call 78 [D.agg [D.sl 79 (AQ (fun x=>D.sl 87 (Au .i64 .i64 x)) A8),D.sl 3 (AQ (D.int .i64) AR),D.sl 3 (AQ (D.int .i64) A9)]] []=some (D.own 101 (OV r),[]):=by
 refine c78 ?_ rfl;unfold k78;unfold JJ at h;obtain⟨BA,hl2,h⟩:=Ak h;try dsimp only at h
 simp (maxDischargeDepth:=9) only [↓AL,AO,↓reduceIte,Nat.reduceEqDiff,Nat.reduceLT,Nat.reduceAdd];refine Aw (SY A8 hl2 ?_) ?_
 ·simp (maxDischargeDepth:=9) only [BZ,↓reduceIte,Nat.reduceEqDiff,EN]<;>(repeat' apply A7)<;>first|rfl|exact⟨_,rfl⟩|exact⟨_,_,rfl⟩|simp [AQ,CR]
 ·intro ex2 s2 hX2;unfold H7 at hX2;obtain⟨rfl,n2_0⟩:=hX2
  obtain rfl:=Option.some.inj h
  simp (maxDischargeDepth:=9) only [↓AL,AO,↓reduceIte,Nat.reduceEqDiff,Nat.reduceLT,n2_0]
noncomputable def Ag(s_:List (Int×Int×Int×Int))(f:Int→Int→Int→Int→Option Bool)(Iq:Int):Option ((Int)⊕(Int⊕Unit)):= if Iq<(s_.length:Int)then ck (0≤Iq∧Iq.toNat<s_.length)<| (f (q4a s_ Iq.toNat) (q4b s_ Iq.toNat) (q4c s_ Iq.toNat) (q4d s_ Iq.toNat)).bind fun TN=> if TN=true then some (Sum.inr (Sum.inl Iq)) else some (Sum.inl (IntKind.i64.wrap (Iq+1))) else some (Sum.inr (Sum.inr ()))
noncomputable def Av(s_:List (Int×Int×Int×Int))(f:Int→Int→Int→Int→Option Bool)(v:Int):Option (Int⊕Unit):=Fb (fun v=>Ag s_ f v) v
noncomputable def Ay(s_:List (Int×Int×Int×Int))(f:Int→Int→Int→Int→Option Bool):Option (Int):=
 (Av s_ f 0).bind fun Aa=>
 match Aa with
 | .inl q1000_=>
  some q1000_
 | .inr q1000_=>
  some (-1)
def bz:SC:= .seq (.ops [oB 9 .lss 3 (tK 8) (tK 7) 3 0]) (.seq (.cond (tK 9) .skip (.exit 0)) (.seq (.block 1 (.seq (.ops [oM 10 8 3,oA 5 10 3]) (.seq (.ops [oM 11 1 102,oM 12 0 97,oM 13 5 3,oI 14 97 12 13,oL 15 101 14 101,oX 16 (.call ⟨(.value (tK 11)), #[(tK 15)], #[101]⟩) 4]) (.cond (tK 16) (.seq (.ops [oM 17 5 3,oA 4 17 3]) .ret) .skip)))) (.ops [oB 18 .add 3 (tK 8) (iK 1) 3 3,oM 8 18 3])))
def xe:SC:= .loop bz
def AAw:SC:= .seq (.ops [oX 4 (.assign (iK 0)) 3]) (.seq (.seq (.ops [oM 6 0 97,oN 7 6 97,oX 8 (.move (iK 0)) 3]) (.block 0 xe)) (.seq (.ops [oX 4 SL 3]) .ret))
theorem A4h:Tryz.f111.body.map (BX lends)=some AAw:=by kernel_rfl
theorem AI6:Bj Tryz.f111 2=true:=by kernel_rfl
theorem AOP{a l:List D}{r:D×List D}(h:Br Y.env AAw (fin Ap l.length [ResultVar.tmp 4] r) (entry a l))(ha:a.length=2):Y.call 111 a l=some r:=
 AZ (Y:=Y) rfl Tryz.func111 (ha▸AI6) A4h h
def Ad(s_:List (Int×Int×Int×Int))(f:Int→Int→Int→Int→Option Bool)(f_f:FuncId)(f_c:List D)(Iq:Int)(s:St):Prop:=s.v 0=D.sl 101 (OV s_)∧s.v 1=D.clo f_f f_c∧s.v 7=D.int .i64 (s_.length:Int)∧s.v 8=D.int .i64 Iq
def Ah(s_:List (Int×Int×Int×Int))(f:Int→Int→Int→Int→Option Bool)(f_f:FuncId)(f_c:List D)(r:Int⊕Unit)(ex:Ex)(s:St):Prop:=match r with
 | .inl q=>ex= .ret∧s.v 4=D.int .i64 q
 | .inr q=>ex= .exit 0
theorem Cy(s_:List (Int×Int×Int×Int))(f:Int→Int→Int→Int→Option Bool)(f_f:FuncId)(f_c:List D)(f_h: ∀(a0_0:Int) (a0_1:Int) (a0_2:Int) (a0_3:Int) (r:Bool),f a0_0 a0_1 a0_2 a0_3=some r→Y.call f_f (D.agg [D.int .i64 a0_0,D.int .i64 a0_1,D.int .i64 a0_2,D.int .i64 a0_3]::f_c) []=some (D.bool r,[]))(f_l:lends f_f=false){v:Int}{s:St}{r:Int⊕Unit}(h:Av s_ f v=some r)(hM:Ad s_ f f_f f_c v s):Br Y.env xe (Ah s_ f f_f f_c r) s:=by
 unfold Av at h;refine BH (c:=bz) (fun v=>Ag s_ f v) (fun v s=>Ad s_ f f_f f_c v s) (Ah s_ f f_f f_c) ?_ h hM;clear h hM s v r;intro Iq s o hM h;unfold Ag at h;unfold Ad at hM;obtain⟨m0,m1,m2,m3⟩:=hM;unfold bz;rcases iS h with⟨e1,h⟩|⟨e1,h⟩
 ·obtain⟨e2,h⟩:=ES h;obtain⟨TN,hl3,h⟩:=Ak h;have c3:=f_h _ _ _ _ _ hl3;rcases iS h with⟨e4,h⟩|⟨e4,h⟩
  ·obtain rfl:=Option.some.inj h
   simp (maxDischargeDepth:=9) only [↓AL,AO,↓reduceIte,Nat.reduceEqDiff,Nat.reduceLT,Nat.reduceAdd,m0,m1,m2,m3,f_l,e1,e2.1,e2.2,c3,e4,Ad,Ah,Qu]
  ·have e4f:TN=false:=Jw.mpr e4
   obtain rfl:=Option.some.inj h
   simp (maxDischargeDepth:=9) only [↓AL,AO,↓reduceIte,Nat.reduceEqDiff,Nat.reduceLT,Nat.reduceAdd,m0,m1,m2,m3,f_l,e1,e2.1,e2.2,c3,e4f,Ad,En]
 ·obtain rfl:=Option.some.inj h
  simp (maxDischargeDepth:=9) only [↓AL,AO,↓reduceIte,Nat.reduceLT,m2,m3,e1,Ad,Ah,K3]
theorem D5(s_:List (Int×Int×Int×Int))(f:Int→Int→Int→Int→Option Bool)(f_f:FuncId)(f_c:List D)(f_h: ∀(a0_0:Int) (a0_1:Int) (a0_2:Int) (a0_3:Int) (r:Bool),f a0_0 a0_1 a0_2 a0_3=some r→Y.call f_f (D.agg [D.int .i64 a0_0,D.int .i64 a0_1,D.int .i64 a0_2,D.int .i64 a0_3]::f_c) []=some (D.bool r,[]))(f_l:lends f_f=false){r:Int}(h:Ay s_ f=some r):Y.call 111 [D.sl 101 (OV s_),D.clo f_f f_c] []=some (D.int .i64 r,[]):=by
 refine AOP ?_ rfl;unfold AAw;unfold Ay at h;obtain⟨Aa,hl2,h⟩:=Ak h;try dsimp only at h
 simp (maxDischargeDepth:=9) only [↓AL,AO,↓reduceIte,Nat.reduceEqDiff,Nat.reduceLT,Int.reduceNeg];refine Aw (Cy s_ f f_f f_c f_h f_l hl2 ?_) ?_
 ·simp (maxDischargeDepth:=9) only [BZ,Ei,↓reduceIte,Nat.reduceEqDiff,Nat.reduceLT,Ad]
 ·intro ex2 s2 hX2;rcases Aa with q1000_|q1000_
  ·unfold Ah at hX2;dsimp only at hX2 h;obtain⟨rfl,n2_0⟩:=hX2
   obtain rfl:=Option.some.inj h
   simp (maxDischargeDepth:=9) only [↓AL,AO,↓reduceIte,n2_0]
  ·unfold Ah at hX2;dsimp only at hX2 h
   obtain rfl:=hX2
   obtain rfl:=Option.some.inj h
   simp (maxDischargeDepth:=9) only [↓AL,AO,↓reduceIte,Nat.reduceEqDiff,Nat.reduceLT,Int.reduceNeg]
noncomputable def Am(s_:List (Int×Int×Int×Int))(f:Int→Int→Int→Int→Option Bool):Option (Bool):= (Ay s_ f).bind fun r7_=> some (decide (0≤r7_))
def k79:SC:= .seq (.ops [oX 4 CY 4]) (.seq (.ops [oM 5 0 97,oM 6 1 102,oC 7 111 [(tK 5),(tK 6)] [97,102] 3,oB 8 .geq 3 (tK 7) (iK 0) 3 4,oA 4 8 4]) .ret)
theorem AAx:Tryz.f79.body.map (BX lends)=some k79:=by kernel_rfl
theorem AOR:Bj Tryz.f79 2=true:=by kernel_rfl
theorem c79{a l:List D}{r:D×List D}(h:Br Y.env k79 (fin Ap l.length [ResultVar.tmp 4] r) (entry a l))(ha:a.length=2):Y.call 79 a l=some r:=
 AZ (Y:=Y) rfl Tryz.func79 (ha▸AOR) AAx h
theorem Cm(s_:List (Int×Int×Int×Int))(f:Int→Int→Int→Int→Option Bool)(f_f:FuncId)(f_c:List D)(f_h: ∀(a0_0:Int) (a0_1:Int) (a0_2:Int) (a0_3:Int) (r:Bool),f a0_0 a0_1 a0_2 a0_3=some r→Y.call f_f (D.agg [D.int .i64 a0_0,D.int .i64 a0_1,D.int .i64 a0_2,D.int .i64 a0_3]::f_c) []=some (D.bool r,[]))(f_l:lends f_f=false){r:Bool}(h:Am s_ f=some r):Y.call 79 [D.sl 101 (OV s_),D.clo f_f f_c] []=some (D.bool r,[]):=by
 refine c79 ?_ rfl;unfold k79;unfold Am at h;obtain⟨r7_,hl1,h⟩:=Ak h;try dsimp only at h
 have c1:=D5 s_ f f_f f_c f_h f_l hl1
 obtain rfl:=Option.some.inj h
 simp (maxDischargeDepth:=9) only [↓AL,AO,↓reduceIte,Nat.reduceEqDiff,Nat.reduceLT,Nat.reduceAdd,c1]
noncomputable def MI(e_v:Int)(e_i:Int)(e_w:Int)(e_j:Int):Option (Bool):= if e_v=e_w then some (decide (e_i=e_j)) else some false
def k80:SC:= .seq (.ops [oX 1 (.box 101 (tK 0)) 0,oX 2 CY 4]) (.seq (.ops [oF 3 101 1 0,oL 4 3 3 3,oF 5 101 1 2,oL 6 3 5 3,oB 7 .eql 3 (tK 4) (tK 6) 3 4,oM 8 7 4,⟨(some 9),(.fieldAddr 101 (tK 1) 1),0,(some (some 8,true))⟩,⟨(some 10),(.load 3 (tK 9)),3,(some (some 8,true))⟩,⟨(some 11),(.fieldAddr 101 (tK 1) 3),0,(some (some 8,true))⟩,⟨(some 12),(.load 3 (tK 11)),3,(some (some 8,true))⟩,⟨(some 13),(.binOp .eql 3 (tK 10) (tK 12) 3),4,(some (some 8,true))⟩,oX 14 (.pick (tK 8) (tK 13) MS) 4,oA 2 14 4]) .ret)
theorem AAy:Tryz.f80.body.map (BX lends)=some k80:=by kernel_rfl
theorem AOT:Bj Tryz.f80 1=true:=by kernel_rfl
theorem c80{a l:List D}{r:D×List D}(h:Br Y.env k80 (fin Ap l.length [ResultVar.tmp 2] r) (entry a l))(ha:a.length=1):Y.call 80 a l=some r:=
 AZ (Y:=Y) rfl Tryz.func80 (ha▸AOT) AAy h
theorem XL(e_v:Int)(e_i:Int)(e_w:Int)(e_j:Int){r:Bool}(h:MI e_v e_i e_w e_j=some r):Y.call 80 [D.agg [D.int .i64 e_v,D.int .i64 e_i,D.int .i64 e_w,D.int .i64 e_j]] []=some (D.bool r,[]):=by
 refine c80 ?_ rfl;unfold k80;unfold MI at h;rcases iS h with⟨e1,h⟩|⟨e1,h⟩
 ·obtain rfl:=Option.some.inj h
  simp (maxDischargeDepth:=9) only [↓AL,AO,↓reduceIte,Nat.reduceEqDiff,Nat.reduceLT,Nat.reduceAdd,decide_eq_true e1]
 ·obtain rfl:=Option.some.inj h
  simp (maxDischargeDepth:=9) only [↓AL,AO,↓reduceIte,Nat.reduceEqDiff,Nat.reduceLT,Nat.reduceAdd,e1]
noncomputable def FN(A8:List (List (Int×Int)))(AR:AB)(A9:AB)(CS:AB)(Bu:Int)(R3:AB)(out1:AB)(Qd:Int):Option ((AB×Int)⊕(AB)):= if Qd<(R3.length:Int)then ck (0≤Qd∧Qd.toNat<R3.length)<| if 0≤(R3.getD Qd.toNat default)then ck (0≤Qd∧Qd.toNat<out1.length)<| some (Sum.inl ((out1.set Qd.toNat Bu),IntKind.i64.wrap (Qd+1))) else some (Sum.inl (out1,IntKind.i64.wrap (Qd+1))) else some (Sum.inr out1)
noncomputable def JK(A8:List (List (Int×Int)))(AR:AB)(A9:AB)(CS:AB)(Bu:Int)(R3:AB)(v:AB×Int):Option (AB):=Fb (fun v=>FN A8 AR A9 CS Bu R3 v.1 v.2) v
noncomputable def FO(A8:List (List (Int×Int)))(AR:AB)(A9:AB)(CS:AB)(out:AB)(Bu:Int):Option ((AB×Int)⊕(AB)):= if Bu<(CS.length:Int)then ck (0≤Bu∧Bu.toNat<out.length)<| if 0≤(out.getD Bu.toNat default)then some (Sum.inl (out,IntKind.i64.wrap (Bu+1))) else (JI A8 AR A9 Bu).bind fun R3=> (JK A8 AR A9 CS Bu R3 (out,0)).bind fun Aa=> some (Sum.inl (Aa,IntKind.i64.wrap (Bu+1))) else some (Sum.inr out)
noncomputable def M0(A8:List (List (Int×Int)))(AR:AB)(A9:AB)(CS:AB)(v:AB×Int):Option (AB):=Fb (fun v=>FO A8 AR A9 CS v.1 v.2) v
noncomputable def LC(A8:List (List (Int×Int)))(AR:AB)(A9:AB):Option (AB):= (Ch [(-1)] (A8.length:Int)).bind fun CS=> (M0 A8 AR A9 CS (CS,0)).bind fun BA=> some BA
def mq:SC:= .seq (.ops [oB 27 .lss 3 (tK 26) (tK 25) 3 0]) (.seq (.cond (tK 27) .skip (.exit 2)) (.seq (.block 3 (.seq (.ops [oM 28 26 3,oI 29 26 24 26,oL 30 3 29 3,oA 5 28 3,oA 6 30 3]) (.seq (.ops [oM 31 6 3,oB 32 .geq 3 (tK 31) (iK 0) 3 4]) (.cond (tK 32) (.ops [oM 33 3 26,oM 34 5 3,oM 35 4 3,oI 36 26 33 34,oS 3 36 35]) .skip)))) (.ops [oB 37 .add 3 (tK 26) (iK 1) 3 3,oM 26 37 3])))
def A2T:SC:= .loop mq
def mr:SC:= .seq (.ops [oB 15 .lss 3 (tK 14) (tK 13) 3 0]) (.seq (.cond (tK 15) .skip (.exit 0)) (.seq (.block 1 (.seq (.ops [oM 16 14 3,oA 4 16 3]) (.seq (.seq (.ops [oM 17 3 26,oM 18 4 3,oI 19 26 17 18,oL 20 3 19 3,oB 21 .geq 3 (tK 20) (iK 0) 3 4]) (.cond (tK 21) (.exit 1) .skip)) (.seq (.ops [oL 22 38 1 38,oM 23 4 3,oC 24 87 [(tK 22),(tK 23)] [38,3] 26,oN 25 24 26,oX 26 (.move (iK 0)) 3]) (.block 2 A2T))))) (.ops [oB 38 .add 3 (tK 14) (iK 1) 3 3,oM 14 38 3])))
def A2U:SC:= .loop mr
def k53:SC:= .seq (.ops [oX 1 (.box 38 (tK 0)) 0,oX 2 KL 26]) (.seq (.ops [oX 7 (.buildSlice 26 1 #[(0,vH)]) 26,oF 8 38 1 0,oL 9 36 8 36,oN 10 9 36,oC 11 81 [(tK 7),(tK 10)] [26,3] 26,oA 3 11 26]) (.seq (.seq (.ops [oM 12 3 26,oN 13 12 26,oX 14 (.move (iK 0)) 3]) (.block 0 A2U)) (.seq (.ops [oM 39 3 26,oA 2 39 26]) .ret)))
theorem AAz:Tryz.f53.body.map (BX lends)=some k53:=by kernel_rfl
theorem AOV:Bj Tryz.f53 1=true:=by kernel_rfl
theorem c53{a l:List D}{r:D×List D}(h:Br Y.env k53 (fin Ap l.length [ResultVar.tmp 2] r) (entry a l))(ha:a.length=1):Y.call 53 a l=some r:=
 AZ (Y:=Y) rfl Tryz.func53 (ha▸AOV) AAz h
def EZ(A8:List (List (Int×Int)))(AR:AB)(A9:AB)(CS:AB)(Bu:Int)(R3:AB)(out1:AB)(Qd:Int)(s:St):Prop:=s.v 1=D.box [D.sl 79 (AQ (fun x=>D.sl 87 (Au .i64 .i64 x)) A8),D.sl 3 (AQ (D.int .i64) AR),D.sl 3 (AQ (D.int .i64) A9)]∧s.v 3=D.own 3 (AQ (D.int .i64) out1)∧s.v 4=D.int .i64 Bu∧s.v 13=D.int .i64 (CS.length:Int)∧s.v 14=D.int .i64 Bu∧s.v 24=D.own 3 (AQ (D.int .i64) R3)∧s.v 25=D.int .i64 (R3.length:Int)∧s.v 26=D.int .i64 Qd
def KG(A8:List (List (Int×Int)))(AR:AB)(A9:AB)(CS:AB)(Bu:Int)(R3:AB)(r:AB)(ex:Ex)(s:St):Prop:=ex= .exit 2∧s.v 1=D.box [D.sl 79 (AQ (fun x=>D.sl 87 (Au .i64 .i64 x)) A8),D.sl 3 (AQ (D.int .i64) AR),D.sl 3 (AQ (D.int .i64) A9)]∧s.v 3=D.own 3 (AQ (D.int .i64) r)∧s.v 13=D.int .i64 (CS.length:Int)∧s.v 14=D.int .i64 Bu
theorem Uw(A8:List (List (Int×Int)))(AR:AB)(A9:AB)(CS:AB)(Bu:Int)(R3:AB){v:AB×Int}{s:St}{r:AB}(h:JK A8 AR A9 CS Bu R3 v=some r)(hM:EZ A8 AR A9 CS Bu R3 v.1 v.2 s):Br Y.env A2T (KG A8 AR A9 CS Bu R3 r) s:=by
 unfold JK at h;refine BH (c:=mq) (fun v=>FN A8 AR A9 CS Bu R3 v.1 v.2) (fun v s=>EZ A8 AR A9 CS Bu R3 v.1 v.2 s) (KG A8 AR A9 CS Bu R3) ?_ h hM;clear h hM s v r;intro v s o hM h;obtain⟨out1,Qd⟩:=v;dsimp only at h hM;unfold FN at h;unfold EZ at hM;obtain⟨m0,m1,m2,m3,m4,m5,m6,m7⟩:=hM;unfold mq;rcases iS h with⟨e6,h⟩|⟨e6,h⟩
 ·obtain⟨e7,h⟩:=ES h;rcases iS h with⟨e8,h⟩|⟨e8,h⟩
  ·obtain⟨e9,h⟩:=ES h
   obtain rfl:=Option.some.inj h
   simp (maxDischargeDepth:=9) only [↓AL,AO,↓reduceIte,Nat.reduceEqDiff,Nat.reduceLT,m0,m1,m2,m3,m4,m5,m6,m7,e6,e7.1,e7.2,e8,e9.2,EZ,En]
  ·obtain rfl:=Option.some.inj h
   simp (maxDischargeDepth:=9) only [↓AL,AO,↓reduceIte,Nat.reduceEqDiff,Nat.reduceLT,m0,m1,m2,m3,m4,m5,m6,m7,e6,e7.1,e7.2,e8,EZ,En]
 ·obtain rfl:=Option.some.inj h
  simp (maxDischargeDepth:=9) only [↓AL,AO,↓reduceIte,Nat.reduceEqDiff,Nat.reduceLT,m0,m1,m3,m4,m6,m7,e6,EZ,KG,K3]
def Ea(A8:List (List (Int×Int)))(AR:AB)(A9:AB)(CS:AB)(out:AB)(Bu:Int)(s:St):Prop:=s.v 1=D.box [D.sl 79 (AQ (fun x=>D.sl 87 (Au .i64 .i64 x)) A8),D.sl 3 (AQ (D.int .i64) AR),D.sl 3 (AQ (D.int .i64) A9)]∧s.v 3=D.own 3 (AQ (D.int .i64) out)∧s.v 13=D.int .i64 (CS.length:Int)∧s.v 14=D.int .i64 Bu
def KH(A8:List (List (Int×Int)))(AR:AB)(A9:AB)(CS:AB)(r:AB)(ex:Ex)(s:St):Prop:=ex= .exit 0∧s.v 3=D.own 3 (AQ (D.int .i64) r)
theorem Ux(A8:List (List (Int×Int)))(AR:AB)(A9:AB)(CS:AB){v:AB×Int}{s:St}{r:AB}(h:M0 A8 AR A9 CS v=some r)(hM:Ea A8 AR A9 CS v.1 v.2 s):Br Y.env A2U (KH A8 AR A9 CS r) s:=by
 unfold M0 at h;refine BH (c:=mr) (fun v=>FO A8 AR A9 CS v.1 v.2) (fun v s=>Ea A8 AR A9 CS v.1 v.2 s) (KH A8 AR A9 CS) ?_ h hM;clear h hM s v r;intro v s o hM h;obtain⟨out,Bu⟩:=v;dsimp only at h hM;unfold FO at h;unfold Ea at hM;obtain⟨m0,m1,m2,m3⟩:=hM;unfold mr;rcases iS h with⟨e2,h⟩|⟨e2,h⟩
 ·obtain⟨e3,h⟩:=ES h;rcases iS h with⟨e4,h⟩|⟨e4,h⟩
  ·obtain rfl:=Option.some.inj h
   simp (maxDischargeDepth:=9) only [↓AL,AO,↓reduceIte,Nat.reduceEqDiff,Nat.reduceLT,m0,m1,m2,m3,e2,e3.1,e3.2,e4,Ea,En]
  ·obtain⟨R3,hl5,h⟩:=Ak h;have c5:=TZ A8 AR A9 Bu hl5;obtain⟨Aa,hl7,h⟩:=Ak h;try dsimp only at h
   simp (maxDischargeDepth:=9) only [↓AL,AO,↓reduceIte,Nat.reduceEqDiff,Nat.reduceLT,Nat.reduceAdd,m0,m1,m2,m3,e2,e3.1,e3.2,e4,c5];refine Aw (Uw A8 AR A9 CS Bu R3 hl7 ?_) ?_
   ·simp (maxDischargeDepth:=9) only [BZ,↓reduceIte,Nat.reduceEqDiff,m0,m1,m2,m3,EZ]
   ·intro ex7 s7 hX7;unfold KG at hX7;obtain⟨rfl,n7_0,n7_1,n7_2,n7_3⟩:=hX7
    obtain rfl:=Option.some.inj h
    simp (maxDischargeDepth:=9) only [↓AL,AO,↓reduceIte,Nat.reduceEqDiff,Nat.reduceLT,n7_0,n7_1,n7_2,n7_3,Ea,En]
 ·obtain rfl:=Option.some.inj h
  simp (maxDischargeDepth:=9) only [↓AL,AO,↓reduceIte,Nat.reduceEqDiff,Nat.reduceLT,m1,m2,m3,e2,Ea,KH,K3]
theorem QT(A8:List (List (Int×Int)))(AR:AB)(A9:AB){r:AB}(h:LC A8 AR A9=some r):Y.call 53 [D.agg [D.sl 79 (AQ (fun x=>D.sl 87 (Au .i64 .i64 x)) A8),D.sl 3 (AQ (D.int .i64) AR),D.sl 3 (AQ (D.int .i64) A9)]] []=some (D.own 3 (AQ (D.int .i64) r),[]):=by
 refine c53 ?_ rfl;unfold k53;unfold LC at h;obtain⟨CS,hl1,h⟩:=Ak h;try dsimp only at h
 have c1:=FC [(-1)] (A8.length:Int) hl1;simp only [KW,Vm]at c1;obtain⟨BA,hl3,h⟩:=Ak h;try dsimp only at h
 simp (maxDischargeDepth:=9) only [↓AL,AO,↓reduceIte,Nat.reduceEqDiff,Nat.reduceLT,Nat.reduceLeDiff,Nat.reduceAdd,Int.reduceNeg,c1];refine Aw (Ux A8 AR A9 CS hl3 ?_) ?_
 ·simp (maxDischargeDepth:=9) only [BZ,↓reduceIte,Nat.reduceEqDiff,Int.reduceNeg,Ea]
 ·intro ex3 s3 hX3;unfold KH at hX3;obtain⟨rfl,n3_0⟩:=hX3
  obtain rfl:=Option.some.inj h
  simp (maxDischargeDepth:=9) only [↓AL,AO,↓reduceIte,Nat.reduceEqDiff,Nat.reduceLT,n3_0]
noncomputable def Gf(A8:List (List (Int×Int)))(AR:AB)(A9:AB)(V8:(List (Int×Int×Int×Int)))(GY:AB)(GM:Int)(Bu:Int):Option ((Int×Int)⊕(Int)):= if Bu<(GY.length:Int)then ck (0≤Bu∧Bu.toNat<GY.length)<| if Bu=(GY.getD Bu.toNat default)then some (Sum.inl (IntKind.i64.wrap (GM+1),IntKind.i64.wrap (Bu+1))) else some (Sum.inl (GM,IntKind.i64.wrap (Bu+1))) else some (Sum.inr GM)
noncomputable def Lm(A8:List (List (Int×Int)))(AR:AB)(A9:AB)(V8:(List (Int×Int×Int×Int)))(GY:AB)(v:Int×Int):Option (Int):=Fb (fun v=>Gf A8 AR A9 V8 GY v.1 v.2) v
noncomputable def Pj(A8:List (List (Int×Int)))(AR:AB)(A9:AB):Option (Bool):= (JJ A8 AR A9).bind fun V8=> (Am V8 (fun a0_0 a0_1 a0_2 a0_3=>MI a0_0 a0_1 a0_2 a0_3)).bind fun Uo=> if Uo=true then some false else (LC A8 AR A9).bind fun GY=> (Lm A8 AR A9 V8 GY (0,0)).bind fun Aa=> some (decide ((V8.length:Int)=(IntKind.i64.wrap ((A8.length:Int)-Aa))))
def nA:SC:= .seq (.ops [oB 15 .lss 3 (tK 14) (tK 13) 3 0]) (.seq (.cond (tK 15) .skip (.exit 0)) (.seq (.block 1 (.seq (.ops [oM 16 14 3,oI 17 26 12 14,oL 18 3 17 3,oA 5 16 3,oA 6 18 3]) (.seq (.ops [oM 19 5 3,oM 20 6 3,oB 21 .eql 3 (tK 19) (tK 20) 3 4]) (.cond (tK 21) (.ops [oM 22 4 3,oB 23 .add 3 (tK 22) (iK 1) 3 3,oA 4 23 3]) .skip)))) (.ops [oB 24 .add 3 (tK 14) (iK 1) 3 3,oM 14 24 3])))
def A2V:SC:= .loop nA
def k47:SC:= .seq (.ops [oX 1 (.box 38 (tK 0)) 0,oX 2 CY 4]) (.seq (.ops [oL 7 38 1 38,oC 8 78 [(tK 7)] [38] 97,oA 3 8 97]) (.seq (.seq (.ops [oM 9 3 97,oC 10 79 [(tK 9),(.func 80)] [97,102] 4]) (.cond (tK 10) (.seq (.ops [oX 2 CY 4]) .ret) .skip)) (.seq (.ops [oX 4 (.assign (iK 0)) 3]) (.seq (.seq (.ops [oL 11 38 1 38,oC 12 53 [(tK 11)] [38] 26,oN 13 12 26,oX 14 (.move (iK 0)) 3]) (.block 0 A2V)) (.seq (.ops [oM 25 3 97,oN 26 25 97,oF 27 38 1 0,oL 28 36 27 36,oN 29 28 36,oM 30 4 3,oB 31 .sub 3 (tK 29) (tK 30) 3 3,oB 32 .eql 3 (tK 26) (tK 31) 3 4,oA 2 32 4]) .ret)))))
theorem AB0:Tryz.f47.body.map (BX lends)=some k47:=by kernel_rfl
theorem AOX:Bj Tryz.f47 1=true:=by kernel_rfl
theorem c47{a l:List D}{r:D×List D}(h:Br Y.env k47 (fin Ap l.length [ResultVar.tmp 2] r) (entry a l))(ha:a.length=1):Y.call 47 a l=some r:=
 AZ (Y:=Y) rfl Tryz.func47 (ha▸AOX) AB0 h
def FR(A8:List (List (Int×Int)))(AR:AB)(A9:AB)(V8:(List (Int×Int×Int×Int)))(GY:AB)(GM:Int)(Bu:Int)(s:St):Prop:=s.v 1=D.box [D.sl 79 (AQ (fun x=>D.sl 87 (Au .i64 .i64 x)) A8),D.sl 3 (AQ (D.int .i64) AR),D.sl 3 (AQ (D.int .i64) A9)]∧s.v 3=D.own 101 (OV V8)∧s.v 4=D.int .i64 GM∧s.v 12=D.own 3 (AQ (D.int .i64) GY)∧s.v 13=D.int .i64 (GY.length:Int)∧s.v 14=D.int .i64 Bu
def M3(A8:List (List (Int×Int)))(AR:AB)(A9:AB)(V8:(List (Int×Int×Int×Int)))(GY:AB)(r:Int)(ex:Ex)(s:St):Prop:=ex= .exit 0∧s.v 1=D.box [D.sl 79 (AQ (fun x=>D.sl 87 (Au .i64 .i64 x)) A8),D.sl 3 (AQ (D.int .i64) AR),D.sl 3 (AQ (D.int .i64) A9)]∧s.v 3=D.own 101 (OV V8)∧s.v 4=D.int .i64 r
theorem XM(A8:List (List (Int×Int)))(AR:AB)(A9:AB)(V8:(List (Int×Int×Int×Int)))(GY:AB){v:Int×Int}{s:St}{r:Int}(h:Lm A8 AR A9 V8 GY v=some r)(hM:FR A8 AR A9 V8 GY v.1 v.2 s):Br Y.env A2V (M3 A8 AR A9 V8 GY r) s:=by
 unfold Lm at h;refine BH (c:=nA) (fun v=>Gf A8 AR A9 V8 GY v.1 v.2) (fun v s=>FR A8 AR A9 V8 GY v.1 v.2 s) (M3 A8 AR A9 V8 GY) ?_ h hM;clear h hM s v r;intro v s o hM h;obtain⟨GM,Bu⟩:=v;dsimp only at h hM;unfold Gf at h;unfold FR at hM;obtain⟨m0,m1,m2,m3,m4,m5⟩:=hM;unfold nA;rcases iS h with⟨e5,h⟩|⟨e5,h⟩
 ·obtain⟨e6,h⟩:=ES h;rcases iS h with⟨e7,h⟩|⟨e7,h⟩
  ·obtain rfl:=Option.some.inj h
   simp (maxDischargeDepth:=9) only [↓AL,AO,↓reduceIte,Nat.reduceEqDiff,Nat.reduceLT,m0,m1,m2,m3,m4,m5,e5,e6.1,e6.2,decide_eq_true e7,FR,En]
  ·obtain rfl:=Option.some.inj h
   simp (maxDischargeDepth:=9) only [↓AL,AO,↓reduceIte,Nat.reduceEqDiff,Nat.reduceLT,m0,m1,m2,m3,m4,m5,e5,e6.1,e6.2,e7,FR,En]
 ·obtain rfl:=Option.some.inj h
  simp (maxDischargeDepth:=9) only [↓AL,AO,↓reduceIte,Nat.reduceEqDiff,Nat.reduceLT,m0,m1,m2,m4,m5,e5,FR,M3,K3]
theorem Ye(A8:List (List (Int×Int)))(AR:AB)(A9:AB){r:Bool}(h:Pj A8 AR A9=some r):Y.call 47 [D.agg [D.sl 79 (AQ (fun x=>D.sl 87 (Au .i64 .i64 x)) A8),D.sl 3 (AQ (D.int .i64) AR),D.sl 3 (AQ (D.int .i64) A9)]] []=some (D.bool r,[]):=by
 refine c47 ?_ rfl;unfold k47;unfold Pj at h;obtain⟨V8,hl1,h⟩:=Ak h;have c1:=Tc A8 AR A9 hl1;obtain⟨Uo,hl2,h⟩:=Ak h;have c2:=Cm V8 (fun a0_0 a0_1 a0_2 a0_3=>MI a0_0 a0_1 a0_2 a0_3) 80 [] (fun a0_0 a0_1 a0_2 a0_3 _ hh=>XL a0_0 a0_1 a0_2 a0_3 hh) A9c hl2;rcases iS h with⟨e3,h⟩|⟨e3,h⟩
 ·obtain rfl:=Option.some.inj h
  simp (maxDischargeDepth:=9) only [↓AL,AO,↓reduceIte,Nat.reduceEqDiff,Nat.reduceLT,Nat.reduceAdd,c1,c2,e3]
 ·have e3f:Uo=false:=Jw.mpr e3;obtain⟨GY,hl4,h⟩:=Ak h;have c4:=QT A8 AR A9 hl4;obtain⟨Aa,hl6,h⟩:=Ak h;try dsimp only at h
  simp (maxDischargeDepth:=9) only [↓AL,AO,↓reduceIte,Nat.reduceEqDiff,Nat.reduceLT,Nat.reduceAdd,c1,c2,e3f,c4];refine Aw (XM A8 AR A9 V8 GY hl6 ?_) ?_
  ·simp (maxDischargeDepth:=9) only [BZ,↓reduceIte,Nat.reduceEqDiff,FR]
  ·intro ex6 s6 hX6;unfold M3 at hX6;obtain⟨rfl,n6_0,n6_1,n6_2⟩:=hX6
   obtain rfl:=Option.some.inj h
   simp (maxDischargeDepth:=9) only [↓AL,AO,↓reduceIte,Nat.reduceEqDiff,Nat.reduceLT,n6_0,n6_1,n6_2]
noncomputable def Jq(A8:List (List (Int×Int)))(AR:AB)(A9:AB)(Gv:Int)(LB:Int):Option ((Int)⊕(Unit⊕Unit)):= if LB<((A8.getD Gv.toNat default).length:Int)then ck (0≤LB∧LB.toNat<(A8.getD Gv.toNat default).length)<| if(((BP (A8.getD Gv.toNat default) LB.toNat)==Gv)&&((Ck (A8.getD Gv.toNat default) LB.toNat)==LB))=true then some (Sum.inr (Sum.inl ())) else some (Sum.inl (IntKind.i64.wrap (LB+1))) else some (Sum.inr (Sum.inr ()))
noncomputable def O5(A8:List (List (Int×Int)))(AR:AB)(A9:AB)(Gv:Int)(v:Int):Option (Unit⊕Unit):=Fb (fun v=>Jq A8 AR A9 Gv v) v
noncomputable def Jr(A8:List (List (Int×Int)))(AR:AB)(A9:AB)(Gv:Int):Option ((Int)⊕(Unit⊕Unit)):=
 if Gv<(A8.length:Int)then
  ck (0≤Gv∧Gv.toNat<A8.length)<|
  (O5 A8 AR A9 Gv 0).bind fun Aa=>
  match Aa with
  | .inl q1000_=>
   some (Sum.inr (Sum.inl ()))
  | .inr q1000_=>
   some (Sum.inl (IntKind.i64.wrap (Gv+1)))
 else
  some (Sum.inr (Sum.inr ()))
noncomputable def QU(A8:List (List (Int×Int)))(AR:AB)(A9:AB)(v:Int):Option (Unit⊕Unit):=Fb (fun v=>Jr A8 AR A9 v) v
noncomputable def Td(A8:List (List (Int×Int)))(AR:AB)(A9:AB):Option (Bool):=
 (QU A8 AR A9 0).bind fun BA=>
 match BA with
 | .inl q1001_=>
  some true
 | .inr q1001_=>
  some false
def cB:SC:= .seq (.ops [oB 19 .lss 3 (tK 18) (tK 17) 3 0]) (.seq (.cond (tK 19) .skip (.exit 2)) (.seq (.block 3 (.seq (.ops [oM 20 18 3,oI 21 79 16 18,oL 22 87 21 87,oX 5 (.alloc 87) 0,oA 4 20 3,oS 87 5 22]) (.seq (.ops [oL 23 87 5 87,oM 24 3 3,oM 25 4 3,oX 26 (.build 87 #[(0,(tK 24)),(1,(tK 25))]) 87,oB 27 .eql 87 (tK 23) (tK 26) 87 4]) (.cond (tK 27) (.seq (.ops [oX 2 (.assign F7) 4]) .ret) .skip)))) (.ops [oB 28 .add 3 (tK 18) (iK 1) 3 3,oM 18 28 3])))
def xf:SC:= .loop cB
def cK:SC:= .seq (.ops [oB 10 .lss 3 (tK 9) (tK 8) 3 0]) (.seq (.cond (tK 10) .skip (.exit 0)) (.seq (.block 1 (.seq (.ops [oM 11 9 3,oA 3 11 3]) (.seq (.ops [oF 12 38 1 0,oL 13 36 12 36,oM 14 3 3,oI 15 36 13 14,oL 16 79 15 79,oN 17 16 79,oX 18 (.move (iK 0)) 3]) (.block 2 xf)))) (.ops [oB 29 .add 3 (tK 9) (iK 1) 3 3,oM 9 29 3])))
def xg:SC:= .loop cK
def AB1:SC:= .seq (.ops [oX 1 (.box 38 (tK 0)) 0,oX 2 CY 4]) (.seq (.seq (.ops [oF 6 38 1 0,oL 7 36 6 36,oN 8 7 36,oX 9 (.move (iK 0)) 3]) (.block 0 xg)) (.seq (.ops [oX 2 CY 4]) .ret))
theorem A4i:Tryz.f109.body.map (BX lends)=some AB1:=by kernel_rfl
theorem AI7:Bj Tryz.f109 1=true:=by kernel_rfl
theorem AOY{a l:List D}{r:D×List D}(h:Br Y.env AB1 (fin Ap l.length [ResultVar.tmp 2] r) (entry a l))(ha:a.length=1):Y.call 109 a l=some r:=
 AZ (Y:=Y) rfl Tryz.func109 (ha▸AI7) A4i h
def Hm(A8:List (List (Int×Int)))(AR:AB)(A9:AB)(Gv:Int)(LB:Int)(s:St):Prop:=s.v 1=D.box [D.sl 79 (AQ (fun x=>D.sl 87 (Au .i64 .i64 x)) A8),D.sl 3 (AQ (D.int .i64) AR),D.sl 3 (AQ (D.int .i64) A9)]∧s.v 3=D.int .i64 Gv∧s.v 8=D.int .i64 (A8.length:Int)∧s.v 9=D.int .i64 Gv∧s.v 16=D.sl 87 (Au .i64 .i64 (A8.getD Gv.toNat default))∧s.v 17=D.int .i64 ((A8.getD Gv.toNat default).length:Int)∧s.v 18=D.int .i64 LB
def Js(A8:List (List (Int×Int)))(AR:AB)(A9:AB)(Gv:Int)(r:Unit⊕Unit)(ex:Ex)(s:St):Prop:=match r with
 | .inl q=>ex= .ret∧s.v 2=D.bool true
 | .inr q=>ex= .exit 2∧s.v 1=D.box [D.sl 79 (AQ (fun x=>D.sl 87 (Au .i64 .i64 x)) A8),D.sl 3 (AQ (D.int .i64) AR),D.sl 3 (AQ (D.int .i64) A9)]∧s.v 8=D.int .i64 (A8.length:Int)∧s.v 9=D.int .i64 Gv
theorem cO(A8:List (List (Int×Int)))(AR:AB)(A9:AB)(Gv:Int){v:Int}{s:St}{r:Unit⊕Unit}(h:O5 A8 AR A9 Gv v=some r)(hM:Hm A8 AR A9 Gv v s):Br Y.env xf (Js A8 AR A9 Gv r) s:=by
 unfold O5 at h;refine BH (c:=cB) (fun v=>Jq A8 AR A9 Gv v) (fun v s=>Hm A8 AR A9 Gv v s) (Js A8 AR A9 Gv) ?_ h hM;clear h hM s v r;intro LB s o hM h;unfold Jq at h;unfold Hm at hM;obtain⟨m0,m1,m2,m3,m4,m5,m6⟩:=hM;unfold cB;rcases iS h with⟨e3,h⟩|⟨e3,h⟩
 ·obtain⟨e4,h⟩:=ES h;rcases iS h with⟨e5,h⟩|⟨e5,h⟩
  ·obtain rfl:=Option.some.inj h
   simp (maxDischargeDepth:=9) only [↓AL,AO,↓reduceIte,Nat.reduceEqDiff,Nat.reduceLT,Nat.reduceLeDiff,Nat.reduceAdd,m1,m4,m5,m6,e3,e4.1,e4.2,e5,Hm,Js,Qu]
  ·have e5f:(((BP (A8.getD Gv.toNat default) LB.toNat)==Gv)&&((Ck (A8.getD Gv.toNat default) LB.toNat)==LB))=false:=Jw.mpr e5
   obtain rfl:=Option.some.inj h
   simp (maxDischargeDepth:=9) only [↓AL,AO,↓reduceIte,Nat.reduceEqDiff,Nat.reduceLT,Nat.reduceLeDiff,Nat.reduceAdd,m0,m1,m2,m3,m4,m5,m6,e3,e4.1,e4.2,e5f,Hm,En]
 ·obtain rfl:=Option.some.inj h
  simp (maxDischargeDepth:=9) only [↓AL,AO,↓reduceIte,Nat.reduceEqDiff,Nat.reduceLT,m0,m2,m3,m5,m6,e3,Hm,Js,K3]
def Ho(A8:List (List (Int×Int)))(AR:AB)(A9:AB)(Gv:Int)(s:St):Prop:=s.v 1=D.box [D.sl 79 (AQ (fun x=>D.sl 87 (Au .i64 .i64 x)) A8),D.sl 3 (AQ (D.int .i64) AR),D.sl 3 (AQ (D.int .i64) A9)]∧s.v 8=D.int .i64 (A8.length:Int)∧s.v 9=D.int .i64 Gv
def Jt(A8:List (List (Int×Int)))(AR:AB)(A9:AB)(r:Unit⊕Unit)(ex:Ex)(s:St):Prop:=match r with
 | .inl q=>ex= .ret∧s.v 2=D.bool true
 | .inr q=>ex= .exit 0
theorem cZ(A8:List (List (Int×Int)))(AR:AB)(A9:AB){v:Int}{s:St}{r:Unit⊕Unit}(h:QU A8 AR A9 v=some r)(hM:Ho A8 AR A9 v s):Br Y.env xg (Jt A8 AR A9 r) s:=by
 unfold QU at h;refine BH (c:=cK) (fun v=>Jr A8 AR A9 v) (fun v s=>Ho A8 AR A9 v s) (Jt A8 AR A9) ?_ h hM;clear h hM s v r;intro Gv s o hM h;unfold Jr at h;unfold Ho at hM;obtain⟨m0,m1,m2⟩:=hM;unfold cK;rcases iS h with⟨e1,h⟩|⟨e1,h⟩
 ·obtain⟨e2,h⟩:=ES h;obtain⟨Aa,hl4,h⟩:=Ak h;try dsimp only at h
  simp (maxDischargeDepth:=9) only [↓AL,AO,↓reduceIte,Nat.reduceEqDiff,Nat.reduceLT,m0,m1,m2,e1,e2.1,e2.2];refine Aw (cO A8 AR A9 Gv hl4 ?_) ?_
  ·simp (maxDischargeDepth:=9) only [BZ,↓reduceIte,Nat.reduceEqDiff,m0,m1,m2,Hm]
  ·intro ex4 s4 hX4;rcases Aa with q1000_|q1000_
   ·unfold Js at hX4;dsimp only at hX4 h;obtain⟨rfl,n4_0⟩:=hX4
    obtain rfl:=Option.some.inj h
    simp (maxDischargeDepth:=9) only [↓AL,AO,n4_0,Ho,Jt,Qu]
   ·unfold Js at hX4;dsimp only at hX4 h;obtain⟨rfl,n4_0,n4_1,n4_2⟩:=hX4
    obtain rfl:=Option.some.inj h
    simp (maxDischargeDepth:=9) only [↓AL,AO,↓reduceIte,Nat.reduceEqDiff,Nat.reduceLT,n4_0,n4_1,n4_2,Ho,En]
 ·obtain rfl:=Option.some.inj h
  simp (maxDischargeDepth:=9) only [↓AL,AO,↓reduceIte,Nat.reduceLT,m1,m2,e1,Ho,Jt,K3]
theorem iC(A8:List (List (Int×Int)))(AR:AB)(A9:AB){r:Bool}(h:Td A8 AR A9=some r):Y.call 109 [D.agg [D.sl 79 (AQ (fun x=>D.sl 87 (Au .i64 .i64 x)) A8),D.sl 3 (AQ (D.int .i64) AR),D.sl 3 (AQ (D.int .i64) A9)]] []=some (D.bool r,[]):=by
 refine AOY ?_ rfl;unfold AB1;unfold Td at h;obtain⟨BA,hl2,h⟩:=Ak h;try dsimp only at h
 simp (maxDischargeDepth:=9) only [↓AL,AO,↓reduceIte,Nat.reduceEqDiff,Nat.reduceLT,Nat.reduceAdd];refine Aw (cZ A8 AR A9 hl2 ?_) ?_
 ·simp (maxDischargeDepth:=9) only [BZ,↓reduceIte,Nat.reduceEqDiff,Ho]
 ·intro ex2 s2 hX2;rcases BA with q1001_|q1001_
  ·unfold Jt at hX2;dsimp only at hX2 h;obtain⟨rfl,n2_0⟩:=hX2
   obtain rfl:=Option.some.inj h
   simp (maxDischargeDepth:=9) only [↓AL,AO,↓reduceIte,n2_0]
  ·unfold Jt at hX2;dsimp only at hX2 h
   obtain rfl:=hX2
   obtain rfl:=Option.some.inj h
   simp (maxDischargeDepth:=9) only [↓AL,AO,↓reduceIte,Nat.reduceEqDiff,Nat.reduceLT]
noncomputable def LD(A8:List (List (Int×Int)))(out:List (List Bool))(Aj:Int)(l:List Bool)(K6:Int):Option (((List Bool)×Int)⊕((List Bool))):= if K6<((List.replicate (A8.getD Aj.toNat default).length false).length:Int)then ck (0≤K6∧K6.toNat<l.length)<| some (Sum.inl ((l.set K6.toNat true),IntKind.i64.wrap (K6+1))) else some (Sum.inr l)
noncomputable def Pk(A8:List (List (Int×Int)))(out:List (List Bool))(Aj:Int)(v:(List Bool)×Int):Option ((List Bool)):=Fb (fun v=>LD A8 out Aj v.1 v.2) v
noncomputable def LF(A8:List (List (Int×Int)))(out:List (List Bool))(Aj:Int):Option (((List (List Bool))×Int)⊕((List (List Bool)))):= if Aj<(A8.length:Int)then ck (0≤Aj∧Aj.toNat<A8.length)<| ck (0≤((A8.getD Aj.toNat default).length:Int)∧((A8.getD Aj.toNat default).length:Int)<1099511627776)<| (Pk A8 out Aj ((List.replicate (A8.getD Aj.toNat default).length false),0)).bind fun Aa=> ck (out.length+1<1099511627776)<| some (Sum.inl ((out++[Aa]),IntKind.i64.wrap (Aj+1))) else some (Sum.inr out)
noncomputable def Rp(A8:List (List (Int×Int)))(v:(List (List Bool))×Int):Option ((List (List Bool))):=Fb (fun v=>LF A8 v.1 v.2) v
noncomputable def WP(A8:List (List (Int×Int)))(AR:AB)(A9:AB):Option ((List (List Bool))):= (Rp A8 ([],0)).bind fun BA=> some BA
def cu:SC:= .seq (.ops [oB 21 .lss 3 (tK 20) (tK 19) 3 0]) (.seq (.cond (tK 21) .skip (.exit 2)) (.seq (.block 3 (.seq (.ops [oM 22 20 3,oA 7 22 3]) (.ops [oM 23 6 155,oM 24 7 3,oI 25 155 23 24,⟨none,(.store 4 (tK 25) F7),0,none⟩]))) (.ops [oB 26 .add 3 (tK 20) (iK 1) 3 3,oM 20 26 3])))
def xh:SC:= .loop cu
def d9:SC:= .seq (.ops [oB 12 .lss 3 (tK 11) (tK 10) 3 0]) (.seq (.cond (tK 12) .skip (.exit 0)) (.seq (.block 1 (.seq (.ops [oI 13 36 9 11,oL 14 79 13 79,oA 5 14 79]) (.seq (.ops [oM 15 5 79,oN 16 15 79,oX 17 (.makeSlice 155 (tK 16) (tK 16)) 155,oA 6 17 155]) (.seq (.seq (.ops [oM 18 6 155,oN 19 18 155,oX 20 (.move (iK 0)) 3]) (.block 2 xh)) (.ops [oM 27 3 153,oM 28 6 155,oX 29 (.buildSlice 153 1 #[(0,(tK 28))]) 153,oX 30 (.call ⟨(.builtin .append), #[(tK 27),(tK 29)], #[153,153]⟩) 153,oA 3 30 153]))))) (.ops [oB 31 .add 3 (tK 11) (iK 1) 3 3,oM 11 31 3])))
def xk:SC:= .loop d9
def AB2:SC:= .seq (.ops [oX 1 (.box 38 (tK 0)) 0,oX 2 KL 153]) (.seq (.ops [oX 3 KL 153]) (.seq (.seq (.ops [oF 8 38 1 0,oL 9 36 8 36,oN 10 9 36,oX 11 (.move (iK 0)) 3]) (.block 0 xk)) (.seq (.ops [oM 32 3 153,oA 2 32 153]) .ret)))
theorem A4j:Tryz.f152.body.map (BX lends)=some AB2:=by kernel_rfl
theorem AI8:Bj Tryz.f152 1=true:=by kernel_rfl
theorem AOZ{a l:List D}{r:D×List D}(h:Br Y.env AB2 (fin Ap l.length [ResultVar.tmp 2] r) (entry a l))(ha:a.length=1):Y.call 152 a l=some r:=
 AZ (Y:=Y) rfl Tryz.func152 (ha▸AI8) A4j h
def LG(A8:List (List (Int×Int)))(out:List (List Bool))(Aj:Int)(l:List Bool)(K6:Int)(s:St):Prop:=s.v 3=D.own 155 (AQ (fun x=>D.own 4 (AQ D.bool x)) out)∧s.v 6=D.own 4 (AQ D.bool l)∧s.v 9=D.sl 79 (AQ (fun x=>D.sl 87 (Au .i64 .i64 x)) A8)∧s.v 10=D.int .i64 (A8.length:Int)∧s.v 11=D.int .i64 Aj∧s.v 19=D.int .i64 ((List.replicate (A8.getD Aj.toNat default).length false).length:Int)∧s.v 20=D.int .i64 K6
def Og(A8:List (List (Int×Int)))(out:List (List Bool))(Aj:Int)(r:(List Bool))(ex:Ex)(s:St):Prop:=ex= .exit 2∧s.v 3=D.own 155 (AQ (fun x=>D.own 4 (AQ D.bool x)) out)∧s.v 6=D.own 4 (AQ D.bool r)∧s.v 9=D.sl 79 (AQ (fun x=>D.sl 87 (Au .i64 .i64 x)) A8)∧s.v 10=D.int .i64 (A8.length:Int)∧s.v 11=D.int .i64 Aj
theorem iD(A8:List (List (Int×Int)))(out:List (List Bool))(Aj:Int){v:(List Bool)×Int}{s:St}{r:(List Bool)}(h:Pk A8 out Aj v=some r)(hM:LG A8 out Aj v.1 v.2 s):Br Y.env xh (Og A8 out Aj r) s:=by
 unfold Pk at h;refine BH (c:=cu) (fun v=>LD A8 out Aj v.1 v.2) (fun v s=>LG A8 out Aj v.1 v.2 s) (Og A8 out Aj) ?_ h hM;clear h hM s v r;intro v s o hM h;obtain⟨l,K6⟩:=v;dsimp only at h hM;unfold LD at h;unfold LG at hM;obtain⟨m0,m1,m2,m3,m4,m5,m6⟩:=hM;unfold cu;rcases iS h with⟨e4,h⟩|⟨e4,h⟩
 ·obtain⟨e5,h⟩:=ES h
  obtain rfl:=Option.some.inj h
  simp (maxDischargeDepth:=9) only [↓AL,AO,↓reduceIte,Nat.reduceEqDiff,Nat.reduceLT,m0,m1,m2,m3,m4,m5,m6,e4,e5.1,e5.2,LG,En]
 ·obtain rfl:=Option.some.inj h
  simp (maxDischargeDepth:=9) only [↓AL,AO,↓reduceIte,Nat.reduceEqDiff,Nat.reduceLT,m0,m1,m2,m3,m4,m5,m6,e4,LG,Og,K3]
def LH(A8:List (List (Int×Int)))(out:List (List Bool))(Aj:Int)(s:St):Prop:=s.v 3=D.own 155 (AQ (fun x=>D.own 4 (AQ D.bool x)) out)∧s.v 9=D.sl 79 (AQ (fun x=>D.sl 87 (Au .i64 .i64 x)) A8)∧s.v 10=D.int .i64 (A8.length:Int)∧s.v 11=D.int .i64 Aj
def Oh(A8:List (List (Int×Int)))(r:(List (List Bool)))(ex:Ex)(s:St):Prop:=ex= .exit 0∧s.v 3=D.own 155 (AQ (fun x=>D.own 4 (AQ D.bool x)) r)
theorem iE(A8:List (List (Int×Int))){v:(List (List Bool))×Int}{s:St}{r:(List (List Bool))}(h:Rp A8 v=some r)(hM:LH A8 v.1 v.2 s):Br Y.env xk (Oh A8 r) s:=by
 unfold Rp at h;refine BH (c:=d9) (fun v=>LF A8 v.1 v.2) (fun v s=>LH A8 v.1 v.2 s) (Oh A8) ?_ h hM;clear h hM s v r;intro v s o hM h;obtain⟨out,Aj⟩:=v;dsimp only at h hM;unfold LF at h;unfold LH at hM;obtain⟨m0,m1,m2,m3⟩:=hM;unfold d9;rcases iS h with⟨e1,h⟩|⟨e1,h⟩
 ·obtain⟨e2,e3,h⟩:=GX h;obtain⟨Aa,hl5,h⟩:=Ak h;try dsimp only at h
  simp (maxDischargeDepth:=9) only [↓AL,AO,↓reduceIte,Nat.reduceEqDiff,Nat.reduceLT,Nat.reduceLeDiff,m1,m2,m3,e1,e2.1,e2.2,e3.1,e3.2];refine Aw (iD A8 out Aj hl5 ?_) ?_
  ·simp (maxDischargeDepth:=9) only [BZ,↓reduceIte,Nat.reduceEqDiff,m0,m1,m2,m3,LG]
  ·intro ex5 s5 hX5;unfold Og at hX5;obtain⟨rfl,n5_0,n5_1,n5_2,n5_3,n5_4⟩:=hX5;obtain⟨e6,h⟩:=ES h
   obtain rfl:=Option.some.inj h
   simp (maxDischargeDepth:=9) only [↓AL,AO,↓reduceIte,Nat.reduceEqDiff,Nat.reduceLT,Nat.reduceLeDiff,Nat.reduceAdd,n5_0,n5_1,n5_2,n5_3,n5_4,e6,LH,En]
 ·obtain rfl:=Option.some.inj h
  simp (maxDischargeDepth:=9) only [↓AL,AO,↓reduceIte,Nat.reduceEqDiff,Nat.reduceLT,m0,m2,m3,e1,LH,Oh,K3]
theorem nC(A8:List (List (Int×Int)))(AR:AB)(A9:AB){r:(List (List Bool))}(h:WP A8 AR A9=some r):Y.call 152 [D.agg [D.sl 79 (AQ (fun x=>D.sl 87 (Au .i64 .i64 x)) A8),D.sl 3 (AQ (D.int .i64) AR),D.sl 3 (AQ (D.int .i64) A9)]] []=some (D.own 155 (AQ (fun x=>D.own 4 (AQ D.bool x)) r),[]):=by
 refine AOZ ?_ rfl;unfold AB2;unfold WP at h;obtain⟨BA,hl2,h⟩:=Ak h;try dsimp only at h
 simp (maxDischargeDepth:=9) only [↓AL,AO,↓reduceIte,Nat.reduceEqDiff,Nat.reduceLT,Nat.reduceAdd];refine Aw (iE A8 hl2 ?_) ?_
 ·simp (maxDischargeDepth:=9) only [BZ,↓reduceIte,Nat.reduceEqDiff,LH]<;>(repeat' apply A7)<;>first|rfl|exact⟨_,rfl⟩|exact⟨_,_,rfl⟩|simp [AQ,CR]
 ·intro ex2 s2 hX2;unfold Oh at hX2;obtain⟨rfl,n2_0⟩:=hX2
  obtain rfl:=Option.some.inj h
  simp (maxDischargeDepth:=9) only [↓AL,AO,↓reduceIte,Nat.reduceEqDiff,Nat.reduceLT,n2_0]
noncomputable def Mk(AA:List (List (Int×Int)))(Ac:AB)(AC:AB)(BM:List (List Bool))(JL:Int)(t5_1:AY)(Iq:Int)(iF:Int):Option ((AY×Int×Int)⊕(AY)):= if iF<((AA.getD JL.toNat default).length:Int)then ck (0≤JL∧JL.toNat<t5_1.length)<| ck ((t5_1.getD JL.toNat default).length+1<1099511627776)<| ck (0≤JL∧JL.toNat<BM.length)<| ck (0≤iF∧iF.toNat<(BM.getD JL.toNat default).length)<| if((BM.getD JL.toNat default).getD iF.toNat default)=true then some (Sum.inl ((t5_1.set JL.toNat ((t5_1.getD JL.toNat default)++[Iq])),IntKind.i64.wrap (Iq+1),IntKind.i64.wrap (iF+1))) else some (Sum.inl ((t5_1.set JL.toNat ((t5_1.getD JL.toNat default)++[Iq])),Iq,IntKind.i64.wrap (iF+1))) else some (Sum.inr t5_1)
noncomputable def Rq(AA:List (List (Int×Int)))(Ac:AB)(AC:AB)(BM:List (List Bool))(JL:Int)(v:AY×Int×Int):Option (AY):=Fb (fun v=>Mk AA Ac AC BM JL v.1 v.2.1 v.2.2) v
noncomputable def Ml(AA:List (List (Int×Int)))(Ac:AB)(AC:AB)(BM:List (List Bool))(oG:AY)(JL:Int):Option ((AY×Int)⊕(AY)):= if JL<(AA.length:Int)then ck (0≤JL∧JL.toNat<AA.length)<| (Rq AA Ac AC BM JL (oG,0,0)).bind fun Aa=> some (Sum.inl (Aa,IntKind.i64.wrap (JL+1))) else some (Sum.inr oG)
noncomputable def Pn(AA:List (List (Int×Int)))(Ac:AB)(AC:AB)(BM:List (List Bool))(v:AY×Int):Option (AY):=Fb (fun v=>Ml AA Ac AC BM v.1 v.2) v
noncomputable def LJ(AA:List (List (Int×Int)))(BM:List (List Bool))(BA:AY)(LK:AB)(FD:AB)(t10_0:List (List (Int×Int)))(IW:Int)(Ll:List (Int×Int))(R4:Int):Option (((List (Int×Int))×Int)⊕((List (Int×Int)))):= if R4<((AA.getD IW.toNat default).length:Int)then ck (0≤R4∧R4.toNat<(AA.getD IW.toNat default).length)<| ck (0≤IW∧IW.toNat<BM.length)<| ck (0≤R4∧R4.toNat<(BM.getD IW.toNat default).length)<| if((BM.getD IW.toNat default).getD R4.toNat default)=true then ck (0≤(BP (AA.getD IW.toNat default) R4.toNat)∧(BP (AA.getD IW.toNat default) R4.toNat).toNat<BA.length)<| ck (0≤(Ck (AA.getD IW.toNat default) R4.toNat)∧(Ck (AA.getD IW.toNat default) R4.toNat).toNat<(BA.getD ((BP (AA.getD IW.toNat default) R4.toNat).toNat) default).length)<| ck (Ll.length*2+2<1099511627776)<| some (Sum.inl ((Ll++[((BP (AA.getD IW.toNat default) R4.toNat),((BA.getD ((BP (AA.getD IW.toNat default) R4.toNat).toNat) default).getD ((Ck (AA.getD IW.toNat default) R4.toNat).toNat) default))]),IntKind.i64.wrap (R4+1))) else some (Sum.inl (Ll,IntKind.i64.wrap (R4+1))) else some (Sum.inr Ll)
noncomputable def Po(AA:List (List (Int×Int)))(BM:List (List Bool))(BA:AY)(LK:AB)(FD:AB)(t10_0:List (List (Int×Int)))(IW:Int)(v:(List (Int×Int))×Int):Option ((List (Int×Int))):=Fb (fun v=>LJ AA BM BA LK FD t10_0 IW v.1 v.2) v
noncomputable def LM(AA:List (List (Int×Int)))(BM:List (List Bool))(BA:AY)(LK:AB)(FD:AB)(t10_0:List (List (Int×Int)))(IW:Int):Option (((List (List (Int×Int)))×Int)⊕((List (List (Int×Int))))):= if IW<(AA.length:Int)then ck (0≤IW∧IW.toNat<AA.length)<| (Po AA BM BA LK FD t10_0 IW ([],0)).bind fun Dq=> ck (t10_0.length+1<1099511627776)<| some (Sum.inl ((t10_0++[Dq]),IntKind.i64.wrap (IW+1))) else some (Sum.inr t10_0)
noncomputable def Rs(AA:List (List (Int×Int)))(BM:List (List Bool))(BA:AY)(LK:AB)(FD:AB)(v:(List (List (Int×Int)))×Int):Option ((List (List (Int×Int)))):=Fb (fun v=>LM AA BM BA LK FD v.1 v.2) v
noncomputable def UC(AA:List (List (Int×Int)))(Ac:AB)(AC:AB)(BM:List (List Bool)):Option ((List (List (Int×Int)))×AB×AB):= ck (0≤(AA.length:Int)∧(AA.length:Int)<1099511627776)<| (Pn AA Ac AC BM ((List.replicate AA.length ([]:AB)),0)).bind fun BA=> (Ku Ac).bind fun LK=> (Ku AC).bind fun FD=> (Rs AA BM BA LK FD ([],0)).bind fun dA=> some (dA,LK,FD)
def dB:SC:= .seq (.ops [oB 31 .lss 3 (tK 30) (tK 29) 3 0]) (.seq (.cond (tK 31) .skip (.exit 2)) (.seq (.block 3 (.seq (.ops [oM 32 30 3,oA 9 32 3]) (.seq (.ops [oM 33 5 22,oM 34 6 3,oM 35 5 22,oM 36 6 3,oI 37 22 35 36,oL 38 26 37 26,oM 39 8 3,oX 40 (.buildSlice 26 1 #[(0,(tK 39))]) 26,oX 41 (.call ⟨(.builtin .append), #[(tK 38),(tK 40)], #[26,26]⟩) 26,oI 42 22 33 34,oS 26 42 41]) (.seq (.ops [oM 43 1 153,oM 44 6 3,oI 45 153 43 44,oL 46 155 45 155,oM 47 9 3,oI 48 155 46 47,oL 49 4 48 4]) (.cond (tK 49) (.ops [oM 50 8 3,oB 51 .add 3 (tK 50) (iK 1) 3 3,oA 8 51 3]) .skip))))) (.ops [oB 52 .add 3 (tK 30) (iK 1) 3 3,oM 30 52 3])))
def xm:SC:= .loop dB
def dC:SC:= .seq (.ops [oB 24 .lss 3 (tK 23) (tK 22) 3 0]) (.seq (.cond (tK 24) .skip (.exit 0)) (.seq (.block 1 (.seq (.ops [oM 25 23 3,oI 26 36 21 23,oL 27 79 26 79,oA 6 25 3,oA 7 27 79]) (.seq (.ops [oX 8 (.assign (iK 0)) 3]) (.seq (.ops [oM 28 7 79,oN 29 28 79,oX 30 (.move (iK 0)) 3]) (.block 2 xm))))) (.ops [oB 53 .add 3 (tK 23) (iK 1) 3 3,oM 23 53 3])))
def xn:SC:= .loop dC
abbrev UN:List Nat:=[83,84,85,86,87,88,89,90,91,92,93,94,95,85,94,96,95,95,97,83,96,13,96,13,97,97]
def dD:SC:= .seq (.ops [oB 72 .lss 3 (tK 71) (tK 70) 3 0]) (.seq (.cond (tK 72) .skip (.exit 6)) (.seq (.block 7 (.seq (.ops [oM 73 71 3,oI 74 79 69 71,oL 75 87 74 87,oX 15 (.alloc 87) 0,oA 14 73 3,oS 87 15 75]) (.seq (.ops [oM 76 1 153,oM 77 11 3,oI 78 153 76 77,oL 79 155 78 155,oM 80 14 3,oI 81 155 79 80,oL 82 4 81 4]) (.cond (tK 82) (.draws [(⟨[83,13,13],UN,[83]⟩,oM 83 13 79),(⟨[84,15,15],UN,[84]⟩,oF 84 87 15 0),(⟨[85,84,15],UN,[85]⟩,oL 85 3 84 3),(⟨[86,5,5],UN,[86]⟩,oM 86 5 22),(⟨[87,15,15],UN,[87]⟩,oF 87 87 15 0),(⟨[88,87,15],UN,[88]⟩,oL 88 3 87 3),(⟨[89,86,88,5,15],UN,[89]⟩,oI 89 22 86 88),(⟨[90,89,5],UN,[90]⟩,oL 90 26 89 26),(⟨[91,15,15],UN,[91]⟩,oF 91 87 15 1),(⟨[92,91,15],UN,[92]⟩,oL 92 3 91 3),(⟨[93,90,92,5,15],UN,[93]⟩,oI 93 26 90 92),(⟨[94,93,5],UN,[94]⟩,oL 94 3 93 3),(⟨[95,85,94,15,5],UN,[95,85,94]⟩,oX 95 (.build 87 #[(0,(tK 85)),(1,(tK 94))]) 87),(⟨[96,95,95],UN,[96,95,95]⟩,oX 96 (.buildSlice 79 1 #[(0,(tK 95))]) 79),(⟨[97,83,96,13,96],UN,[97,83,96,13,96]⟩,oX 97 (.call ⟨(.builtin .append), #[(tK 83),(tK 96)], #[79,79]⟩) 79),(⟨[13,97,97],UN,[13,97,97]⟩,oA 13 97 79)]) .skip)))) (.ops [oB 98 .add 3 (tK 71) (iK 1) 3 3,oM 71 98 3])))
def xq:SC:= .loop dD
def dE:SC:= .seq (.ops [oB 65 .lss 3 (tK 64) (tK 63) 3 0]) (.seq (.cond (tK 65) .skip (.exit 4)) (.seq (.block 5 (.seq (.ops [oM 66 64 3,oI 67 36 62 64,oL 68 79 67 79,oA 11 66 3,oA 12 68 79]) (.seq (.ops [oX 13 KL 79]) (.seq (.seq (.ops [oM 69 12 79,oN 70 69 79,oX 71 (.move (iK 0)) 3]) (.block 6 xq)) (.ops [oF 99 38 10 0,oL 100 36 99 36,oM 101 13 79,oX 102 (.buildSlice 36 1 #[(0,(tK 101))]) 36,oX 103 (.call ⟨(.builtin .append), #[(tK 100),(tK 102)], #[36,36]⟩) 36,oF 104 38 10 0,oS 36 104 103]))))) (.ops [oB 105 .add 3 (tK 64) (iK 1) 3 3,oM 64 105 3])))
def xu:SC:= .loop dE
abbrev nD:List Nat:=[54,55,56,57,58,59,60,56,59,56,59,10,10,60,10,60]
def AB3:SC:= .seq (.ops [oX 2 (.box 38 (tK 0)) 0,oX 4 (.alloc 38) 0]) (.seq (.ops [oF 16 38 2 0,oL 17 36 16 36,oN 18 17 36,oX 19 (.makeSlice 22 (tK 18) (tK 18)) 22,oA 5 19 22]) (.seq (.seq (.ops [oF 20 38 2 0,oL 21 36 20 36,oN 22 21 36,oX 23 (.move (iK 0)) 3]) (.block 0 xn)) (.seq (.draws [(⟨[54,2,2],nD,[54]⟩,oF 54 38 2 1),(⟨[55,54,2],nD,[55]⟩,oL 55 26 54 26),(⟨[56,55,2],nD,[56]⟩,oC 56 92 [(tK 55)] [26] 26),(⟨[57,2,2],nD,[57]⟩,oF 57 38 2 2),(⟨[58,57,2],nD,[58]⟩,oL 58 26 57 26),(⟨[59,58,2],nD,[59]⟩,oC 59 92 [(tK 58)] [26] 26),(⟨[60,56,59,56,59],nD,[60,56,59,56,59]⟩,oX 60 (.build 38 #[(1,(tK 56)),(2,(tK 59))]) 38),(⟨[10],nD,[10]⟩,oX 10 (.alloc 38) 0),(⟨[10,60,10,60],nD,[10,60,10,60]⟩,oS 38 10 60)]) (.seq (.seq (.ops [oF 61 38 2 0,oL 62 36 61 36,oN 63 62 36,oX 64 (.move (iK 0)) 3]) (.block 4 xu)) (.seq (.ops [oL 106 38 10 38,oS 38 4 106]) .ret)))))
theorem A4k:Tryz.f153.body.map (BX lends)=some AB3:=by kernel_rfl
theorem AI9:Bj Tryz.f153 2=true:=by kernel_rfl
theorem AOa{a l:List D}{r:D×List D}(h:Br Y.env AB3 (fin Ap l.length [ResultVar.cell 4 38] r) (entry a l))(ha:a.length=2):Y.call 153 a l=some r:=
 AZ (Y:=Y) rfl Tryz.func153 (ha▸AI9) A4k h
def J8(AA:List (List (Int×Int)))(Ac:AB)(AC:AB)(BM:List (List Bool))(JL:Int)(t5_1:AY)(Iq:Int)(iF:Int)(s:St):Prop:=s.v 1=D.sl 155 (AQ (fun x=>D.sl 4 (AQ D.bool x)) BM)∧s.v 2=D.box [D.sl 79 (AQ (fun x=>D.sl 87 (Au .i64 .i64 x)) AA),D.sl 3 (AQ (D.int .i64) Ac),D.sl 3 (AQ (D.int .i64) AC)]∧s.v 4=D.box [D.own 79 [],D.own 3 [],D.own 3 []]∧s.v 5=D.own 26 (AQ Qw t5_1)∧s.v 6=D.int .i64 JL∧s.v 8=D.int .i64 Iq∧s.v 21=D.sl 79 (AQ (fun x=>D.sl 87 (Au .i64 .i64 x)) AA)∧s.v 22=D.int .i64 (AA.length:Int)∧s.v 23=D.int .i64 JL∧s.v 29=D.int .i64 ((AA.getD JL.toNat default).length:Int)∧s.v 30=D.int .i64 iF
def Oi(AA:List (List (Int×Int)))(Ac:AB)(AC:AB)(BM:List (List Bool))(JL:Int)(r:AY)(ex:Ex)(s:St):Prop:=ex= .exit 2∧s.v 1=D.sl 155 (AQ (fun x=>D.sl 4 (AQ D.bool x)) BM)∧s.v 2=D.box [D.sl 79 (AQ (fun x=>D.sl 87 (Au .i64 .i64 x)) AA),D.sl 3 (AQ (D.int .i64) Ac),D.sl 3 (AQ (D.int .i64) AC)]∧s.v 4=D.box [D.own 79 [],D.own 3 [],D.own 3 []]∧s.v 5=D.own 26 (AQ Qw r)∧s.v 21=D.sl 79 (AQ (fun x=>D.sl 87 (Au .i64 .i64 x)) AA)∧s.v 22=D.int .i64 (AA.length:Int)∧s.v 23=D.int .i64 JL
theorem iG(AA:List (List (Int×Int)))(Ac:AB)(AC:AB)(BM:List (List Bool))(JL:Int){v:AY×Int×Int}{s:St}{r:AY}(h:Rq AA Ac AC BM JL v=some r)(hM:J8 AA Ac AC BM JL v.1 v.2.1 v.2.2 s):Br Y.env xm (Oi AA Ac AC BM JL r) s:=by
 unfold Rq at h;refine BH (c:=dB) (fun v=>Mk AA Ac AC BM JL v.1 v.2.1 v.2.2) (fun v s=>J8 AA Ac AC BM JL v.1 v.2.1 v.2.2 s) (Oi AA Ac AC BM JL) ?_ h hM;clear h hM s v r;intro v s o hM h;obtain⟨t5_1,Iq,iF⟩:=v;dsimp only at h hM;unfold Mk at h;unfold J8 at hM;obtain⟨m0,m1,m2,m3,m4,m5,m6,m7,m8,m9,m10⟩:=hM;unfold dB;rcases iS h with⟨e4,h⟩|⟨e4,h⟩
 ·obtain⟨e5,e6,e7,e8,h⟩:=A1S h;rcases iS h with⟨e9,h⟩|⟨e9,h⟩
  ·obtain rfl:=Option.some.inj h
   simp (maxDischargeDepth:=9) only [↓AL,AO,↓reduceIte,Nat.reduceEqDiff,Nat.reduceLT,Nat.reduceLeDiff,Nat.reduceAdd,m0,m1,m2,m3,m4,m5,m6,m7,m8,m9,m10,e4,e5.1,e5.2,e6,e7.2,e8.1,e8.2,e9,J8,En]
  ·have e9f:((BM.getD JL.toNat default).getD iF.toNat default)=false:=Jw.mpr e9
   obtain rfl:=Option.some.inj h
   simp (maxDischargeDepth:=9) only [↓AL,AO,↓reduceIte,Nat.reduceEqDiff,Nat.reduceLT,Nat.reduceLeDiff,Nat.reduceAdd,m0,m1,m2,m3,m4,m5,m6,m7,m8,m9,m10,e4,e5.1,e5.2,e6,e7.2,e8.1,e8.2,e9f,J8,En]
 ·obtain rfl:=Option.some.inj h
  simp (maxDischargeDepth:=9) only [↓AL,AO,↓reduceIte,Nat.reduceEqDiff,Nat.reduceLT,m0,m1,m2,m3,m6,m7,m8,m9,m10,e4,J8,Oi,K3]
def LP(AA:List (List (Int×Int)))(Ac:AB)(AC:AB)(BM:List (List Bool))(oG:AY)(JL:Int)(s:St):Prop:=s.v 1=D.sl 155 (AQ (fun x=>D.sl 4 (AQ D.bool x)) BM)∧s.v 2=D.box [D.sl 79 (AQ (fun x=>D.sl 87 (Au .i64 .i64 x)) AA),D.sl 3 (AQ (D.int .i64) Ac),D.sl 3 (AQ (D.int .i64) AC)]∧s.v 4=D.box [D.own 79 [],D.own 3 [],D.own 3 []]∧s.v 5=D.own 26 (AQ Qw oG)∧s.v 21=D.sl 79 (AQ (fun x=>D.sl 87 (Au .i64 .i64 x)) AA)∧s.v 22=D.int .i64 (AA.length:Int)∧s.v 23=D.int .i64 JL
def Oj(AA:List (List (Int×Int)))(Ac:AB)(AC:AB)(BM:List (List Bool))(r:AY)(ex:Ex)(s:St):Prop:=ex= .exit 0∧s.v 1=D.sl 155 (AQ (fun x=>D.sl 4 (AQ D.bool x)) BM)∧s.v 2=D.box [D.sl 79 (AQ (fun x=>D.sl 87 (Au .i64 .i64 x)) AA),D.sl 3 (AQ (D.int .i64) Ac),D.sl 3 (AQ (D.int .i64) AC)]∧s.v 4=D.box [D.own 79 [],D.own 3 [],D.own 3 []]∧s.v 5=D.own 26 (AQ Qw r)
theorem iH(AA:List (List (Int×Int)))(Ac:AB)(AC:AB)(BM:List (List Bool)){v:AY×Int}{s:St}{r:AY}(h:Pn AA Ac AC BM v=some r)(hM:LP AA Ac AC BM v.1 v.2 s):Br Y.env xn (Oj AA Ac AC BM r) s:=by
 unfold Pn at h;refine BH (c:=dC) (fun v=>Ml AA Ac AC BM v.1 v.2) (fun v s=>LP AA Ac AC BM v.1 v.2 s) (Oj AA Ac AC BM) ?_ h hM;clear h hM s v r;intro v s o hM h;obtain⟨oG,JL⟩:=v;dsimp only at h hM;unfold Ml at h;unfold LP at hM;obtain⟨m0,m1,m2,m3,m4,m5,m6⟩:=hM;unfold dC;rcases iS h with⟨e2,h⟩|⟨e2,h⟩
 ·obtain⟨e3,h⟩:=ES h;obtain⟨Aa,hl5,h⟩:=Ak h;try dsimp only at h
  simp (maxDischargeDepth:=9) only [↓AL,AO,↓reduceIte,Nat.reduceEqDiff,Nat.reduceLT,m4,m5,m6,e2,e3.1,e3.2];refine Aw (iG AA Ac AC BM JL hl5 ?_) ?_
  ·simp (maxDischargeDepth:=9) only [BZ,↓reduceIte,Nat.reduceEqDiff,m0,m1,m2,m3,m4,m5,m6,J8]
  ·intro ex5 s5 hX5;unfold Oi at hX5;obtain⟨rfl,n5_0,n5_1,n5_2,n5_3,n5_4,n5_5,n5_6⟩:=hX5
   obtain rfl:=Option.some.inj h
   simp (maxDischargeDepth:=9) only [↓AL,AO,↓reduceIte,Nat.reduceEqDiff,Nat.reduceLT,n5_0,n5_1,n5_2,n5_3,n5_4,n5_5,n5_6,LP,En]
 ·obtain rfl:=Option.some.inj h
  simp (maxDischargeDepth:=9) only [↓AL,AO,↓reduceIte,Nat.reduceEqDiff,Nat.reduceLT,m0,m1,m2,m3,m5,m6,e2,LP,Oj,K3]
def J9(AA:List (List (Int×Int)))(BM:List (List Bool))(BA:AY)(LK:AB)(FD:AB)(t10_0:List (List (Int×Int)))(IW:Int)(Ll:List (Int×Int))(R4:Int)(s:St):Prop:=s.v 1=D.sl 155 (AQ (fun x=>D.sl 4 (AQ D.bool x)) BM)∧s.v 4=D.box [D.own 79 [],D.own 3 [],D.own 3 []]∧s.v 5=D.own 26 (AQ Qw BA)∧s.v 10=D.box [D.own 79 (AQ (fun x=>D.own 87 (Au .i64 .i64 x)) t10_0),D.own 3 (AQ (D.int .i64) LK),D.own 3 (AQ (D.int .i64) FD)]∧s.v 11=D.int .i64 IW∧s.v 13=D.own 87 (Au .i64 .i64 Ll)∧s.v 62=D.sl 79 (AQ (fun x=>D.sl 87 (Au .i64 .i64 x)) AA)∧s.v 63=D.int .i64 (AA.length:Int)∧s.v 64=D.int .i64 IW∧s.v 69=D.sl 87 (Au .i64 .i64 (AA.getD IW.toNat default))∧s.v 70=D.int .i64 ((AA.getD IW.toNat default).length:Int)∧s.v 71=D.int .i64 R4
def Ol(AA:List (List (Int×Int)))(BM:List (List Bool))(BA:AY)(LK:AB)(FD:AB)(t10_0:List (List (Int×Int)))(IW:Int)(r:(List (Int×Int)))(ex:Ex)(s:St):Prop:=ex= .exit 6∧s.v 1=D.sl 155 (AQ (fun x=>D.sl 4 (AQ D.bool x)) BM)∧s.v 4=D.box [D.own 79 [],D.own 3 [],D.own 3 []]∧s.v 5=D.own 26 (AQ Qw BA)∧s.v 10=D.box [D.own 79 (AQ (fun x=>D.own 87 (Au .i64 .i64 x)) t10_0),D.own 3 (AQ (D.int .i64) LK),D.own 3 (AQ (D.int .i64) FD)]∧s.v 13=D.own 87 (Au .i64 .i64 r)∧s.v 62=D.sl 79 (AQ (fun x=>D.sl 87 (Au .i64 .i64 x)) AA)∧s.v 63=D.int .i64 (AA.length:Int)∧s.v 64=D.int .i64 IW
theorem iI(AA:List (List (Int×Int)))(BM:List (List Bool))(BA:AY)(LK:AB)(FD:AB)(t10_0:List (List (Int×Int)))(IW:Int){v:(List (Int×Int))×Int}{s:St}{r:(List (Int×Int))}(h:Po AA BM BA LK FD t10_0 IW v=some r)(hM:J9 AA BM BA LK FD t10_0 IW v.1 v.2 s):Br Y.env xq (Ol AA BM BA LK FD t10_0 IW r) s:=by
 unfold Po at h;refine BH (c:=dD) (fun v=>LJ AA BM BA LK FD t10_0 IW v.1 v.2) (fun v s=>J9 AA BM BA LK FD t10_0 IW v.1 v.2 s) (Ol AA BM BA LK FD t10_0 IW) ?_ h hM;clear h hM s v r;intro v s o hM h;obtain⟨Ll,R4⟩:=v;dsimp only at h hM;unfold LJ at h;unfold J9 at hM;obtain⟨m0,m1,m2,m3,m4,m5,m6,m7,m8,m9,m10,m11⟩:=hM;unfold dD;rcases iS h with⟨e8,h⟩|⟨e8,h⟩
 ·obtain⟨e9,e10,e11,h⟩:=Q3 h;rcases iS h with⟨e12,h⟩|⟨e12,h⟩
  ·obtain⟨e13,e14,e15,h⟩:=Q3 h
   obtain rfl:=Option.some.inj h
   simp (maxDischargeDepth:=9) only [↓AL,AO,↓reduceIte,Nat.reduceEqDiff,Nat.reduceLT,Nat.reduceLeDiff,Nat.reduceAdd,Nat.reduceBEq,m0,m1,m2,m3,m4,m5,m6,m7,m8,m9,m10,m11,e8,e9.1,e9.2,e10.1,e10.2,e11.2,e12,e13.1,e13.2,e14.1,e14.2,e15,J9,En]
  ·have e12f:((BM.getD IW.toNat default).getD R4.toNat default)=false:=Jw.mpr e12
   obtain rfl:=Option.some.inj h
   simp (maxDischargeDepth:=9) only [↓AL,AO,↓reduceIte,Nat.reduceEqDiff,Nat.reduceLT,Nat.reduceAdd,m0,m1,m2,m3,m4,m5,m6,m7,m8,m9,m10,m11,e8,e9.1,e9.2,e10.1,e10.2,e11.2,e12f,J9,En]
 ·obtain rfl:=Option.some.inj h
  simp (maxDischargeDepth:=9) only [↓AL,AO,↓reduceIte,Nat.reduceEqDiff,Nat.reduceLT,m0,m1,m2,m3,m5,m6,m7,m8,m10,m11,e8,J9,Ol,K3]
def LQ(AA:List (List (Int×Int)))(BM:List (List Bool))(BA:AY)(LK:AB)(FD:AB)(t10_0:List (List (Int×Int)))(IW:Int)(s:St):Prop:=s.v 1=D.sl 155 (AQ (fun x=>D.sl 4 (AQ D.bool x)) BM)∧s.v 4=D.box [D.own 79 [],D.own 3 [],D.own 3 []]∧s.v 5=D.own 26 (AQ Qw BA)∧s.v 10=D.box [D.own 79 (AQ (fun x=>D.own 87 (Au .i64 .i64 x)) t10_0),D.own 3 (AQ (D.int .i64) LK),D.own 3 (AQ (D.int .i64) FD)]∧s.v 62=D.sl 79 (AQ (fun x=>D.sl 87 (Au .i64 .i64 x)) AA)∧s.v 63=D.int .i64 (AA.length:Int)∧s.v 64=D.int .i64 IW
def Om(AA:List (List (Int×Int)))(BM:List (List Bool))(BA:AY)(LK:AB)(FD:AB)(r:(List (List (Int×Int))))(ex:Ex)(s:St):Prop:=ex= .exit 4∧s.v 4=D.box [D.own 79 [],D.own 3 [],D.own 3 []]∧s.v 10=D.box [D.own 79 (AQ (fun x=>D.own 87 (Au .i64 .i64 x)) r),D.own 3 (AQ (D.int .i64) LK),D.own 3 (AQ (D.int .i64) FD)]
theorem iJ(AA:List (List (Int×Int)))(BM:List (List Bool))(BA:AY)(LK:AB)(FD:AB){v:(List (List (Int×Int)))×Int}{s:St}{r:(List (List (Int×Int)))}(h:Rs AA BM BA LK FD v=some r)(hM:LQ AA BM BA LK FD v.1 v.2 s):Br Y.env xu (Om AA BM BA LK FD r) s:=by
 unfold Rs at h;refine BH (c:=dE) (fun v=>LM AA BM BA LK FD v.1 v.2) (fun v s=>LQ AA BM BA LK FD v.1 v.2 s) (Om AA BM BA LK FD) ?_ h hM;clear h hM s v r;intro v s o hM h;obtain⟨t10_0,IW⟩:=v;dsimp only at h hM;unfold LM at h;unfold LQ at hM;obtain⟨m0,m1,m2,m3,m4,m5,m6⟩:=hM;unfold dE;rcases iS h with⟨e6,h⟩|⟨e6,h⟩
 ·obtain⟨e7,h⟩:=ES h;obtain⟨Dq,hl9,h⟩:=Ak h;try dsimp only at h
  simp (maxDischargeDepth:=9) only [↓AL,AO,↓reduceIte,Nat.reduceEqDiff,Nat.reduceLT,m4,m5,m6,e6,e7.1,e7.2];refine Aw (iI AA BM BA LK FD t10_0 IW hl9 ?_) ?_
  ·simp (maxDischargeDepth:=9) only [BZ,↓reduceIte,Nat.reduceEqDiff,m0,m1,m2,m3,m4,m5,m6,J9]<;>(repeat' apply A7)<;>first|rfl|exact⟨_,rfl⟩|exact⟨_,_,rfl⟩|simp [AQ,CR]
  ·intro ex9 s9 hX9;unfold Ol at hX9;obtain⟨rfl,n9_0,n9_1,n9_2,n9_3,n9_4,n9_5,n9_6,n9_7⟩:=hX9;obtain⟨e10,h⟩:=ES h
   obtain rfl:=Option.some.inj h
   simp (maxDischargeDepth:=9) only [↓AL,AO,↓reduceIte,Nat.reduceEqDiff,Nat.reduceLT,Nat.reduceLeDiff,Nat.reduceAdd,n9_0,n9_1,n9_2,n9_3,n9_4,n9_5,n9_6,n9_7,e10,LQ,En]
 ·obtain rfl:=Option.some.inj h
  simp (maxDischargeDepth:=9) only [↓AL,AO,↓reduceIte,Nat.reduceEqDiff,Nat.reduceLT,m1,m3,m5,m6,e6,LQ,Om,K3]
theorem nE(AA:List (List (Int×Int)))(Ac:AB)(AC:AB)(BM:List (List Bool)){r:(List (List (Int×Int)))×AB×AB}(h:UC AA Ac AC BM=some r):Y.call 153 [D.agg [D.sl 79 (AQ (fun x=>D.sl 87 (Au .i64 .i64 x)) AA),D.sl 3 (AQ (D.int .i64) Ac),D.sl 3 (AQ (D.int .i64) AC)],D.sl 155 (AQ (fun x=>D.sl 4 (AQ D.bool x)) BM)] []=some (D.agg [D.own 79 (AQ (fun x=>D.own 87 (Au .i64 .i64 x)) r.1),D.own 3 (AQ (D.int .i64) r.2.1),D.own 3 (AQ (D.int .i64) r.2.2)],[]):=by
 refine AOa ?_ rfl;unfold AB3;unfold UC at h;obtain⟨e1,h⟩:=ES h;obtain⟨BA,hl3,h⟩:=Ak h;try dsimp only at h
 simp (maxDischargeDepth:=9) only [↓AL,AO,↓reduceIte,Nat.reduceEqDiff,Nat.reduceLT,Nat.reduceLeDiff,Nat.reduceAdd,e1.1,e1.2];refine Aw (iH AA Ac AC BM hl3 ?_) ?_
 ·simp (maxDischargeDepth:=9) only [BZ,Ei,↓reduceIte,Nat.reduceEqDiff,Nat.reduceLT,LP]
 ·intro ex3 s3 hX3;unfold Oj at hX3;obtain⟨rfl,n3_0,n3_1,n3_2,n3_3⟩:=hX3;obtain⟨LK,hl4,h⟩:=Ak h;have c4:=Iw Ac hl4;obtain⟨FD,hl5,h⟩:=Ak h;have c5:=Iw AC hl5;obtain⟨dA,hl7,h⟩:=Ak h;try dsimp only at h
  simp (maxDischargeDepth:=9) only [↓AL,AO,↓reduceIte,Nat.reduceEqDiff,Nat.reduceLT,Nat.reduceLeDiff,Nat.reduceAdd,Nat.reduceBEq,n3_1,c4,c5];refine Aw (iJ AA BM BA LK FD hl7 ?_) ?_
  ·simp (maxDischargeDepth:=9) only [BZ,↓reduceIte,Nat.reduceEqDiff,n3_0,n3_2,n3_3,LQ]<;>(repeat' apply A7)<;>first|rfl|exact⟨_,rfl⟩|exact⟨_,_,rfl⟩|simp [AQ,CR]
  ·intro ex7 s7 hX7;unfold Om at hX7;obtain⟨rfl,n7_0,n7_1⟩:=hX7
   obtain rfl:=Option.some.inj h
   simp (maxDischargeDepth:=9) only [↓AL,AO,↓reduceIte,Nat.reduceEqDiff,Nat.reduceAdd,n7_0,n7_1]
noncomputable def R5(A8:List (List (Int×Int)))(AR:AB)(A9:AB)(v_:Int)(i:Int):Option (Int):= ck (0≤v_∧v_.toNat<A8.length)<| ck (0≤i∧i.toNat<(A8.getD v_.toNat default).length)<| (WP A8 AR A9).bind fun Ph=> ck (0≤v_∧v_.toNat<Ph.length)<| ck (0≤i∧i.toNat<(Ph.getD v_.toNat default).length)<| ck (0≤(BP (A8.getD v_.toNat default) i.toNat)∧(BP (A8.getD v_.toNat default) i.toNat).toNat<Ph.length)<| ck (0≤(Ck (A8.getD v_.toNat default) i.toNat)∧(Ck (A8.getD v_.toNat default) i.toNat).toNat<((Ph.set v_.toNat ((Ph.getD v_.toNat default).set i.toNat false)).getD ((BP (A8.getD v_.toNat default) i.toNat).toNat) default).length)<| (UC A8 AR A9 ((Ph.set v_.toNat ((Ph.getD v_.toNat default).set i.toNat false)).set ((BP (A8.getD v_.toNat default) i.toNat).toNat) (((Ph.set v_.toNat ((Ph.getD v_.toNat default).set i.toNat false)).getD ((BP (A8.getD v_.toNat default) i.toNat).toNat) default).set ((Ck (A8.getD v_.toNat default) i.toNat).toNat) false))).bind fun wE=> (O4 wE.1 wE.2.1 wE.2.2 v_).bind fun dF=> ck (0≤(BP (A8.getD v_.toNat default) i.toNat)∧(BP (A8.getD v_.toNat default) i.toNat).toNat<dF.length)<| some (dF.getD ((BP (A8.getD v_.toNat default) i.toNat).toNat) default)
abbrev nG:List Nat:=[25,26,27,28,29,30,31,32,32,8]
abbrev iL:List Nat:=[33,34,35,36,37,38,39,40,41,6,41]
def AB4:SC:= .seq (.ops [oX 3 (.box 38 (tK 0)) 0,oX 6 (.assign (iK 0)) 3]) (.seq (.ops [oF 9 38 3 0,oL 10 36 9 36,oM 11 1 3,oI 12 36 10 11,oL 13 79 12 79,oM 14 2 3,oI 15 79 13 14,oL 16 87 15 87,oX 7 (.alloc 87) 0,oS 87 7 16]) (.seq (.ops [oL 17 38 3 38,oC 18 152 [(tK 17)] [38] 153,oA 8 18 153]) (.seq (.ops [oM 19 8 153,oM 20 1 3,oI 21 153 19 20,oL 22 155 21 155,oM 23 2 3,oI 24 155 22 23,⟨none,(.store 4 (tK 24) MS),0,none⟩]) (.seq (.draws [(⟨[25,8,8],nG,[25]⟩,oM 25 8 153),(⟨[26,7,7],nG,[26]⟩,oF 26 87 7 0),(⟨[27,26,7],nG,[27]⟩,oL 27 3 26 3),(⟨[28,25,27,8,7],nG,[28]⟩,oI 28 153 25 27),(⟨[29,28,8],nG,[29]⟩,oL 29 155 28 155),(⟨[30,7,7],nG,[30]⟩,oF 30 87 7 1),(⟨[31,30,7],nG,[31]⟩,oL 31 3 30 3),(⟨[32,29,31,8,7],nG,[32]⟩,oI 32 155 29 31),(⟨[32,8],nG,[32,8]⟩,⟨none,(.store 4 (tK 32) MS),0,none⟩)]) (.seq (.draws [(⟨[33,3,3],iL,[33]⟩,oL 33 38 3 38),(⟨[34,8,8],iL,[34]⟩,oM 34 8 153),(⟨[35,33,34,3,8],iL,[35]⟩,oC 35 153 [(tK 33),(tK 34)] [38,153] 38),(⟨[36,1,1],iL,[36]⟩,oM 36 1 3),(⟨[37,35,36,35,1],iL,[37]⟩,oC 37 134 [(tK 35),(tK 36)] [38,3] 26),(⟨[38,7,7],iL,[38]⟩,oF 38 87 7 0),(⟨[39,38,7],iL,[39]⟩,oL 39 3 38 3),(⟨[40,37,39,37,7],iL,[40]⟩,oI 40 26 37 39),(⟨[41,40,37],iL,[41]⟩,oL 41 3 40 3),
 (⟨[6,41,37],iL,[6,41]⟩,oA 6 41 3)]) .ret)))))
theorem A4l:Tryz.f131.body.map (BX lends)=some AB4:=by kernel_rfl
theorem AIA:Bj Tryz.f131 3=true:=by kernel_rfl
theorem AOb{a l:List D}{r:D×List D}(h:Br Y.env AB4 (fin Ap l.length [ResultVar.tmp 6] r) (entry a l))(ha:a.length=3):Y.call 131 a l=some r:=
 AZ (Y:=Y) rfl Tryz.func131 (ha▸AIA) A4l h
theorem dG(A8:List (List (Int×Int)))(AR:AB)(A9:AB)(v_:Int)(i:Int){r:Int}(h:R5 A8 AR A9 v_ i=some r):Y.call 131 [D.agg [D.sl 79 (AQ (fun x=>D.sl 87 (Au .i64 .i64 x)) A8),D.sl 3 (AQ (D.int .i64) AR),D.sl 3 (AQ (D.int .i64) A9)],D.int .i64 v_,D.int .i64 i] []=some (D.int .i64 r,[]):=by
 refine AOb ?_ rfl;unfold AB4;unfold R5 at h;obtain⟨e1,e2,h⟩:=GX h;obtain⟨Ph,hl3,h⟩:=Ak h;have c3:=nC A8 AR A9 hl3;obtain⟨e4,e5,e6,e7,h⟩:=A1S h;obtain⟨wE,hl8,h⟩:=Ak h;have c8:=nE A8 AR A9 ((Ph.set v_.toNat ((Ph.getD v_.toNat default).set i.toNat false)).set ((BP (A8.getD v_.toNat default) i.toNat).toNat) (((Ph.set v_.toNat ((Ph.getD v_.toNat default).set i.toNat false)).getD ((BP (A8.getD v_.toNat default) i.toNat).toNat) default).set ((Ck (A8.getD v_.toNat default) i.toNat).toNat) false)) hl8;obtain⟨dF,hl9,h⟩:=Ak h;have c9:=Ua wE.1 wE.2.1 wE.2.2 v_ hl9;obtain⟨e10,h⟩:=ES h
 obtain rfl:=Option.some.inj h
 simp (maxDischargeDepth:=9) only [↓AL,AO,↓reduceIte,Nat.reduceEqDiff,Nat.reduceLT,Nat.reduceAdd,Nat.reduceBEq,e1.1,e1.2,e2.1,e2.2,c3,e4.2,e5.2,e6.1,e6.2,e7.1,e7.2,c8,c9,e10.2]
noncomputable def Ke(A8:List (List (Int×Int)))(AR:AB)(A9:AB)(Aj:Int)(out1:Int)(K6:Int):Option ((Int×Int)⊕(Int)):= if K6<((A8.getD Aj.toNat default).length:Int)then ck (0≤K6∧K6.toNat<(A8.getD Aj.toNat default).length)<| if(((BP (A8.getD Aj.toNat default) K6.toNat)==Aj)&&((Ck (A8.getD Aj.toNat default) K6.toNat)==K6))=true then some (Sum.inl (out1,IntKind.i64.wrap (K6+1))) else (R5 A8 AR A9 Aj K6).bind fun A2W=> if 0≤A2W then if out1=0 then some (Sum.inl (IntKind.i64.wrap (A2W+1),IntKind.i64.wrap (K6+1))) else if(IntKind.i64.wrap (A2W+1))<out1 then some (Sum.inl (IntKind.i64.wrap (A2W+1),IntKind.i64.wrap (K6+1))) else some (Sum.inl (out1,IntKind.i64.wrap (K6+1))) else some (Sum.inl (out1,IntKind.i64.wrap (K6+1))) else some (Sum.inr out1)
noncomputable def Oo(A8:List (List (Int×Int)))(AR:AB)(A9:AB)(Aj:Int)(v:Int×Int):Option (Int):=Fb (fun v=>Ke A8 AR A9 Aj v.1 v.2) v
noncomputable def Kg(A8:List (List (Int×Int)))(AR:AB)(A9:AB)(out:Int)(Aj:Int):Option ((Int×Int)⊕(Int)):= if Aj<(A8.length:Int)then ck (0≤Aj∧Aj.toNat<A8.length)<| (Oo A8 AR A9 Aj (out,0)).bind fun Aa=> some (Sum.inl (Aa,IntKind.i64.wrap (Aj+1))) else some (Sum.inr out)
noncomputable def Oq(A8:List (List (Int×Int)))(AR:AB)(A9:AB)(v:Int×Int):Option (Int):=Fb (fun v=>Kg A8 AR A9 v.1 v.2) v
noncomputable def R6(A8:List (List (Int×Int)))(AR:AB)(A9:AB):Option (Int):= (Oq A8 AR A9 (0,0)).bind fun BA=> some BA
def dH:SC:= .seq (.ops [oB 21 .lss 3 (tK 20) (tK 19) 3 0]) (.seq (.cond (tK 21) .skip (.exit 2)) (.seq (.block 3 (.seq (.ops [oM 22 20 3,oI 23 79 18 20,oL 24 87 23 87,oX 6 (.alloc 87) 0,oA 5 22 3,oS 87 6 24]) (.seq (.seq (.ops [oL 25 87 6 87,oM 26 4 3,oM 27 5 3,oX 28 (.build 87 #[(0,(tK 26)),(1,(tK 27))]) 87,oB 29 .eql 87 (tK 25) (tK 28) 87 4]) (.cond (tK 29) (.exit 3) .skip)) (.seq (.ops [oL 30 38 1 38,oM 31 4 3,oM 32 5 3,oC 33 131 [(tK 30),(tK 31),(tK 32)] [38,3,3] 3,oA 7 33 3]) (.seq (.ops [oM 34 7 3,oB 35 .geq 3 (tK 34) (iK 0) 3 4,oM 36 35 4,⟨(some 37),(.move (tK 3)),3,(some (some 36,true))⟩,⟨(some 38),(.binOp .eql 3 (tK 37) (iK 0) 3),4,(some (some 36,true))⟩,⟨(some 39),(.move (tK 38)),4,(some (some 36,true))⟩,⟨(some 40),(.move (tK 7)),3,(some (some 39,false))⟩,⟨(some 41),(.binOp .add 3 (tK 40) (iK 1) 3),3,(some (some 39,false))⟩,⟨(some 42),(.move (tK 3)),3,(some (some 39,false))⟩,⟨(some 43),(.binOp .lss 3 (tK 41) (tK 42) 3),4,(some (some 39,false))⟩,⟨(some 44),(.pick (tK 39) F7 (tK 43)),4,(some (some 36,true))⟩,oX 45 (.pick (tK 36) (tK 44) MS) 4]) (.cond (tK 45) (.ops [oM 46 7 3,oB 47 .add 3 (tK 46) (iK 1) 3 3,oA 3 47 3]) .skip)))))) (.ops [oB 48 .add 3 (tK 20) (iK 1) 3 3,
 oM 20 48 3])))
def xw:SC:= .loop dH
def dI:SC:= .seq (.ops [oB 12 .lss 3 (tK 11) (tK 10) 3 0]) (.seq (.cond (tK 12) .skip (.exit 0)) (.seq (.block 1 (.seq (.ops [oM 13 11 3,oA 4 13 3]) (.seq (.ops [oF 14 38 1 0,oL 15 36 14 36,oM 16 4 3,oI 17 36 15 16,oL 18 79 17 79,oN 19 18 79,oX 20 (.move (iK 0)) 3]) (.block 2 xw)))) (.ops [oB 49 .add 3 (tK 11) (iK 1) 3 3,oM 11 49 3])))
def xx:SC:= .loop dI
def AB5:SC:= .seq (.ops [oX 1 (.box 38 (tK 0)) 0,oX 2 (.assign (iK 0)) 3]) (.seq (.ops [oX 3 (.assign (iK 0)) 3]) (.seq (.seq (.ops [oF 8 38 1 0,oL 9 36 8 36,oN 10 9 36,oX 11 (.move (iK 0)) 3]) (.block 0 xx)) (.seq (.ops [oM 50 3 3,oA 2 50 3]) .ret)))
theorem A4m:Tryz.f110.body.map (BX lends)=some AB5:=by kernel_rfl
theorem AIB:Bj Tryz.f110 1=true:=by kernel_rfl
theorem AOc{a l:List D}{r:D×List D}(h:Br Y.env AB5 (fin Ap l.length [ResultVar.tmp 2] r) (entry a l))(ha:a.length=1):Y.call 110 a l=some r:=
 AZ (Y:=Y) rfl Tryz.func110 (ha▸AIB) A4m h
def Dx(A8:List (List (Int×Int)))(AR:AB)(A9:AB)(Aj:Int)(out1:Int)(K6:Int)(s:St):Prop:=s.v 1=D.box [D.sl 79 (AQ (fun x=>D.sl 87 (Au .i64 .i64 x)) A8),D.sl 3 (AQ (D.int .i64) AR),D.sl 3 (AQ (D.int .i64) A9)]∧s.v 3=D.int .i64 out1∧s.v 4=D.int .i64 Aj∧s.v 10=D.int .i64 (A8.length:Int)∧s.v 11=D.int .i64 Aj∧s.v 18=D.sl 87 (Au .i64 .i64 (A8.getD Aj.toNat default))∧s.v 19=D.int .i64 ((A8.getD Aj.toNat default).length:Int)∧s.v 20=D.int .i64 K6
def Mm(A8:List (List (Int×Int)))(AR:AB)(A9:AB)(Aj:Int)(r:Int)(ex:Ex)(s:St):Prop:=ex= .exit 2∧s.v 1=D.box [D.sl 79 (AQ (fun x=>D.sl 87 (Au .i64 .i64 x)) A8),D.sl 3 (AQ (D.int .i64) AR),D.sl 3 (AQ (D.int .i64) A9)]∧s.v 3=D.int .i64 r∧s.v 10=D.int .i64 (A8.length:Int)∧s.v 11=D.int .i64 Aj
theorem Yf(A8:List (List (Int×Int)))(AR:AB)(A9:AB)(Aj:Int){v:Int×Int}{s:St}{r:Int}(h:Oo A8 AR A9 Aj v=some r)(hM:Dx A8 AR A9 Aj v.1 v.2 s):Br Y.env xw (Mm A8 AR A9 Aj r) s:=by
 unfold Oo at h;refine BH (c:=dH) (fun v=>Ke A8 AR A9 Aj v.1 v.2) (fun v s=>Dx A8 AR A9 Aj v.1 v.2 s) (Mm A8 AR A9 Aj) ?_ h hM;clear h hM s v r;intro v s o hM h;obtain⟨out1,K6⟩:=v;dsimp only at h hM;unfold Ke at h;unfold Dx at hM;obtain⟨m0,m1,m2,m3,m4,m5,m6,m7⟩:=hM;unfold dH;rcases iS h with⟨e3,h⟩|⟨e3,h⟩
 ·obtain⟨e4,h⟩:=ES h;rcases iS h with⟨e5,h⟩|⟨e5,h⟩
  ·obtain rfl:=Option.some.inj h
   simp (maxDischargeDepth:=9) only [↓AL,AO,↓reduceIte,Nat.reduceEqDiff,Nat.reduceLT,Nat.reduceLeDiff,Nat.reduceAdd,m0,m1,m2,m3,m4,m5,m6,m7,e3,e4.1,e4.2,e5,Dx,En]
  ·have e5f:(((BP (A8.getD Aj.toNat default) K6.toNat)==Aj)&&((Ck (A8.getD Aj.toNat default) K6.toNat)==K6))=false:=Jw.mpr e5;obtain⟨A2W,hl6,h⟩:=Ak h;have c6:=dG A8 AR A9 Aj K6 hl6;rcases iS h with⟨e7,h⟩|⟨e7,h⟩
   ·rcases iS h with⟨e8,h⟩|⟨e8,h⟩
    ·obtain rfl:=Option.some.inj h
     simp (maxDischargeDepth:=9) only [↓AL,AO,↓reduceIte,Nat.reduceEqDiff,Nat.reduceLT,Nat.reduceLeDiff,Nat.reduceAdd,m0,m1,m2,m3,m4,m5,m6,m7,e3,e4.1,e4.2,e5f,c6,e7,decide_eq_true e8,Dx,En]
    ·rcases iS h with⟨e9,h⟩|⟨e9,h⟩
     ·obtain rfl:=Option.some.inj h
      simp (maxDischargeDepth:=9) only [↓AL,AO,↓reduceIte,Nat.reduceEqDiff,Nat.reduceLT,Nat.reduceLeDiff,Nat.reduceAdd,m0,m1,m2,m3,m4,m5,m6,m7,e3,e4.1,e4.2,e5f,c6,e7,e8,e9,Dx,En]
     ·obtain rfl:=Option.some.inj h
      simp (maxDischargeDepth:=9) only [↓AL,AO,↓reduceIte,Nat.reduceEqDiff,Nat.reduceLT,Nat.reduceLeDiff,Nat.reduceAdd,m0,m1,m2,m3,m4,m5,m6,m7,e3,e4.1,e4.2,e5f,c6,e7,e8,e9,Dx,En]
   ·obtain rfl:=Option.some.inj h
    simp (maxDischargeDepth:=9) only [↓AL,AO,↓reduceIte,Nat.reduceEqDiff,Nat.reduceLT,Nat.reduceLeDiff,Nat.reduceAdd,m0,m1,m2,m3,m4,m5,m6,m7,e3,e4.1,e4.2,e5f,c6,e7,Dx,En]
 ·obtain rfl:=Option.some.inj h
  simp (maxDischargeDepth:=9) only [↓AL,AO,↓reduceIte,Nat.reduceEqDiff,Nat.reduceLT,m0,m1,m3,m4,m6,m7,e3,Dx,Mm,K3]
def IX(A8:List (List (Int×Int)))(AR:AB)(A9:AB)(out:Int)(Aj:Int)(s:St):Prop:=s.v 1=D.box [D.sl 79 (AQ (fun x=>D.sl 87 (Au .i64 .i64 x)) A8),D.sl 3 (AQ (D.int .i64) AR),D.sl 3 (AQ (D.int .i64) A9)]∧s.v 3=D.int .i64 out∧s.v 10=D.int .i64 (A8.length:Int)∧s.v 11=D.int .i64 Aj
def Mo(A8:List (List (Int×Int)))(AR:AB)(A9:AB)(r:Int)(ex:Ex)(s:St):Prop:=ex= .exit 0∧s.v 3=D.int .i64 r
theorem Yg(A8:List (List (Int×Int)))(AR:AB)(A9:AB){v:Int×Int}{s:St}{r:Int}(h:Oq A8 AR A9 v=some r)(hM:IX A8 AR A9 v.1 v.2 s):Br Y.env xx (Mo A8 AR A9 r) s:=by
 unfold Oq at h;refine BH (c:=dI) (fun v=>Kg A8 AR A9 v.1 v.2) (fun v s=>IX A8 AR A9 v.1 v.2 s) (Mo A8 AR A9) ?_ h hM;clear h hM s v r;intro v s o hM h;obtain⟨out,Aj⟩:=v;dsimp only at h hM;unfold Kg at h;unfold IX at hM;obtain⟨m0,m1,m2,m3⟩:=hM;unfold dI;rcases iS h with⟨e1,h⟩|⟨e1,h⟩
 ·obtain⟨e2,h⟩:=ES h;obtain⟨Aa,hl4,h⟩:=Ak h;try dsimp only at h
  simp (maxDischargeDepth:=9) only [↓AL,AO,↓reduceIte,Nat.reduceEqDiff,Nat.reduceLT,m0,m2,m3,e1,e2.1,e2.2];refine Aw (Yf A8 AR A9 Aj hl4 ?_) ?_
  ·simp (maxDischargeDepth:=9) only [BZ,↓reduceIte,Nat.reduceEqDiff,m0,m1,m2,m3,Dx]
  ·intro ex4 s4 hX4;unfold Mm at hX4;obtain⟨rfl,n4_0,n4_1,n4_2,n4_3⟩:=hX4
   obtain rfl:=Option.some.inj h
   simp (maxDischargeDepth:=9) only [↓AL,AO,↓reduceIte,Nat.reduceEqDiff,Nat.reduceLT,n4_0,n4_1,n4_2,n4_3,IX,En]
 ·obtain rfl:=Option.some.inj h
  simp (maxDischargeDepth:=9) only [↓AL,AO,↓reduceIte,Nat.reduceEqDiff,Nat.reduceLT,m1,m2,m3,e1,IX,Mo,K3]
theorem dJ(A8:List (List (Int×Int)))(AR:AB)(A9:AB){r:Int}(h:R6 A8 AR A9=some r):Y.call 110 [D.agg [D.sl 79 (AQ (fun x=>D.sl 87 (Au .i64 .i64 x)) A8),D.sl 3 (AQ (D.int .i64) AR),D.sl 3 (AQ (D.int .i64) A9)]] []=some (D.int .i64 r,[]):=by
 refine AOc ?_ rfl;unfold AB5;unfold R6 at h;obtain⟨BA,hl2,h⟩:=Ak h;try dsimp only at h
 simp (maxDischargeDepth:=9) only [↓AL,AO,↓reduceIte,Nat.reduceEqDiff,Nat.reduceLT,Nat.reduceAdd];refine Aw (Yg A8 AR A9 hl2 ?_) ?_
 ·simp (maxDischargeDepth:=9) only [BZ,↓reduceIte,Nat.reduceEqDiff,IX]
 ·intro ex2 s2 hX2;unfold Mo at hX2;obtain⟨rfl,n2_0⟩:=hX2
  obtain rfl:=Option.some.inj h
  simp (maxDischargeDepth:=9) only [↓AL,AO,↓reduceIte,Nat.reduceEqDiff,Nat.reduceLT,n2_0]
noncomputable def Pp(A8:List (List (Int×Int)))(AR:AB)(A9:AB):Option (Bool):= (Td A8 AR A9).bind fun r4_=> if r4_=true then some false else (R6 A8 AR A9).bind fun V8=> some (decide (V8=0))
def k77:SC:= .seq (.ops [oX 1 (.box 38 (tK 0)) 0,oX 2 CY 4]) (.seq (.ops [oL 3 38 1 38,oC 4 109 [(tK 3)] [38] 4,oX 5 (.unOp .not 4 (tK 4)) 4,oM 6 5 4,⟨(some 7),(.load 38 (tK 1)),38,(some (some 6,true))⟩,⟨(some 8),(.call ⟨(.value (.func 110)), #[(tK 7)], #[38]⟩),3,(some (some 6,true))⟩,⟨(some 9),(.binOp .eql 3 (tK 8) (iK 0) 3),4,(some (some 6,true))⟩,oX 10 (.pick (tK 6) (tK 9) MS) 4,oA 2 10 4]) .ret)
theorem AB6:Tryz.f77.body.map (BX lends)=some k77:=by kernel_rfl
theorem AOf:Bj Tryz.f77 1=true:=by kernel_rfl
theorem c77{a l:List D}{r:D×List D}(h:Br Y.env k77 (fin Ap l.length [ResultVar.tmp 2] r) (entry a l))(ha:a.length=1):Y.call 77 a l=some r:=
 AZ (Y:=Y) rfl Tryz.func77 (ha▸AOf) AB6 h
theorem Yh(A8:List (List (Int×Int)))(AR:AB)(A9:AB){r:Bool}(h:Pp A8 AR A9=some r):Y.call 77 [D.agg [D.sl 79 (AQ (fun x=>D.sl 87 (Au .i64 .i64 x)) A8),D.sl 3 (AQ (D.int .i64) AR),D.sl 3 (AQ (D.int .i64) A9)]] []=some (D.bool r,[]):=by
 refine c77 ?_ rfl;unfold k77;unfold Pp at h;obtain⟨r4_,hl1,h⟩:=Ak h;have c1:=iC A8 AR A9 hl1;rcases iS h with⟨e2,h⟩|⟨e2,h⟩
 ·obtain rfl:=Option.some.inj h
  simp (maxDischargeDepth:=9) only [↓AL,AO,↓reduceIte,Nat.reduceEqDiff,Nat.reduceLT,Nat.reduceAdd,c1,e2]
 ·have e2f:r4_=false:=Jw.mpr e2;obtain⟨V8,hl3,h⟩:=Ak h;try dsimp only at h
  have c3:=dJ A8 AR A9 hl3
  obtain rfl:=Option.some.inj h
  simp (maxDischargeDepth:=9) only [↓AL,AO,↓reduceIte,Nat.reduceEqDiff,Nat.reduceLT,Nat.reduceAdd,c1,e2f,c3]
noncomputable def Ju(r_:Int)(GY:AB)(out:AB)(Bu:Int):Option ((AB×Int)⊕(AB)):= if Bu<(GY.length:Int)then ck (0≤Bu∧Bu.toNat<GY.length)<| if(La (GY.getD Bu.toNat default) (0:Int) r_)=true then ck (out.length+1<1099511627776)<| some (Sum.inl ((out++[Bu]),IntKind.i64.wrap (Bu+1))) else some (Sum.inl (out,IntKind.i64.wrap (Bu+1))) else some (Sum.inr out)
noncomputable def QV(r_:Int)(GY:AB)(v:AB×Int):Option (AB):=Fb (fun v=>Ju r_ GY v.1 v.2) v
noncomputable def Te(A8:List (List (Int×Int)))(AR:AB)(A9:AB)(v_:Int)(r_:Int):Option (AB):= (O4 A8 AR A9 v_).bind fun GY=> (QV r_ GY ([],0)).bind fun Aa=> some Aa
def dK:SC:= .seq (.ops [oB 15 .lss 3 (tK 14) (tK 13) 3 0]) (.seq (.cond (tK 15) .skip (.exit 0)) (.seq (.block 1 (.seq (.ops [oM 16 14 3,oI 17 26 12 14,oL 18 3 17 3,oA 8 16 3,oA 9 18 3]) (.seq (.ops [oM 19 9 3,oM 20 2 3,oC 21 82 [(tK 19),(iK 0),(tK 20)] [3,3,3] 4]) (.cond (tK 21) (.ops [oM 22 7 26,oM 23 8 3,oX 24 (.buildSlice 26 1 #[(0,(tK 23))]) 26,oX 25 (.call ⟨(.builtin .append), #[(tK 22),(tK 24)], #[26,26]⟩) 26,oA 7 25 26]) .skip)))) (.ops [oB 26 .add 3 (tK 14) (iK 1) 3 3,oM 14 26 3])))
def xy:SC:= .loop dK
def AB7:SC:= .seq (.ops [oX 3 (.box 38 (tK 0)) 0,oX 6 KL 26]) (.seq (.ops [oX 7 KL 26]) (.seq (.seq (.ops [oL 10 38 3 38,oM 11 1 3,oC 12 134 [(tK 10),(tK 11)] [38,3] 26,oN 13 12 26,oX 14 (.move (iK 0)) 3]) (.block 0 xy)) (.seq (.ops [oM 27 7 26,oA 6 27 26]) .ret)))
theorem A4n:Tryz.f113.body.map (BX lends)=some AB7:=by kernel_rfl
theorem AIC:Bj Tryz.f113 3=true:=by kernel_rfl
theorem AOg{a l:List D}{r:D×List D}(h:Br Y.env AB7 (fin Ap l.length [ResultVar.tmp 6] r) (entry a l))(ha:a.length=3):Y.call 113 a l=some r:=
 AZ (Y:=Y) rfl Tryz.func113 (ha▸AIC) A4n h
def Hq(r_:Int)(GY:AB)(out:AB)(Bu:Int)(s:St):Prop:=s.v 2=D.int .i64 r_∧s.v 7=D.own 3 (AQ (D.int .i64) out)∧s.v 12=D.own 3 (AQ (D.int .i64) GY)∧s.v 13=D.int .i64 (GY.length:Int)∧s.v 14=D.int .i64 Bu
def NZ(r_:Int)(GY:AB)(r:AB)(ex:Ex)(s:St):Prop:=ex= .exit 0∧s.v 7=D.own 3 (AQ (D.int .i64) r)
theorem dL(r_:Int)(GY:AB){v:AB×Int}{s:St}{r:AB}(h:QV r_ GY v=some r)(hM:Hq r_ GY v.1 v.2 s):Br Y.env xy (NZ r_ GY r) s:=by
 unfold QV at h;refine BH (c:=dK) (fun v=>Ju r_ GY v.1 v.2) (fun v s=>Hq r_ GY v.1 v.2 s) (NZ r_ GY) ?_ h hM;clear h hM s v r;intro v s o hM h;obtain⟨out,Bu⟩:=v;dsimp only at h hM;unfold Ju at h;unfold Hq at hM;obtain⟨m0,m1,m2,m3,m4⟩:=hM;unfold dK;rcases iS h with⟨e2,h⟩|⟨e2,h⟩
 ·obtain⟨e3,h⟩:=ES h;have c4:=MG (GY.getD Bu.toNat default) (0:Int) r_;rcases iS h with⟨e5,h⟩|⟨e5,h⟩
  ·obtain⟨e6,h⟩:=ES h
   obtain rfl:=Option.some.inj h
   simp (maxDischargeDepth:=9) only [↓AL,AO,↓reduceIte,Nat.reduceEqDiff,Nat.reduceLT,Nat.reduceLeDiff,Nat.reduceAdd,m0,m1,m2,m3,m4,e2,e3.1,e3.2,c4,e5,e6,Hq,En]
  ·have e5f:(La (GY.getD Bu.toNat default) (0:Int) r_)=false:=Jw.mpr e5
   obtain rfl:=Option.some.inj h
   simp (maxDischargeDepth:=9) only [↓AL,AO,↓reduceIte,Nat.reduceEqDiff,Nat.reduceLT,Nat.reduceAdd,m0,m1,m2,m3,m4,e2,e3.1,e3.2,c4,e5f,Hq,En]
 ·obtain rfl:=Option.some.inj h
  simp (maxDischargeDepth:=9) only [↓AL,AO,↓reduceIte,Nat.reduceEqDiff,Nat.reduceLT,m1,m3,m4,e2,Hq,NZ,K3]
theorem iM(A8:List (List (Int×Int)))(AR:AB)(A9:AB)(v_:Int)(r_:Int){r:AB}(h:Te A8 AR A9 v_ r_=some r):Y.call 113 [D.agg [D.sl 79 (AQ (fun x=>D.sl 87 (Au .i64 .i64 x)) A8),D.sl 3 (AQ (D.int .i64) AR),D.sl 3 (AQ (D.int .i64) A9)],D.int .i64 v_,D.int .i64 r_] []=some (D.own 3 (AQ (D.int .i64) r),[]):=by
 refine AOg ?_ rfl;unfold AB7;unfold Te at h;obtain⟨GY,hl1,h⟩:=Ak h;have c1:=Ua A8 AR A9 v_ hl1;obtain⟨Aa,hl3,h⟩:=Ak h;try dsimp only at h
 simp (maxDischargeDepth:=9) only [↓AL,AO,↓reduceIte,Nat.reduceEqDiff,Nat.reduceLT,Nat.reduceAdd,c1];refine Aw (dL r_ GY hl3 ?_) ?_
 ·simp (maxDischargeDepth:=9) only [BZ,Ei,↓reduceIte,Nat.reduceEqDiff,Nat.reduceLT,Hq]<;>(repeat' apply A7)<;>first|rfl|exact⟨_,rfl⟩|exact⟨_,_,rfl⟩|simp [AQ,CR]
 ·intro ex3 s3 hX3;unfold NZ at hX3;obtain⟨rfl,n3_0⟩:=hX3
  obtain rfl:=Option.some.inj h
  simp (maxDischargeDepth:=9) only [↓AL,AO,↓reduceIte,Nat.reduceEqDiff,Nat.reduceLT,n3_0]
noncomputable def IY(A8:List (List (Int×Int)))(AR:AB)(A9:AB)(out:AB)(Iq:Int):Option ((AB×Int)⊕(AB)):= if Iq<(A8.length:Int)then (Te A8 AR A9 Iq (40:Int)).bind fun Uv=> ck (0<Uv.length)<| ck (out.length+1<1099511627776)<| some (Sum.inl ((out++[(Uv.getD 0 default)]),IntKind.i64.wrap (Iq+1))) else some (Sum.inr out)
noncomputable def Ot(A8:List (List (Int×Int)))(AR:AB)(A9:AB)(v:AB×Int):Option (AB):=Fb (fun v=>IY A8 AR A9 v.1 v.2) v
noncomputable def R7(A8:List (List (Int×Int)))(AR:AB)(A9:AB):Option (AB):= (Ot A8 AR A9 ([],0)).bind fun Aa=> some Aa
def nH:SC:= .seq (.ops [oB 9 .lss 3 (tK 8) (tK 7) 3 0]) (.seq (.cond (tK 9) .skip (.exit 0)) (.seq (.block 1 (.seq (.ops [oM 10 8 3,oA 4 10 3]) (.ops [oM 11 3 26,oL 12 38 1 38,oM 13 4 3,oC 14 113 [(tK 12),(tK 13),(iK 40)] [38,3,3] 26,oX 15 (.indexAddr 26 (tK 14) (iK 0)) 0,oL 16 3 15 3,oX 17 (.buildSlice 26 1 #[(0,(tK 16))]) 26,oX 18 (.call ⟨(.builtin .append), #[(tK 11),(tK 17)], #[26,26]⟩) 26,oA 3 18 26]))) (.ops [oB 19 .add 3 (tK 8) (iK 1) 3 3,oM 8 19 3])))
def A2X:SC:= .loop nH
def k83:SC:= .seq (.ops [oX 1 (.box 38 (tK 0)) 0,oX 2 KL 26]) (.seq (.ops [oX 3 KL 26]) (.seq (.seq (.ops [oF 5 38 1 0,oL 6 36 5 36,oN 7 6 36,oX 8 (.move (iK 0)) 3]) (.block 0 A2X)) (.seq (.ops [oM 20 3 26,oA 2 20 26]) .ret)))
theorem AB8:Tryz.f83.body.map (BX lends)=some k83:=by kernel_rfl
theorem AOi:Bj Tryz.f83 1=true:=by kernel_rfl
theorem c83{a l:List D}{r:D×List D}(h:Br Y.env k83 (fin Ap l.length [ResultVar.tmp 2] r) (entry a l))(ha:a.length=1):Y.call 83 a l=some r:=
 AZ (Y:=Y) rfl Tryz.func83 (ha▸AOi) AB8 h
def IZ(A8:List (List (Int×Int)))(AR:AB)(A9:AB)(out:AB)(Iq:Int)(s:St):Prop:=s.v 1=D.box [D.sl 79 (AQ (fun x=>D.sl 87 (Au .i64 .i64 x)) A8),D.sl 3 (AQ (D.int .i64) AR),D.sl 3 (AQ (D.int .i64) A9)]∧s.v 3=D.own 3 (AQ (D.int .i64) out)∧s.v 7=D.int .i64 (A8.length:Int)∧s.v 8=D.int .i64 Iq
def Mq(A8:List (List (Int×Int)))(AR:AB)(A9:AB)(r:AB)(ex:Ex)(s:St):Prop:=ex= .exit 0∧s.v 3=D.own 3 (AQ (D.int .i64) r)
theorem Yi(A8:List (List (Int×Int)))(AR:AB)(A9:AB){v:AB×Int}{s:St}{r:AB}(h:Ot A8 AR A9 v=some r)(hM:IZ A8 AR A9 v.1 v.2 s):Br Y.env A2X (Mq A8 AR A9 r) s:=by
 unfold Ot at h;refine BH (c:=nH) (fun v=>IY A8 AR A9 v.1 v.2) (fun v s=>IZ A8 AR A9 v.1 v.2 s) (Mq A8 AR A9) ?_ h hM;clear h hM s v r;intro v s o hM h;obtain⟨out,Iq⟩:=v;dsimp only at h hM;unfold IY at h;unfold IZ at hM;obtain⟨m0,m1,m2,m3⟩:=hM;unfold nH;rcases iS h with⟨e1,h⟩|⟨e1,h⟩
 ·obtain⟨Uv,hl2,h⟩:=Ak h;have c2:=iM A8 AR A9 Iq (40:Int) hl2;obtain⟨e3,e4,h⟩:=GX h
  obtain rfl:=Option.some.inj h
  simp (maxDischargeDepth:=9) only [↓AL,AO,↓reduceIte,Nat.reduceEqDiff,Nat.reduceLT,Nat.reduceLeDiff,Nat.reduceAdd,m0,m1,m2,m3,e1,c2,e3,e4,IZ,En]
 ·obtain rfl:=Option.some.inj h
  simp (maxDischargeDepth:=9) only [↓AL,AO,↓reduceIte,Nat.reduceEqDiff,Nat.reduceLT,m1,m2,m3,e1,IZ,Mq,K3]
theorem dM(A8:List (List (Int×Int)))(AR:AB)(A9:AB){r:AB}(h:R7 A8 AR A9=some r):Y.call 83 [D.agg [D.sl 79 (AQ (fun x=>D.sl 87 (Au .i64 .i64 x)) A8),D.sl 3 (AQ (D.int .i64) AR),D.sl 3 (AQ (D.int .i64) A9)]] []=some (D.own 3 (AQ (D.int .i64) r),[]):=by
 refine c83 ?_ rfl;unfold k83;unfold R7 at h;obtain⟨Aa,hl2,h⟩:=Ak h;try dsimp only at h
 simp (maxDischargeDepth:=9) only [↓AL,AO,↓reduceIte,Nat.reduceEqDiff,Nat.reduceLT,Nat.reduceAdd];refine Aw (Yi A8 AR A9 hl2 ?_) ?_
 ·simp (maxDischargeDepth:=9) only [BZ,↓reduceIte,Nat.reduceEqDiff,IZ]<;>(repeat' apply A7)<;>first|rfl|exact⟨_,rfl⟩|exact⟨_,_,rfl⟩|simp [AQ,CR]
 ·intro ex2 s2 hX2;unfold Mq at hX2;obtain⟨rfl,n2_0⟩:=hX2
  obtain rfl:=Option.some.inj h
  simp (maxDischargeDepth:=9) only [↓AL,AO,↓reduceIte,Nat.reduceEqDiff,Nat.reduceLT,n2_0]
end Go.Proofs.YtiehjihckndgkaaGreat
