/- Solutions on a forest counted: lifted. Conditions: none. -/
import Derived.Test.YtiehjihckndgkaaGreatL6
import Derived.Test.YtiehjihckndgkaaGreatSmA
import Derived.Test.YtiehjihckndgkaaGreatFrA
namespace Go.Proofs.YtiehjihckndgkaaGreat
open Go Dv
set_option linter.unusedSimpArgs false
set_option linter.unusedVariables false
set_option maxRecDepth 100000
set_option maxHeartbeats 4000000
noncomputable def QW(a:Int)(b:Int):Option (Int):= if a=0 then some (IntKind.i64.wrap (a*b)) else if(IntKind.i64.wrap ((1000000000001:Int).tdiv a))<b then some 1000000000001 else some (IntKind.i64.wrap (a*b))
def k54:SC:= .seq (.ops [oX 4 (.assign (iK 0)) 3]) (.seq (.seq (.ops [oM 5 0 3,oB 6 .neq 3 (tK 5) (iK 0) 3 4,oM 7 6 4,⟨(some 8),(.move (tK 1)),3,(some (some 7,true))⟩,⟨(some 9),(.move (tK 0)),3,(some (some 7,true))⟩,⟨(some 10),(.binOp .quo 3 (iK 1000000000001) (tK 9) 3),3,(some (some 7,true))⟩,⟨(some 11),(.binOp .gtr 3 (tK 8) (tK 10) 3),4,(some (some 7,true))⟩,oX 12 (.pick (tK 7) (tK 11) MS) 4]) (.cond (tK 12) (.seq (.ops [oX 4 (.assign (iK 1000000000001)) 3]) .ret) .skip)) (.seq (.ops [oM 13 0 3,oM 14 1 3,oB 15 .mul 3 (tK 13) (tK 14) 3 3,oA 4 15 3]) .ret))
theorem AB9:Tryz.f54.body.map (BX lends)=some k54:=by kernel_rfl
theorem AOk:Bj Tryz.f54 2=true:=by kernel_rfl
theorem c54{a l:List D}{r:D×List D}(h:Br Y.env k54 (fin Ap l.length [ResultVar.tmp 4] r) (entry a l))(ha:a.length=2):Y.call 54 a l=some r:=
 AZ (Y:=Y) rfl Tryz.func54 (ha▸AOk) AB9 h
theorem Rt(a:Int)(b:Int){r:Int}(h:QW a b=some r):Y.call 54 [D.int .i64 a,D.int .i64 b] []=some (D.int .i64 r,[]):=by
 refine c54 ?_ rfl;unfold k54;unfold QW at h;rcases iS h with⟨e1,h⟩|⟨e1,h⟩
 ·obtain rfl:=Option.some.inj h
  simp (maxDischargeDepth:=9) only [↓AL,AO,↓reduceIte,Nat.reduceEqDiff,Nat.reduceLT,decide_eq_true e1]
 ·rcases iS h with⟨e2,h⟩|⟨e2,h⟩
  ·obtain rfl:=Option.some.inj h
   simp (maxDischargeDepth:=9) only [↓AL,AO,↓reduceIte,Nat.reduceEqDiff,Nat.reduceLT,e1,e2]
  ·obtain rfl:=Option.some.inj h
   simp (maxDischargeDepth:=9) only [↓AL,AO,↓reduceIte,Nat.reduceEqDiff,Nat.reduceLT,e1,e2]
noncomputable def Cs(rec_:Int→Int→AB→AB→AY→Int→Int→AY→AY→(List (List (Int×Int)))→AB→AB→Int→Option (AB×AB))(Df:Int)(BM:Int)(c0_:AY)(c1__0:Int)(c1__1:Int)(c1__2:AY)(c1__3:AY)(c1__4:List (List (Int×Int)))(c1__5:AB)(c1__6:AB)(c3_:Int)(Gy:Int)(t100000_0:AB)(t100001_0:AB):Option ((Int×AB×AB)⊕(AB×AB)):= if Gy<c1__0 then ck (0≤Df∧Df.toNat<t100000_0.length)<| if Df=c3_ then (rec_ (IntKind.i64.wrap (Df+1)) BM (t100000_0.set Df.toNat Gy) t100001_0 c0_ c1__0 c1__1 c1__2 c1__3 c1__4 c1__5 c1__6 c3_).bind fun wF=> some (Sum.inl (IntKind.i64.wrap (Gy+1),wF.1,wF.2)) else ck (0≤Df∧Df.toNat<c0_.length)<| ck (0≤Gy∧Gy.toNat<(c0_.getD Df.toNat default).length)<| (QW BM ((c0_.getD Df.toNat default).getD Gy.toNat default)).bind fun AID=> (rec_ (IntKind.i64.wrap (Df+1)) AID (t100000_0.set Df.toNat Gy) t100001_0 c0_ c1__0 c1__1 c1__2 c1__3 c1__4 c1__5 c1__6 c3_).bind fun wF=> some (Sum.inl (IntKind.i64.wrap (Gy+1),wF.1,wF.2)) else some (Sum.inr (t100000_0,t100001_0))
noncomputable def E8(rec_:Int→Int→AB→AB→AY→Int→Int→AY→AY→(List (List (Int×Int)))→AB→AB→Int→Option (AB×AB))(Df:Int)(BM:Int)(c0_:AY)(c1__0:Int)(c1__1:Int)(c1__2:AY)(c1__3:AY)(c1__4:List (List (Int×Int)))(c1__5:AB)(c1__6:AB)(c3_:Int)(v:Int×AB×AB):Option (AB×AB):=Fb (fun v=>Cs rec_ Df BM c0_ c1__0 c1__1 c1__2 c1__3 c1__4 c1__5 c1__6 c3_ v.1 v.2.1 v.2.2) v
noncomputable def DU(rec_:Int→Int→AB→AB→AY→Int→Int→AY→AY→(List (List (Int×Int)))→AB→AB→Int→Option (AB×AB))(Df:Int)(BM:Int)(o0_:AB)(o1_:AB)(c0_:AY)(c1__0:Int)(c1__1:Int)(c1__2:AY)(c1__3:AY)(c1__4:List (List (Int×Int)))(c1__5:AB)(c1__6:AB)(c3_:Int):Option (AB×AB):= if BM=0 then some (o0_,o1_) else if Df=(c0_.length:Int)then if Df=c1__1 then (Mj c1__0 c1__1 c1__2 c1__3 o0_).bind fun ABA=> if ABA=true then if 0≤c3_ then ck (0≤c3_∧c3_.toNat<o0_.length)<| ck (0≤(o0_.getD c3_.toNat default)∧(o0_.getD c3_.toNat default).toNat<o1_.length)<| some (o0_,(o1_.set ((o0_.getD c3_.toNat default).toNat) (KO (IntKind.i64.wrap ((o1_.getD ((o0_.getD c3_.toNat default).toNat) default)+BM)) 1000000000001))) else ck (0<o1_.length)<| some (o0_,(o1_.set 0 (KO (IntKind.i64.wrap ((o1_.getD 0 default)+BM)) 1000000000001))) else some (o0_,o1_) else if 0≤c3_ then ck (0≤c3_∧c3_.toNat<o0_.length)<| ck (0≤(o0_.getD c3_.toNat default)∧(o0_.getD c3_.toNat default).toNat<o1_.length)<| some (o0_,(o1_.set ((o0_.getD c3_.toNat default).toNat) (KO (IntKind.i64.wrap ((o1_.getD ((o0_.getD c3_.toNat default).toNat) default)+BM)) 1000000000001))) else ck (0<o1_.length)<| some (o0_,(o1_.set 0 (KO (IntKind.i64.wrap ((o1_.getD 0 default)+BM)) 1000000000001)))
 else (E8 rec_ Df BM c0_ c1__0 c1__1 c1__2 c1__3 c1__4 c1__5 c1__6 c3_ (0,o0_,o1_)).bind fun Aa=> some (Aa.1,Aa.2)
noncomputable def BU:Nat→Int→Int→AB→AB→AY→Int→Int→AY→AY→(List (List (Int×Int)))→AB→AB→Int→Option (AB×AB) |0=>fun _ _ _ _ _ _ _ _ _ _ _ _ _=>none |n+1=>fun Df BM o0_ o1_ c0_ c1__0 c1__1 c1__2 c1__3 c1__4 c1__5 c1__6 c3_=>DU (BU n) Df BM o0_ o1_ c0_ c1__0 c1__1 c1__2 c1__3 c1__4 c1__5 c1__6 c3_
noncomputable def Gd(Df:Int)(BM:Int)(o0_:AB)(o1_:AB)(c0_:AY)(c1__0:Int)(c1__1:Int)(c1__2:AY)(c1__3:AY)(c1__4:List (List (Int×Int)))(c1__5:AB)(c1__6:AB)(c3_:Int):Option (AB×AB):=BU 1000000 Df BM o0_ o1_ c0_ c1__0 c1__1 c1__2 c1__3 c1__4 c1__5 c1__6 c3_
def dN:SC:= .seq (.ops [oB 50 .lss 3 (tK 49) (tK 48) 3 4]) (.seq (.cond (tK 50) .skip (.exit 0)) (.seq (.block 1 (.seq (.ops [oM 51 49 3,oA 11 51 3]) (.seq (.ops [oL 52 26 4 26,oM 53 0 3,oM 54 11 3,oI 55 26 52 53,oS 3 55 54]) (.seq (.ops [oM 56 1 3,oA 12 56 3]) (.seq (.seq (.ops [oM 57 0 3,oL 58 3 5 3,oB 59 .neq 3 (tK 57) (tK 58) 3 4]) (.cond (tK 59) (.ops [oM 60 1 3,oL 61 22 2 22,oM 62 0 3,oI 63 22 61 62,oL 64 26 63 26,oM 65 11 3,oI 66 26 64 65,oL 67 3 66 3,oC 68 54 [(tK 60),(tK 67)] [3,3] 3,oA 12 68 3]) .skip)) (.ops [oL 69 124 7 124,oM 70 0 3,oB 71 .add 3 (tK 70) (iK 1) 3 3,oM 72 12 3,oX 73 (.call ⟨(.value (tK 69)), #[(tK 71),(tK 72)], #[3,3]⟩) 0])))))) (.ops [oB 74 .add 3 (tK 49) (iK 1) 3 3,oM 49 74 3])))
def xz:SC:= .loop dN
abbrev dO:List Nat:=[36,37,38,39,40,41,42,43,44,43,43,45,100000,100001,100002,100003,100004,100005,100006,100007,45,44,6,44]
def ABB:SC:= .seq (.seq (.ops [oM 13 1 3,oB 14 .eql 3 (tK 13) (iK 0) 3 4]) (.cond (tK 14) .ret .skip)) (.seq (.seq (.ops [oM 15 0 3,oL 16 22 2 22,oN 17 16 22,oB 18 .eql 3 (tK 15) (tK 17) 3 4]) (.cond (tK 18) (.seq (.seq (.ops [oM 19 0 3,oF 20 75 3 0,oF 21 34 20 1,oL 22 3 21 3,oB 23 .neq 3 (tK 19) (tK 22) 3 4,oM 24 23 4,⟨(some 25),(.fieldAddr 75 (tK 3) 0),0,(some (some 24,false))⟩,⟨(some 26),(.load 34 (tK 25)),34,(some (some 24,false))⟩,⟨(some 27),(.load 26 (tK 4)),26,(some (some 24,false))⟩,⟨(some 28),(.call ⟨(.value (.func 119)), #[(tK 26),(tK 27)], #[34,26]⟩),4,(some (some 24,false))⟩,oX 29 (.pick (tK 24) F7 (tK 28)) 4]) (.cond (tK 29) (.seq (.ops [oX 10 (.assign (iK 0)) 3]) (.seq (.seq (.ops [oL 30 3 5 3,oB 31 .geq 3 (tK 30) (iK 0) 3 4]) (.cond (tK 31) (.ops [oL 32 26 4 26,oL 33 3 5 3,oI 34 26 32 33,oL 35 3 34 3,oA 10 35 3]) .skip)) (.draws [(⟨[100000,100001,100002,100003,100004,100005,100006,100007,36,6,6],dO,[36]⟩,oL 36 26 6 26),(⟨[37,10,10],dO,[37]⟩,oM 37 10 3),(⟨[100000,100001,100002,100003,100004,100005,100006,100007,38,6,6],dO,[38]⟩,oL 38 26 6 26),(⟨[39,10,10],dO,[39]⟩,oM 39 10 3),(⟨[100000,100001,100002,100003,100004,100005,100006,100007,40,38,39,6,10],dO,[40]⟩,oI 40 26 38 39),
 (⟨[100000,100001,100002,100003,100004,100005,100006,100007,41,40,6],dO,[41]⟩,oL 41 3 40 3),(⟨[42,1,1],dO,[42]⟩,oM 42 1 3),(⟨[43,41,42,6,1],dO,[43]⟩,oB 43 .add 3 (tK 41) (tK 42) 3 3),(⟨[44,43,43],dO,[44,43,43]⟩,oX 44 (.call ⟨(.builtin .min), #[(tK 43),(iK 1000000000001)], #[3,3]⟩) 3),(⟨[100000,100001,100002,100003,100004,100005,100006,100007,45,36,37,6,10],dO,[45]⟩,oI 45 26 36 37),(⟨[100000,100001,100002,100003,100004,100005,100006,100007,45,44,6,44],dO,[100000,100001,100002,100003,100004,100005,100006,100007,45,44,6,44]⟩,oS 3 45 44)]))) .skip)) .ret) .skip)) (.seq (.ops [oF 46 75 3 0,oF 47 34 46 0,oL 48 3 47 3,oX 49 (.move (iK 0)) 3]) (.block 0 xz)))
theorem A4o:Tryz.f118.body.map (BX lends)=some ABB:=by kernel_rfl
theorem AIE:Bj Tryz.f118 8=true:=by kernel_rfl
theorem AOl{a l:List D}{r:D×List D}(h:Br Y.env ABB (fin Ap l.length [] r) (entry a l))(ha:a.length=8):Y.call 118 a l=some r:=
 AZ (Y:=Y) rfl Tryz.func118 (ha▸AIE) A4o h
def Bo(rec_:Int→Int→AB→AB→AY→Int→Int→AY→AY→(List (List (Int×Int)))→AB→AB→Int→Option (AB×AB))(Df:Int)(BM:Int)(c0_:AY)(c1__0:Int)(c1__1:Int)(c1__2:AY)(c1__3:AY)(c1__4:List (List (Int×Int)))(c1__5:AB)(c1__6:AB)(c3_:Int)(Gy:Int)(t100000_0:AB)(t100001_0:AB)(s:St):Prop:=s.v 0=D.int .i64 Df∧s.v 1=D.int .i64 BM∧s.v 2=D.cptr [D.sl 26 (AQ Bw c0_)]∧(∃w_,s.v 4=D.vw [100000] (s.k 100000) w_)∧s.v 5=D.cptr [D.int .i64 c3_]∧(∃w0_ w1_,s.v 7=D.ocl true 118 [D.cptr [D.sl 26 (AQ Bw c0_)],D.cptr [D.int .i64 c1__0,D.int .i64 c1__1,D.sl 26 (AQ Bw c1__2),D.sl 26 (AQ Bw c1__3),D.sl 79 (AQ (fun x=>D.sl 87 (Au .i64 .i64 x)) c1__4),D.sl 3 (AQ (D.int .i64) c1__5),D.sl 3 (AQ (D.int .i64) c1__6)],D.vw [100000] (s.k 100000) w0_,D.cptr [D.int .i64 c3_],D.vw [100001] (s.k 100001) w1_,D.undef])∧s.v 48=D.int .i64 c1__0∧s.v 49=D.int .i64 Gy∧s.v 100000=D.box [D.own 3 (AQ (D.int .i64) t100000_0)]∧s.v 100001=D.box [D.own 3 (AQ (D.int .i64) t100001_0)]
def Dk(rec_:Int→Int→AB→AB→AY→Int→Int→AY→AY→(List (List (Int×Int)))→AB→AB→Int→Option (AB×AB))(Df:Int)(BM:Int)(c0_:AY)(c1__0:Int)(c1__1:Int)(c1__2:AY)(c1__3:AY)(c1__4:List (List (Int×Int)))(c1__5:AB)(c1__6:AB)(c3_:Int)(r:AB×AB)(ex:Ex)(s:St):Prop:=ex= .exit 0∧s.v 100000=D.box [D.own 3 (AQ (D.int .i64) r.1)]∧s.v 100001=D.box [D.own 3 (AQ (D.int .i64) r.2)]
theorem NE(rec_:Int→Int→AB→AB→AY→Int→Int→AY→AY→(List (List (Int×Int)))→AB→AB→Int→Option (AB×AB))(Df:Int)(BM:Int)(c0_:AY)(c1__0:Int)(c1__1:Int)(c1__2:AY)(c1__3:AY)(c1__4:List (List (Int×Int)))(c1__5:AB)(c1__6:AB)(c3_:Int)(rec_h: ∀(Df:Int) (BM:Int) (o0_:AB) (o1_:AB) (c0_:AY) (c1__0:Int) (c1__1:Int) (c1__2:AY) (c1__3:AY) (c1__4:List (List (Int×Int))) (c1__5:AB) (c1__6:AB) (c3_:Int) (r:AB×AB),rec_ Df BM o0_ o1_ c0_ c1__0 c1__1 c1__2 c1__3 c1__4 c1__5 c1__6 c3_=some r→Y.call 118 [D.int .i64 Df,D.int .i64 BM,D.cptr [D.sl 26 (AQ Bw c0_)],D.cptr [D.int .i64 c1__0,D.int .i64 c1__1,D.sl 26 (AQ Bw c1__2),D.sl 26 (AQ Bw c1__3),D.sl 79 (AQ (fun x=>D.sl 87 (Au .i64 .i64 x)) c1__4),D.sl 3 (AQ (D.int .i64) c1__5),D.sl 3 (AQ (D.int .i64) c1__6)],D.vw [100000] 0 0,D.cptr [D.int .i64 c3_],D.vw [100001] 0 0,D.ocl true 118 [D.cptr [D.sl 26 (AQ Bw c0_)],D.cptr [D.int .i64 c1__0,D.int .i64 c1__1,D.sl 26 (AQ Bw c1__2),D.sl 26 (AQ Bw c1__3),D.sl 79 (AQ (fun x=>D.sl 87 (Au .i64 .i64 x)) c1__4),D.sl 3 (AQ (D.int .i64) c1__5),D.sl 3 (AQ (D.int .i64) c1__6)],D.vw [100000] 0 0,D.cptr [D.int .i64 c3_],D.vw [100001] 0 0,D.undef]] [D.box [D.own 3 (AQ (D.int .i64) o0_)],D.box [D.own 3 (AQ (D.int .i64) o1_)]]=some (D.tup [],[D.box [D.own 3 (AQ (D.int .i64) r.1)],D.box [D.own 3 (AQ (D.int .i64) r.2)]])){v:Int×AB×AB}{s:St}{r:AB×AB}(h:E8 rec_ Df BM c0_ c1__0 c1__1 c1__2 c1__3 c1__4 c1__5 c1__6 c3_ v=some r)(hM:Bo rec_ Df BM c0_ c1__0 c1__1 c1__2 c1__3 c1__4 c1__5 c1__6 c3_ v.1 v.2.1 v.2.2 s):Br Y.env xz (Dk rec_ Df BM c0_ c1__0 c1__1 c1__2 c1__3 c1__4 c1__5 c1__6 c3_ r) s:=by
 unfold E8 at h;refine BH (c:=dN) (fun v=>Cs rec_ Df BM c0_ c1__0 c1__1 c1__2 c1__3 c1__4 c1__5 c1__6 c3_ v.1 v.2.1 v.2.2) (fun v s=>Bo rec_ Df BM c0_ c1__0 c1__1 c1__2 c1__3 c1__4 c1__5 c1__6 c3_ v.1 v.2.1 v.2.2 s) (Dk rec_ Df BM c0_ c1__0 c1__1 c1__2 c1__3 c1__4 c1__5 c1__6 c3_) ?_ h hM;clear h hM s v r;intro v s o hM h;obtain⟨Gy,t100000_0,t100001_0⟩:=v;dsimp only at h hM;unfold Cs at h;unfold Bo at hM;obtain⟨m0,m1,m2,⟨w3_,m3⟩,m4,⟨w5_0,w5_1,m5⟩,m6,m7,m8,m9⟩:=hM;unfold dN;rcases iS h with⟨e3,h⟩|⟨e3,h⟩
 ·obtain⟨e4,h⟩:=ES h;rcases iS h with⟨e5,h⟩|⟨e5,h⟩
  ·obtain⟨wF,hl6,h⟩:=Ak h;try dsimp only at h
   have c6:=rec_h _ _ _ _ _ _ _ _ _ _ _ _ _ _ hl6
   obtain rfl:=Option.some.inj h
   simp (maxDischargeDepth:=9) only [↓AL,AO,↓reduceIte,Nat.reduceEqDiff,Nat.reduceLT,Nat.reduceAdd,Nat.reduceBEq,m0,m1,m2,m3,m4,m5,m6,m7,m8,m9,e3,e4.1,e4.2,decide_eq_true e5,c6,Bo,En]<;>(repeat' apply A7)<;>first|rfl|exact⟨_,rfl⟩|exact⟨_,_,rfl⟩|simp [AQ,CR]
  ·obtain⟨e6,e7,h⟩:=GX h;obtain⟨AID,hl8,h⟩:=Ak h;have c8:=Rt BM ((c0_.getD Df.toNat default).getD Gy.toNat default) hl8;obtain⟨wF,hl9,h⟩:=Ak h;try dsimp only at h
   have c9:=rec_h _ _ _ _ _ _ _ _ _ _ _ _ _ _ hl9
   obtain rfl:=Option.some.inj h
   simp (maxDischargeDepth:=9) only [↓AL,AO,↓reduceIte,Nat.reduceEqDiff,Nat.reduceLT,Nat.reduceAdd,Nat.reduceBEq,m0,m1,m2,m3,m4,m5,m6,m7,m8,m9,e3,e4.1,e4.2,e5,e6.2,e7.1,e7.2,c8,c9,Bo,En]<;>(repeat' apply A7)<;>first|rfl|exact⟨_,rfl⟩|exact⟨_,_,rfl⟩|simp [AQ,CR]
 ·obtain rfl:=Option.some.inj h
  simp (maxDischargeDepth:=9) only [↓AL,AO,↓reduceIte,Nat.reduceEqDiff,Nat.reduceLT,m6,m7,m8,m9,e3,Bo,Dk,K3]
theorem Mr(rec_:Int→Int→AB→AB→AY→Int→Int→AY→AY→(List (List (Int×Int)))→AB→AB→Int→Option (AB×AB))(Df:Int)(BM:Int)(o0_:AB)(o1_:AB)(c0_:AY)(c1__0:Int)(c1__1:Int)(c1__2:AY)(c1__3:AY)(c1__4:List (List (Int×Int)))(c1__5:AB)(c1__6:AB)(c3_:Int)(rec_h: ∀(Df:Int) (BM:Int) (o0_:AB) (o1_:AB) (c0_:AY) (c1__0:Int) (c1__1:Int) (c1__2:AY) (c1__3:AY) (c1__4:List (List (Int×Int))) (c1__5:AB) (c1__6:AB) (c3_:Int) (r:AB×AB),rec_ Df BM o0_ o1_ c0_ c1__0 c1__1 c1__2 c1__3 c1__4 c1__5 c1__6 c3_=some r→Y.call 118 [D.int .i64 Df,D.int .i64 BM,D.cptr [D.sl 26 (AQ Bw c0_)],D.cptr [D.int .i64 c1__0,D.int .i64 c1__1,D.sl 26 (AQ Bw c1__2),D.sl 26 (AQ Bw c1__3),D.sl 79 (AQ (fun x=>D.sl 87 (Au .i64 .i64 x)) c1__4),D.sl 3 (AQ (D.int .i64) c1__5),D.sl 3 (AQ (D.int .i64) c1__6)],D.vw [100000] 0 0,D.cptr [D.int .i64 c3_],D.vw [100001] 0 0,D.ocl true 118 [D.cptr [D.sl 26 (AQ Bw c0_)],D.cptr [D.int .i64 c1__0,D.int .i64 c1__1,D.sl 26 (AQ Bw c1__2),D.sl 26 (AQ Bw c1__3),D.sl 79 (AQ (fun x=>D.sl 87 (Au .i64 .i64 x)) c1__4),D.sl 3 (AQ (D.int .i64) c1__5),D.sl 3 (AQ (D.int .i64) c1__6)],D.vw [100000] 0 0,D.cptr [D.int .i64 c3_],D.vw [100001] 0 0,D.undef]] [D.box [D.own 3 (AQ (D.int .i64) o0_)],D.box [D.own 3 (AQ (D.int .i64) o1_)]]=some (D.tup [],[D.box [D.own 3 (AQ (D.int .i64) r.1)],D.box [D.own 3 (AQ (D.int .i64) r.2)]])){r:AB×AB}(h:DU rec_ Df BM o0_ o1_ c0_ c1__0 c1__1 c1__2 c1__3 c1__4 c1__5 c1__6 c3_=some r):Y.call 118 [D.int .i64 Df,D.int .i64 BM,D.cptr [D.sl 26 (AQ Bw c0_)],D.cptr [D.int .i64 c1__0,D.int .i64 c1__1,D.sl 26 (AQ Bw c1__2),D.sl 26 (AQ Bw c1__3),D.sl 79 (AQ (fun x=>D.sl 87 (Au .i64 .i64 x)) c1__4),D.sl 3 (AQ (D.int .i64) c1__5),D.sl 3 (AQ (D.int .i64) c1__6)],D.vw [100000] 0 0,D.cptr [D.int .i64 c3_],D.vw [100001] 0 0,D.ocl true 118 [D.cptr [D.sl 26 (AQ Bw c0_)],D.cptr [D.int .i64 c1__0,D.int .i64 c1__1,D.sl 26 (AQ Bw c1__2),D.sl 26 (AQ Bw c1__3),D.sl 79 (AQ (fun x=>D.sl 87 (Au .i64 .i64 x)) c1__4),D.sl 3 (AQ (D.int .i64) c1__5),D.sl 3 (AQ (D.int .i64) c1__6)],D.vw [100000] 0 0,D.cptr [D.int .i64 c3_],D.vw [100001] 0 0,D.undef]] [D.box [D.own 3 (AQ (D.int .i64) o0_)],D.box [D.own 3 (AQ (D.int .i64) o1_)]]=some (D.tup [],[D.box [D.own 3 (AQ (D.int .i64) r.1)],D.box [D.own 3 (AQ (D.int .i64) r.2)]]):=by
 refine AOl ?_ rfl;unfold ABB;unfold DU at h;rcases iS h with⟨e1,h⟩|⟨e1,h⟩
 ·obtain rfl:=Option.some.inj h
  simp (maxDischargeDepth:=9) only [↓AL,AO,↓reduceIte,Nat.reduceEqDiff,Nat.reduceLT,Nat.reduceAdd,Nat.reduceSub,decide_eq_true e1]
 ·rcases iS h with⟨e2,h⟩|⟨e2,h⟩
  ·rcases iS h with⟨e3,h⟩|⟨e3,h⟩
   ·obtain⟨ABA,hl4,h⟩:=Ak h;have c4:=UM c1__0 c1__1 c1__2 c1__3 o0_ hl4;rcases iS h with⟨e5,h⟩|⟨e5,h⟩
    ·rcases iS h with⟨e6,h⟩|⟨e6,h⟩
     ·obtain⟨e7,e8,h⟩:=GX h
      obtain rfl:=Option.some.inj h
      simp (maxDischargeDepth:=9) only [↓AL,AO,↓reduceIte,Nat.reduceEqDiff,Nat.reduceLT,Nat.reduceLeDiff,Nat.reduceAdd,Nat.reduceSub,Nat.reduceBEq,e1,decide_eq_true e2,decide_eq_true e3,c4,e5,e6,e7.2,e8.1,e8.2]
     ·obtain⟨e7,h⟩:=ES h
      obtain rfl:=Option.some.inj h
      simp (maxDischargeDepth:=9) only [↓AL,AO,↓reduceIte,Nat.reduceEqDiff,Nat.reduceLT,Nat.reduceLeDiff,Nat.reduceAdd,Nat.reduceSub,Nat.reduceBEq,e1,decide_eq_true e2,decide_eq_true e3,c4,e5,e6,e7]
    ·have e5f:ABA=false:=Jw.mpr e5
     obtain rfl:=Option.some.inj h
     simp (maxDischargeDepth:=9) only [↓AL,AO,↓reduceIte,Nat.reduceEqDiff,Nat.reduceLT,Nat.reduceLeDiff,Nat.reduceAdd,Nat.reduceSub,e1,decide_eq_true e2,decide_eq_true e3,c4,e5f]
   ·rcases iS h with⟨e4,h⟩|⟨e4,h⟩
    ·obtain⟨e5,e6,h⟩:=GX h
     obtain rfl:=Option.some.inj h
     simp (maxDischargeDepth:=9) only [↓AL,AO,↓reduceIte,Nat.reduceEqDiff,Nat.reduceLT,Nat.reduceAdd,Nat.reduceSub,Nat.reduceBEq,e1,decide_eq_true e2,e3,e4,e5.2,e6.1,e6.2]
    ·obtain⟨e5,h⟩:=ES h
     obtain rfl:=Option.some.inj h
     simp (maxDischargeDepth:=9) only [↓AL,AO,↓reduceIte,Nat.reduceEqDiff,Nat.reduceLT,Nat.reduceAdd,Nat.reduceSub,Nat.reduceBEq,e1,decide_eq_true e2,e3,e4,e5]
  ·obtain⟨Aa,hl4,h⟩:=Ak h;try dsimp only at h
   simp (maxDischargeDepth:=9) only [↓AL,AO,↓reduceIte,Nat.reduceEqDiff,Nat.reduceLT,Nat.reduceAdd,e1,e2];refine Aw (NE rec_ Df BM c0_ c1__0 c1__1 c1__2 c1__3 c1__4 c1__5 c1__6 c3_ rec_h hl4 ?_) ?_
   ·simp (maxDischargeDepth:=9) only [BZ,Ei,↓reduceIte,Nat.reduceEqDiff,Nat.reduceLT,Nat.reduceSub,Bo]<;>(repeat' apply A7)<;>first|rfl|exact⟨_,rfl⟩|exact⟨_,_,rfl⟩|simp [AQ,CR]
   ·intro ex4 s4 hX4;unfold Dk at hX4;obtain⟨rfl,n4_0,n4_1⟩:=hX4
    obtain rfl:=Option.some.inj h
    simp (maxDischargeDepth:=9) only [↓AL,AO,↓reduceIte,n4_0,n4_1]
theorem Ms(n:Nat): ∀(Df:Int) (BM:Int) (o0_:AB) (o1_:AB) (c0_:AY) (c1__0:Int) (c1__1:Int) (c1__2:AY) (c1__3:AY) (c1__4:List (List (Int×Int))) (c1__5:AB) (c1__6:AB) (c3_:Int) (r:AB×AB),BU n Df BM o0_ o1_ c0_ c1__0 c1__1 c1__2 c1__3 c1__4 c1__5 c1__6 c3_=some r→Y.call 118 [D.int .i64 Df,D.int .i64 BM,D.cptr [D.sl 26 (AQ Bw c0_)],D.cptr [D.int .i64 c1__0,D.int .i64 c1__1,D.sl 26 (AQ Bw c1__2),D.sl 26 (AQ Bw c1__3),D.sl 79 (AQ (fun x=>D.sl 87 (Au .i64 .i64 x)) c1__4),D.sl 3 (AQ (D.int .i64) c1__5),D.sl 3 (AQ (D.int .i64) c1__6)],D.vw [100000] 0 0,D.cptr [D.int .i64 c3_],D.vw [100001] 0 0,D.ocl true 118 [D.cptr [D.sl 26 (AQ Bw c0_)],D.cptr [D.int .i64 c1__0,D.int .i64 c1__1,D.sl 26 (AQ Bw c1__2),D.sl 26 (AQ Bw c1__3),D.sl 79 (AQ (fun x=>D.sl 87 (Au .i64 .i64 x)) c1__4),D.sl 3 (AQ (D.int .i64) c1__5),D.sl 3 (AQ (D.int .i64) c1__6)],D.vw [100000] 0 0,D.cptr [D.int .i64 c3_],D.vw [100001] 0 0,D.undef]] [D.box [D.own 3 (AQ (D.int .i64) o0_)],D.box [D.own 3 (AQ (D.int .i64) o1_)]]=some (D.tup [],[D.box [D.own 3 (AQ (D.int .i64) r.1)],D.box [D.own 3 (AQ (D.int .i64) r.2)]]):=by
 induction n with
 |zero=>intro Df BM o0_ o1_ c0_ c1__0 c1__1 c1__2 c1__3 c1__4 c1__5 c1__6 c3_ r h;exact absurd h (by rw [BU];exact fun e=>by cases e)
 |succ n ih=>intro Df BM o0_ o1_ c0_ c1__0 c1__1 c1__2 c1__3 c1__4 c1__5 c1__6 c3_ r h;rw [BU]at h;exact Mr (BU n) Df BM o0_ o1_ c0_ c1__0 c1__1 c1__2 c1__3 c1__4 c1__5 c1__6 c3_ ih h
theorem NK(Df:Int)(BM:Int)(o0_:AB)(o1_:AB)(c0_:AY)(c1__0:Int)(c1__1:Int)(c1__2:AY)(c1__3:AY)(c1__4:List (List (Int×Int)))(c1__5:AB)(c1__6:AB)(c3_:Int){r:AB×AB}(h:Gd Df BM o0_ o1_ c0_ c1__0 c1__1 c1__2 c1__3 c1__4 c1__5 c1__6 c3_=some r):Y.call 118 [D.int .i64 Df,D.int .i64 BM,D.cptr [D.sl 26 (AQ Bw c0_)],D.cptr [D.int .i64 c1__0,D.int .i64 c1__1,D.sl 26 (AQ Bw c1__2),D.sl 26 (AQ Bw c1__3),D.sl 79 (AQ (fun x=>D.sl 87 (Au .i64 .i64 x)) c1__4),D.sl 3 (AQ (D.int .i64) c1__5),D.sl 3 (AQ (D.int .i64) c1__6)],D.vw [100000] 0 0,D.cptr [D.int .i64 c3_],D.vw [100001] 0 0,D.ocl true 118 [D.cptr [D.sl 26 (AQ Bw c0_)],D.cptr [D.int .i64 c1__0,D.int .i64 c1__1,D.sl 26 (AQ Bw c1__2),D.sl 26 (AQ Bw c1__3),D.sl 79 (AQ (fun x=>D.sl 87 (Au .i64 .i64 x)) c1__4),D.sl 3 (AQ (D.int .i64) c1__5),D.sl 3 (AQ (D.int .i64) c1__6)],D.vw [100000] 0 0,D.cptr [D.int .i64 c3_],D.vw [100001] 0 0,D.undef]] [D.box [D.own 3 (AQ (D.int .i64) o0_)],D.box [D.own 3 (AQ (D.int .i64) o1_)]]=some (D.tup [],[D.box [D.own 3 (AQ (D.int .i64) r.1)],D.box [D.own 3 (AQ (D.int .i64) r.2)]]):=Ms 1000000 Df BM o0_ o1_ c0_ c1__0 c1__1 c1__2 c1__3 c1__4 c1__5 c1__6 c3_ r h
noncomputable def Cb(c_p:Int)(c_n:Int)(c_2:AY)(c_3:AY)(c_4:List (List (Int×Int)))(c_5:AB)(c_6:AB)(hanging:AY)(port:Int)(all:Int)(MM:Int)(sum:Int)(Qd:Int):Option ((Int×Int)⊕(Int)):= if Qd<((hanging.getD MM.toNat default).length:Int)then ck (0≤Qd∧Qd.toNat<(hanging.getD MM.toNat default).length)<| some (Sum.inl ((KO (IntKind.i64.wrap (sum+((hanging.getD MM.toNat default).getD Qd.toNat default))) 1000000000001),IntKind.i64.wrap (Qd+1))) else some (Sum.inr sum)
noncomputable def Da(c_p:Int)(c_n:Int)(c_2:AY)(c_3:AY)(c_4:List (List (Int×Int)))(c_5:AB)(c_6:AB)(hanging:AY)(port:Int)(all:Int)(MM:Int)(v:Int×Int):Option (Int):=Fb (fun v=>Cb c_p c_n c_2 c_3 c_4 c_5 c_6 hanging port all MM v.1 v.2) v
noncomputable def Cc(c_p:Int)(c_n:Int)(c_2:AY)(c_3:AY)(c_4:List (List (Int×Int)))(c_5:AB)(c_6:AB)(hanging:AY)(port:Int)(all:Int)(MM:Int):Option ((Int×Int)⊕(Int)):= if MM<(hanging.length:Int)then ck (0≤MM∧MM.toNat<hanging.length)<| if MM=port then some (Sum.inl (all,IntKind.i64.wrap (MM+1))) else (Da c_p c_n c_2 c_3 c_4 c_5 c_6 hanging port all MM (0,0)).bind fun Aa=> (QW all Aa).bind fun dF=> some (Sum.inl (dF,IntKind.i64.wrap (MM+1))) else some (Sum.inr all)
noncomputable def Db(c_p:Int)(c_n:Int)(c_2:AY)(c_3:AY)(c_4:List (List (Int×Int)))(c_5:AB)(c_6:AB)(hanging:AY)(port:Int)(v:Int×Int):Option (Int):=Fb (fun v=>Cc c_p c_n c_2 c_3 c_4 c_5 c_6 hanging port v.1 v.2) v
noncomputable def FP(c_p:Int)(c_n:Int)(c_2:AY)(c_3:AY)(c_4:List (List (Int×Int)))(c_5:AB)(c_6:AB)(hanging:AY)(port:Int):Option (AB):= (Db c_p c_n c_2 c_3 c_4 c_5 c_6 hanging port (1,0)).bind fun BA=> ck (0≤c_p∧c_p<1099511627776)<| ck (0<(List.replicate c_p.toNat (0:Int)).length)<| if 0≤port then (Ch [BA] c_p).bind fun zt=> some zt else some ((List.replicate c_p.toNat 0).set 0 BA)
def dP:SC:= .seq (.ops [oB 27 .lss 3 (tK 26) (tK 25) 3 0]) (.seq (.cond (tK 27) .skip (.exit 2)) (.seq (.block 3 (.seq (.ops [oI 28 26 24 26,oL 29 3 28 3,oA 12 29 3]) (.ops [oM 30 10 3,oM 31 12 3,oB 32 .add 3 (tK 30) (tK 31) 3 3,oX 33 (.call ⟨(.builtin .min), #[(tK 32),(iK 1000000000001)], #[3,3]⟩) 3,oA 10 33 3]))) (.ops [oB 34 .add 3 (tK 26) (iK 1) 3 3,oM 26 34 3])))
def y5:SC:= .loop dP
def dQ:SC:= .seq (.ops [oB 17 .lss 3 (tK 16) (tK 15) 3 0]) (.seq (.cond (tK 17) .skip (.exit 0)) (.seq (.block 1 (.seq (.ops [oM 18 16 3,oI 19 22 14 16,oL 20 26 19 26,oA 8 18 3,oA 9 20 26]) (.seq (.seq (.ops [oM 21 8 3,oM 22 2 3,oB 23 .eql 3 (tK 21) (tK 22) 3 4]) (.cond (tK 23) (.exit 1) .skip)) (.seq (.ops [oX 10 (.assign (iK 0)) 3]) (.seq (.seq (.ops [oM 24 9 26,oN 25 24 26,oX 26 (.move (iK 0)) 3]) (.block 2 y5)) (.ops [oM 35 7 3,oM 36 10 3,oC 37 54 [(tK 35),(tK 36)] [3,3] 3,oA 7 37 3])))))) (.ops [oB 38 .add 3 (tK 16) (iK 1) 3 3,oM 16 38 3])))
def y7:SC:= .loop dQ
def ABC:SC:= .seq (.ops [oX 3 (.box 75 (tK 0)) 0,oX 6 KL 26]) (.seq (.ops [oX 7 (.assign (iK 1)) 3]) (.seq (.seq (.ops [oM 14 1 22,oN 15 14 22,oX 16 (.move (iK 0)) 3]) (.block 0 y7)) (.seq (.ops [oF 39 75 3 0,oF 40 34 39 0,oL 41 3 40 3,oX 42 (.makeSlice 26 (tK 41) (tK 41)) 26,oA 13 42 26]) (.seq (.ops [oM 43 13 26,oM 44 7 3,oX 45 (.indexAddr 26 (tK 43) (iK 0)) 0,oS 3 45 44]) (.seq (.seq (.ops [oM 46 2 3,oB 47 .geq 3 (tK 46) (iK 0) 3 4]) (.cond (tK 47) (.ops [oM 48 7 3,oX 49 (.buildSlice 26 1 #[(0,(tK 48))]) 26,oF 50 75 3 0,oF 51 34 50 0,oL 52 3 51 3,oC 53 81 [(tK 49),(tK 52)] [26,3] 26,oA 13 53 26]) .skip)) (.seq (.ops [oM 54 13 26,oA 6 54 26]) .ret))))))
theorem A4p:Tryz.f120.body.map (BX lends)=some ABC:=by kernel_rfl
theorem AIF:Bj Tryz.f120 3=true:=by kernel_rfl
theorem AOm{a l:List D}{r:D×List D}(h:Br Y.env ABC (fin Ap l.length [ResultVar.tmp 6] r) (entry a l))(ha:a.length=3):Y.call 120 a l=some r:=
 AZ (Y:=Y) rfl Tryz.func120 (ha▸AIF) A4p h
def Ce(c_p:Int)(c_n:Int)(c_2:AY)(c_3:AY)(c_4:List (List (Int×Int)))(c_5:AB)(c_6:AB)(hanging:AY)(port:Int)(all:Int)(MM:Int)(sum:Int)(Qd:Int)(s:St):Prop:=s.v 2=D.int .i64 port∧s.v 3=D.box [D.int .i64 c_p,D.int .i64 c_n,D.sl 26 (AQ Bw c_2),D.sl 26 (AQ Bw c_3),D.sl 79 (AQ (fun x=>D.sl 87 (Au .i64 .i64 x)) c_4),D.sl 3 (AQ (D.int .i64) c_5),D.sl 3 (AQ (D.int .i64) c_6)]∧s.v 7=D.int .i64 all∧s.v 10=D.int .i64 sum∧s.v 14=D.sl 26 (AQ Bw hanging)∧s.v 15=D.int .i64 (hanging.length:Int)∧s.v 16=D.int .i64 MM∧s.v 24=D.sl 3 (AQ (D.int .i64) (hanging.getD MM.toNat default))∧s.v 25=D.int .i64 ((hanging.getD MM.toNat default).length:Int)∧s.v 26=D.int .i64 Qd
def E9(c_p:Int)(c_n:Int)(c_2:AY)(c_3:AY)(c_4:List (List (Int×Int)))(c_5:AB)(c_6:AB)(hanging:AY)(port:Int)(all:Int)(MM:Int)(r:Int)(ex:Ex)(s:St):Prop:=ex= .exit 2∧s.v 2=D.int .i64 port∧s.v 3=D.box [D.int .i64 c_p,D.int .i64 c_n,D.sl 26 (AQ Bw c_2),D.sl 26 (AQ Bw c_3),D.sl 79 (AQ (fun x=>D.sl 87 (Au .i64 .i64 x)) c_4),D.sl 3 (AQ (D.int .i64) c_5),D.sl 3 (AQ (D.int .i64) c_6)]∧s.v 7=D.int .i64 all∧s.v 10=D.int .i64 r∧s.v 14=D.sl 26 (AQ Bw hanging)∧s.v 15=D.int .i64 (hanging.length:Int)∧s.v 16=D.int .i64 MM
theorem O6(c_p:Int)(c_n:Int)(c_2:AY)(c_3:AY)(c_4:List (List (Int×Int)))(c_5:AB)(c_6:AB)(hanging:AY)(port:Int)(all:Int)(MM:Int){v:Int×Int}{s:St}{r:Int}(h:Da c_p c_n c_2 c_3 c_4 c_5 c_6 hanging port all MM v=some r)(hM:Ce c_p c_n c_2 c_3 c_4 c_5 c_6 hanging port all MM v.1 v.2 s):Br Y.env y5 (E9 c_p c_n c_2 c_3 c_4 c_5 c_6 hanging port all MM r) s:=by
 unfold Da at h;refine BH (c:=dP) (fun v=>Cb c_p c_n c_2 c_3 c_4 c_5 c_6 hanging port all MM v.1 v.2) (fun v s=>Ce c_p c_n c_2 c_3 c_4 c_5 c_6 hanging port all MM v.1 v.2 s) (E9 c_p c_n c_2 c_3 c_4 c_5 c_6 hanging port all MM) ?_ h hM;clear h hM s v r;intro v s o hM h;obtain⟨sum,Qd⟩:=v;dsimp only at h hM;unfold Cb at h;unfold Ce at hM;obtain⟨m0,m1,m2,m3,m4,m5,m6,m7,m8,m9⟩:=hM;unfold dP;rcases iS h with⟨e4,h⟩|⟨e4,h⟩
 ·obtain⟨e5,h⟩:=ES h
  obtain rfl:=Option.some.inj h
  simp (maxDischargeDepth:=9) only [↓AL,AO,↓reduceIte,Nat.reduceEqDiff,Nat.reduceLT,m0,m1,m2,m3,m4,m5,m6,m7,m8,m9,e4,e5.1,e5.2,Ce,En]
 ·obtain rfl:=Option.some.inj h
  simp (maxDischargeDepth:=9) only [↓AL,AO,↓reduceIte,Nat.reduceEqDiff,Nat.reduceLT,m0,m1,m2,m3,m4,m5,m6,m8,m9,e4,Ce,E9,K3]
def CG(c_p:Int)(c_n:Int)(c_2:AY)(c_3:AY)(c_4:List (List (Int×Int)))(c_5:AB)(c_6:AB)(hanging:AY)(port:Int)(all:Int)(MM:Int)(s:St):Prop:=s.v 2=D.int .i64 port∧s.v 3=D.box [D.int .i64 c_p,D.int .i64 c_n,D.sl 26 (AQ Bw c_2),D.sl 26 (AQ Bw c_3),D.sl 79 (AQ (fun x=>D.sl 87 (Au .i64 .i64 x)) c_4),D.sl 3 (AQ (D.int .i64) c_5),D.sl 3 (AQ (D.int .i64) c_6)]∧s.v 7=D.int .i64 all∧s.v 14=D.sl 26 (AQ Bw hanging)∧s.v 15=D.int .i64 (hanging.length:Int)∧s.v 16=D.int .i64 MM
def EA(c_p:Int)(c_n:Int)(c_2:AY)(c_3:AY)(c_4:List (List (Int×Int)))(c_5:AB)(c_6:AB)(hanging:AY)(port:Int)(r:Int)(ex:Ex)(s:St):Prop:=ex= .exit 0∧s.v 2=D.int .i64 port∧s.v 3=D.box [D.int .i64 c_p,D.int .i64 c_n,D.sl 26 (AQ Bw c_2),D.sl 26 (AQ Bw c_3),D.sl 79 (AQ (fun x=>D.sl 87 (Au .i64 .i64 x)) c_4),D.sl 3 (AQ (D.int .i64) c_5),D.sl 3 (AQ (D.int .i64) c_6)]∧s.v 7=D.int .i64 r
theorem O7(c_p:Int)(c_n:Int)(c_2:AY)(c_3:AY)(c_4:List (List (Int×Int)))(c_5:AB)(c_6:AB)(hanging:AY)(port:Int){v:Int×Int}{s:St}{r:Int}(h:Db c_p c_n c_2 c_3 c_4 c_5 c_6 hanging port v=some r)(hM:CG c_p c_n c_2 c_3 c_4 c_5 c_6 hanging port v.1 v.2 s):Br Y.env y7 (EA c_p c_n c_2 c_3 c_4 c_5 c_6 hanging port r) s:=by
 unfold Db at h;refine BH (c:=dQ) (fun v=>Cc c_p c_n c_2 c_3 c_4 c_5 c_6 hanging port v.1 v.2) (fun v s=>CG c_p c_n c_2 c_3 c_4 c_5 c_6 hanging port v.1 v.2 s) (EA c_p c_n c_2 c_3 c_4 c_5 c_6 hanging port) ?_ h hM;clear h hM s v r;intro v s o hM h;obtain⟨all,MM⟩:=v;dsimp only at h hM;unfold Cc at h;unfold CG at hM;obtain⟨m0,m1,m2,m3,m4,m5⟩:=hM;unfold dQ;rcases iS h with⟨e1,h⟩|⟨e1,h⟩
 ·obtain⟨e2,h⟩:=ES h;rcases iS h with⟨e3,h⟩|⟨e3,h⟩
  ·obtain rfl:=Option.some.inj h
   simp (maxDischargeDepth:=9) only [↓AL,AO,↓reduceIte,Nat.reduceEqDiff,Nat.reduceLT,m0,m1,m2,m3,m4,m5,e1,e2.1,e2.2,decide_eq_true e3,CG,En]
  ·obtain⟨Aa,hl5,h⟩:=Ak h;try dsimp only at h
   simp (maxDischargeDepth:=9) only [↓AL,AO,↓reduceIte,Nat.reduceEqDiff,Nat.reduceLT,m0,m3,m4,m5,e1,e2.1,e2.2,e3];refine Aw (O6 c_p c_n c_2 c_3 c_4 c_5 c_6 hanging port all MM hl5 ?_) ?_
   ·simp (maxDischargeDepth:=9) only [BZ,↓reduceIte,Nat.reduceEqDiff,m0,m1,m2,m3,m4,m5,Ce]
   ·intro ex5 s5 hX5;unfold E9 at hX5;obtain⟨rfl,n5_0,n5_1,n5_2,n5_3,n5_4,n5_5,n5_6⟩:=hX5;obtain⟨dF,hl6,h⟩:=Ak h;try dsimp only at h
    have c6:=Rt all Aa hl6
    obtain rfl:=Option.some.inj h
    simp (maxDischargeDepth:=9) only [↓AL,AO,↓reduceIte,Nat.reduceEqDiff,Nat.reduceLT,Nat.reduceAdd,n5_0,n5_1,n5_2,n5_3,n5_4,n5_5,n5_6,c6,CG,En]
 ·obtain rfl:=Option.some.inj h
  simp (maxDischargeDepth:=9) only [↓AL,AO,↓reduceIte,Nat.reduceEqDiff,Nat.reduceLT,m0,m1,m2,m4,m5,e1,CG,EA,K3]
theorem OH(c_p:Int)(c_n:Int)(c_2:AY)(c_3:AY)(c_4:List (List (Int×Int)))(c_5:AB)(c_6:AB)(hanging:AY)(port:Int){r:AB}(h:FP c_p c_n c_2 c_3 c_4 c_5 c_6 hanging port=some r):Y.call 120 [D.agg [D.int .i64 c_p,D.int .i64 c_n,D.sl 26 (AQ Bw c_2),D.sl 26 (AQ Bw c_3),D.sl 79 (AQ (fun x=>D.sl 87 (Au .i64 .i64 x)) c_4),D.sl 3 (AQ (D.int .i64) c_5),D.sl 3 (AQ (D.int .i64) c_6)],D.sl 26 (AQ Bw hanging),D.int .i64 port] []=some (D.own 3 (AQ (D.int .i64) r),[]):=by
 refine AOm ?_ rfl;unfold ABC;unfold FP at h;obtain⟨BA,hl2,h⟩:=Ak h;try dsimp only at h
 simp (maxDischargeDepth:=9) only [↓AL,AO,↓reduceIte,Nat.reduceEqDiff,Nat.reduceLT];refine Aw (O7 c_p c_n c_2 c_3 c_4 c_5 c_6 hanging port hl2 ?_) ?_
 ·simp (maxDischargeDepth:=9) only [BZ,Ei,↓reduceIte,Nat.reduceEqDiff,Nat.reduceLT,CG]
 ·intro ex2 s2 hX2;unfold EA at hX2;obtain⟨rfl,n2_0,n2_1,n2_2⟩:=hX2;obtain⟨e3,e4,h⟩:=GX h;rcases iS h with⟨e5,h⟩|⟨e5,h⟩
  ·obtain⟨zt,hl6,h⟩:=Ak h;try dsimp only at h
   have c6:=FC [BA] c_p hl6;simp only [KW,Vm]at c6
   obtain rfl:=Option.some.inj h
   simp (maxDischargeDepth:=9) only [↓AL,AO,↓reduceIte,Nat.reduceEqDiff,Nat.reduceLT,Nat.reduceLeDiff,Nat.reduceAdd,n2_0,n2_1,n2_2,e3.1,e3.2,e4,e5,c6]
  ·obtain rfl:=Option.some.inj h
   simp (maxDischargeDepth:=9) only [↓AL,AO,↓reduceIte,Nat.reduceEqDiff,Nat.reduceLT,Nat.reduceLeDiff,n2_0,n2_1,n2_2,e3.1,e3.2,e4,e5]
noncomputable def EO(c_p:Int)(c_n:Int)(c_2:AY)(c_3:AY)(c_4:List (List (Int×Int)))(c_5:AB)(c_6:AB)(hanging:AY)(port:Int):Option (AB):= ck (0≤c_p∧c_p<1099511627776)<| ck (0≤(hanging.length:Int)∧(hanging.length:Int)<1099511627776)<| if(hanging.length:Int)=c_n then (Gd (0:Int) (1:Int) (List.replicate hanging.length 0) (List.replicate c_p.toNat 0) hanging c_p c_n c_2 c_3 c_4 c_5 c_6 port).bind fun A2Y=> some A2Y.2 else (FP c_p c_n c_2 c_3 c_4 c_5 c_6 hanging port).bind fun XH=> some XH
def k89:SC:= .seq (.ops [oX 3 (.box 75 (tK 0)) 0,oX 4 (.box 22 (tK 1)) 0,oX 5 (.box 3 (tK 2)) 0,oX 6 KL 26]) (.seq (.ops [oF 10 75 3 0,oF 11 34 10 0,oL 12 3 11 3,oX 13 (.makeSlice 26 (tK 12) (tK 12)) 26,oX 7 (.alloc 26) 0,oS 26 7 13]) (.seq (.ops [oL 14 22 4 22,oN 15 14 22,oX 16 (.makeSlice 26 (tK 15) (tK 15)) 26,oX 8 (.alloc 26) 0,oS 26 8 16]) (.seq (.ops [oX 9 (.alloc 124) 0]) (.seq (.ops [oX 17 (.makeFunc (Fn.func 118) #[] #[(tK 4),(tK 3),(tK 8),(tK 5),(tK 7),(tK 9)]) 3000052,⟨none,(.store 124 (tK 9) (tK 17)),900010,none⟩]) (.seq (.seq (.ops [oL 18 22 4 22,oN 19 18 22,oF 20 75 3 0,oF 21 34 20 1,oL 22 3 21 3,oB 23 .neq 3 (tK 19) (tK 22) 3 4]) (.cond (tK 23) (.seq (.ops [oL 24 75 3 75,oL 25 22 4 22,oL 26 3 5 3,oC 27 120 [(tK 24),(tK 25),(tK 26)] [75,22,3] 26,oA 6 27 26]) .ret) .skip)) (.seq (.ops [oL 28 124 9 124,oX 29 (.call ⟨(.value (tK 28)), #[(iK 0),(iK 1)], #[3,3]⟩) 0]) (.seq (.ops [oL 30 26 7 26,oA 6 30 26]) .ret)))))))
theorem ABD:Tryz.f89.body.map (BX lends)=some k89:=by kernel_rfl
theorem AOo:Bj Tryz.f89 3=true:=by kernel_rfl
theorem c89{a l:List D}{r:D×List D}(h:Br Y.env k89 (fin Ap l.length [ResultVar.tmp 6] r) (entry a l))(ha:a.length=3):Y.call 89 a l=some r:=
 AZ (Y:=Y) rfl Tryz.func89 (ha▸AOo) ABD h
theorem OI(c_p:Int)(c_n:Int)(c_2:AY)(c_3:AY)(c_4:List (List (Int×Int)))(c_5:AB)(c_6:AB)(hanging:AY)(port:Int){r:AB}(h:EO c_p c_n c_2 c_3 c_4 c_5 c_6 hanging port=some r):Y.call 89 [D.agg [D.int .i64 c_p,D.int .i64 c_n,D.sl 26 (AQ Bw c_2),D.sl 26 (AQ Bw c_3),D.sl 79 (AQ (fun x=>D.sl 87 (Au .i64 .i64 x)) c_4),D.sl 3 (AQ (D.int .i64) c_5),D.sl 3 (AQ (D.int .i64) c_6)],D.sl 26 (AQ Bw hanging),D.int .i64 port] []=some (D.own 3 (AQ (D.int .i64) r),[]):=by
 refine c89 ?_ rfl;unfold k89;unfold EO at h;obtain⟨e1,e2,h⟩:=GX h;rcases iS h with⟨e3,h⟩|⟨e3,h⟩
 ·obtain⟨A2Y,hl4,h⟩:=Ak h;try dsimp only at h
  have c4:=NK (0:Int) (1:Int) (List.replicate hanging.length 0) (List.replicate c_p.toNat 0) hanging c_p c_n c_2 c_3 c_4 c_5 c_6 port hl4
  obtain rfl:=Option.some.inj h
  simp (maxDischargeDepth:=9) only [↓AL,AO,↓reduceIte,Nat.reduceEqDiff,Nat.reduceLT,Nat.reduceLeDiff,Nat.reduceAdd,Nat.reduceMod,Nat.reduceDiv,Nat.reducePow,Nat.reduceSub,Nat.reduceBEq,e1.1,e1.2,e2.1,e2.2,decide_eq_true e3,c4]
 ·obtain⟨XH,hl4,h⟩:=Ak h;try dsimp only at h
  have c4:=OH c_p c_n c_2 c_3 c_4 c_5 c_6 hanging port hl4
  obtain rfl:=Option.some.inj h
  simp (maxDischargeDepth:=9) only [↓AL,AO,↓reduceIte,Nat.reduceEqDiff,Nat.reduceLT,Nat.reduceLeDiff,Nat.reduceAdd,Nat.reduceMod,Nat.reduceDiv,Nat.reducePow,Nat.reduceSub,e1.1,e1.2,e2.1,e2.2,e3,c4]
noncomputable def Ct(t0_p:Int)(t0_n:Int)(t0_2:AY)(t0_3:AY)(t0_4:List (List (Int×Int)))(t0_5:AB)(t0_6:AB)(BM:Int)(Bq:Int)(Oe:AY)(Hr:Int)(H8:AB)(Mt:Int)(t11_1:AB)(Yj:Int):Option ((AB×Int)⊕(AB)):= if Yj<(H8.length:Int)then ck (0≤Yj∧Yj.toNat<H8.length)<| ck (Bv t0_3)<| ck (Us t0_3=true)<| if(Qc t0_3 Mt Yj)=true then ck (0≤Mt∧Mt.toNat<t11_1.length)<| some (Sum.inl ((t11_1.set Mt.toNat (KO (IntKind.i64.wrap ((t11_1.getD Mt.toNat default)+(H8.getD Yj.toNat default))) 1000000000001)),IntKind.i64.wrap (Yj+1))) else some (Sum.inl (t11_1,IntKind.i64.wrap (Yj+1))) else some (Sum.inr t11_1)
noncomputable def Dy(t0_p:Int)(t0_n:Int)(t0_2:AY)(t0_3:AY)(t0_4:List (List (Int×Int)))(t0_5:AB)(t0_6:AB)(BM:Int)(Bq:Int)(Oe:AY)(Hr:Int)(H8:AB)(Mt:Int)(v:AB×Int):Option (AB):=Fb (fun v=>Ct t0_p t0_n t0_2 t0_3 t0_4 t0_5 t0_6 BM Bq Oe Hr H8 Mt v.1 v.2) v
noncomputable def Cu(t0_p:Int)(t0_n:Int)(t0_2:AY)(t0_3:AY)(t0_4:List (List (Int×Int)))(t0_5:AB)(t0_6:AB)(BM:Int)(Bq:Int)(Oe:AY)(Hr:Int)(H8:AB)(Aj:AB)(Mt:Int):Option ((AB×Int)⊕(AB)):= if Mt<((List.replicate t0_p.toNat (0:Int)).length:Int)then (Dy t0_p t0_n t0_2 t0_3 t0_4 t0_5 t0_6 BM Bq Oe Hr H8 Mt (Aj,0)).bind fun Aa=> some (Sum.inl (Aa,IntKind.i64.wrap (Mt+1))) else some (Sum.inr Aj)
noncomputable def Dz(t0_p:Int)(t0_n:Int)(t0_2:AY)(t0_3:AY)(t0_4:List (List (Int×Int)))(t0_5:AB)(t0_6:AB)(BM:Int)(Bq:Int)(Oe:AY)(Hr:Int)(H8:AB)(v:AB×Int):Option (AB):=Fb (fun v=>Cu t0_p t0_n t0_2 t0_3 t0_4 t0_5 t0_6 BM Bq Oe Hr H8 v.1 v.2) v
noncomputable def Cv(rec_:Int→Int→AY→AY→(List (List (Int×Int)))→AB→AB→Int→Int→Option (AB))(t0_p:Int)(t0_n:Int)(t0_2:AY)(t0_3:AY)(t0_4:List (List (Int×Int)))(t0_5:AB)(t0_6:AB)(BM:Int)(Bq:Int)(Oe:AY)(Hr:Int):Option ((AY×Int)⊕(AY)):= if Hr<((t0_4.getD BM.toNat default).length:Int)then ck (0≤Hr∧Hr.toNat<(t0_4.getD BM.toNat default).length)<| if Hr=Bq then ck (Oe.length+1<1099511627776)<| some (Sum.inl ((Oe++[[]]),IntKind.i64.wrap (Hr+1))) else (rec_ t0_p t0_n t0_2 t0_3 t0_4 t0_5 t0_6 (BP (t0_4.getD BM.toNat default) Hr.toNat) (Ck (t0_4.getD BM.toNat default) Hr.toNat)).bind fun H8=> ck (0≤t0_p∧t0_p<1099511627776)<| (Dz t0_p t0_n t0_2 t0_3 t0_4 t0_5 t0_6 BM Bq Oe Hr H8 ((List.replicate t0_p.toNat 0),0)).bind fun BA=> ck (Oe.length+1<1099511627776)<| some (Sum.inl ((Oe++[BA]),IntKind.i64.wrap (Hr+1))) else some (Sum.inr Oe)
noncomputable def E5(rec_:Int→Int→AY→AY→(List (List (Int×Int)))→AB→AB→Int→Int→Option (AB))(t0_p:Int)(t0_n:Int)(t0_2:AY)(t0_3:AY)(t0_4:List (List (Int×Int)))(t0_5:AB)(t0_6:AB)(BM:Int)(Bq:Int)(v:AY×Int):Option (AY):=Fb (fun v=>Cv rec_ t0_p t0_n t0_2 t0_3 t0_4 t0_5 t0_6 BM Bq v.1 v.2) v
noncomputable def EP(rec_:Int→Int→AY→AY→(List (List (Int×Int)))→AB→AB→Int→Int→Option (AB))(t0_p:Int)(t0_n:Int)(t0_2:AY)(t0_3:AY)(t0_4:List (List (Int×Int)))(t0_5:AB)(t0_6:AB)(BM:Int)(Bq:Int):Option (AB):= ck (0≤BM∧BM.toNat<t0_4.length)<| (E5 rec_ t0_p t0_n t0_2 t0_3 t0_4 t0_5 t0_6 BM Bq ([],0)).bind fun Dq=> (EO t0_p t0_n t0_2 t0_3 t0_4 t0_5 t0_6 Dq Bq).bind fun AIG=> some AIG
noncomputable def Bi:Nat→Int→Int→AY→AY→(List (List (Int×Int)))→AB→AB→Int→Int→Option (AB) |0=>fun _ _ _ _ _ _ _ _ _=>none |n+1=>fun t0_p t0_n t0_2 t0_3 t0_4 t0_5 t0_6 BM Bq=>EP (Bi n) t0_p t0_n t0_2 t0_3 t0_4 t0_5 t0_6 BM Bq
noncomputable def K7(t0_p:Int)(t0_n:Int)(t0_2:AY)(t0_3:AY)(t0_4:List (List (Int×Int)))(t0_5:AB)(t0_6:AB)(BM:Int)(Bq:Int):Option (AB):=Bi 1000000 t0_p t0_n t0_2 t0_3 t0_4 t0_5 t0_6 BM Bq
def nI:SC:= .seq (.ops [oB 51 .lss 3 (tK 50) (tK 49) 3 0]) (.seq (.cond (tK 51) .skip (.exit 4)) (.seq (.block 5 (.seq (.ops [oM 52 50 3,oI 53 26 48 50,oL 54 3 53 3,oA 13 52 3,oA 14 54 3]) (.seq (.ops [oF 55 75 3 0,oL 56 34 55 34,oM 57 12 3,oM 58 13 3,oC 59 88 [(tK 56),(tK 57),(tK 58)] [34,3,3] 4]) (.cond (tK 59) (.ops [oM 60 11 26,oM 61 12 3,oM 62 11 26,oM 63 12 3,oI 64 26 62 63,oL 65 3 64 3,oM 66 14 3,oB 67 .add 3 (tK 65) (tK 66) 3 3,oX 68 (.call ⟨(.builtin .min), #[(tK 67),(iK 1000000000001)], #[3,3]⟩) 3,oI 69 26 60 61,oS 3 69 68]) .skip)))) (.ops [oB 70 .add 3 (tK 50) (iK 1) 3 3,oM 50 70 3])))
def A2Z:SC:= .loop nI
def nJ:SC:= .seq (.ops [oB 46 .lss 3 (tK 45) (tK 44) 3 0]) (.seq (.cond (tK 46) .skip (.exit 2)) (.seq (.block 3 (.seq (.ops [oM 47 45 3,oA 12 47 3]) (.seq (.ops [oM 48 10 26,oN 49 48 26,oX 50 (.move (iK 0)) 3]) (.block 4 A2Z)))) (.ops [oB 71 .add 3 (tK 45) (iK 1) 3 3,oM 45 71 3])))
def A2a:SC:= .loop nJ
def nK:SC:= .seq (.ops [oB 23 .lss 3 (tK 22) (tK 21) 3 0]) (.seq (.cond (tK 23) .skip (.exit 0)) (.seq (.block 1 (.seq (.ops [oM 24 22 3,oI 25 79 20 22,oL 26 87 25 87,oX 9 (.alloc 87) 0,oA 8 24 3,oS 87 9 26]) (.seq (.seq (.ops [oM 27 8 3,oM 28 2 3,oB 29 .eql 3 (tK 27) (tK 28) 3 4]) (.cond (tK 29) (.seq (.ops [oM 30 7 22,oX 31 (.buildSlice 22 1 #[(0,(.const (.slice none 0 0)))]) 22,oX 32 (.call ⟨(.builtin .append), #[(tK 30),(tK 31)], #[22,22]⟩) 22,oA 7 32 22]) (.exit 1)) .skip)) (.seq (.ops [oL 33 75 3 75,oF 34 87 9 0,oL 35 3 34 3,oF 36 87 9 1,oL 37 3 36 3,oC 38 55 [(tK 33),(tK 35),(tK 37)] [75,3,3] 26,oA 10 38 26]) (.seq (.ops [oF 39 75 3 0,oF 40 34 39 0,oL 41 3 40 3,oX 42 (.makeSlice 26 (tK 41) (tK 41)) 26,oA 11 42 26]) (.seq (.seq (.ops [oM 43 11 26,oN 44 43 26,oX 45 (.move (iK 0)) 3]) (.block 2 A2a)) (.ops [oM 72 7 22,oM 73 11 26,oX 74 (.buildSlice 22 1 #[(0,(tK 73))]) 22,oX 75 (.call ⟨(.builtin .append), #[(tK 72),(tK 74)], #[22,22]⟩) 22,oA 7 75 22]))))))) (.ops [oB 76 .add 3 (tK 22) (iK 1) 3 3,oM 22 76 3])))
def A2b:SC:= .loop nK
def k55:SC:= .seq (.ops [oX 3 (.box 75 (tK 0)) 0,oX 6 KL 26]) (.seq (.ops [oX 7 KL 22]) (.seq (.seq (.ops [oF 15 75 3 1,oF 16 38 15 0,oL 17 36 16 36,oM 18 1 3,oI 19 36 17 18,oL 20 79 19 79,oN 21 20 79,oX 22 (.move (iK 0)) 3]) (.block 0 A2b)) (.seq (.ops [oL 77 75 3 75,oM 78 7 22,oM 79 2 3,oC 80 89 [(tK 77),(tK 78),(tK 79)] [75,22,3] 26,oA 6 80 26]) .ret)))
theorem ABE:Tryz.f55.body.map (BX lends)=some k55:=by kernel_rfl
theorem AOq:Bj Tryz.f55 3=true:=by kernel_rfl
theorem c55{a l:List D}{r:D×List D}(h:Br Y.env k55 (fin Ap l.length [ResultVar.tmp 6] r) (entry a l))(ha:a.length=3):Y.call 55 a l=some r:=
 AZ (Y:=Y) rfl Tryz.func55 (ha▸AOq) ABE h
def CU(t0_p:Int)(t0_n:Int)(t0_2:AY)(t0_3:AY)(t0_4:List (List (Int×Int)))(t0_5:AB)(t0_6:AB)(BM:Int)(Bq:Int)(Oe:AY)(Hr:Int)(H8:AB)(Mt:Int)(t11_1:AB)(Yj:Int)(s:St):Prop:=s.v 2=D.int .i64 Bq∧s.v 3=D.box [D.int .i64 t0_p,D.int .i64 t0_n,D.sl 26 (AQ Bw t0_2),D.sl 26 (AQ Bw t0_3),D.sl 79 (AQ (fun x=>D.sl 87 (Au .i64 .i64 x)) t0_4),D.sl 3 (AQ (D.int .i64) t0_5),D.sl 3 (AQ (D.int .i64) t0_6)]∧s.v 7=D.own 26 (AQ Qw Oe)∧s.v 10=D.own 3 (AQ (D.int .i64) H8)∧s.v 11=D.own 3 (AQ (D.int .i64) t11_1)∧s.v 12=D.int .i64 Mt∧s.v 20=D.sl 87 (Au .i64 .i64 (t0_4.getD BM.toNat default))∧s.v 21=D.int .i64 ((t0_4.getD BM.toNat default).length:Int)∧s.v 22=D.int .i64 Hr∧s.v 44=D.int .i64 ((List.replicate t0_p.toNat (0:Int)).length:Int)∧s.v 45=D.int .i64 Mt∧(∃w_,s.v 48=D.vw [10] (s.k 10) w_)∧s.v 49=D.int .i64 (H8.length:Int)∧s.v 50=D.int .i64 Yj
def Eb(t0_p:Int)(t0_n:Int)(t0_2:AY)(t0_3:AY)(t0_4:List (List (Int×Int)))(t0_5:AB)(t0_6:AB)(BM:Int)(Bq:Int)(Oe:AY)(Hr:Int)(H8:AB)(Mt:Int)(r:AB)(ex:Ex)(s:St):Prop:=ex= .exit 4∧s.v 2=D.int .i64 Bq∧s.v 3=D.box [D.int .i64 t0_p,D.int .i64 t0_n,D.sl 26 (AQ Bw t0_2),D.sl 26 (AQ Bw t0_3),D.sl 79 (AQ (fun x=>D.sl 87 (Au .i64 .i64 x)) t0_4),D.sl 3 (AQ (D.int .i64) t0_5),D.sl 3 (AQ (D.int .i64) t0_6)]∧s.v 7=D.own 26 (AQ Qw Oe)∧s.v 10=D.own 3 (AQ (D.int .i64) H8)∧s.v 11=D.own 3 (AQ (D.int .i64) r)∧s.v 20=D.sl 87 (Au .i64 .i64 (t0_4.getD BM.toNat default))∧s.v 21=D.int .i64 ((t0_4.getD BM.toNat default).length:Int)∧s.v 22=D.int .i64 Hr∧s.v 44=D.int .i64 ((List.replicate t0_p.toNat (0:Int)).length:Int)∧s.v 45=D.int .i64 Mt
theorem Ou(t0_p:Int)(t0_n:Int)(t0_2:AY)(t0_3:AY)(t0_4:List (List (Int×Int)))(t0_5:AB)(t0_6:AB)(BM:Int)(Bq:Int)(Oe:AY)(Hr:Int)(H8:AB)(Mt:Int){v:AB×Int}{s:St}{r:AB}(h:Dy t0_p t0_n t0_2 t0_3 t0_4 t0_5 t0_6 BM Bq Oe Hr H8 Mt v=some r)(hM:CU t0_p t0_n t0_2 t0_3 t0_4 t0_5 t0_6 BM Bq Oe Hr H8 Mt v.1 v.2 s):Br Y.env A2Z (Eb t0_p t0_n t0_2 t0_3 t0_4 t0_5 t0_6 BM Bq Oe Hr H8 Mt r) s:=by
 unfold Dy at h;refine BH (c:=nI) (fun v=>Ct t0_p t0_n t0_2 t0_3 t0_4 t0_5 t0_6 BM Bq Oe Hr H8 Mt v.1 v.2) (fun v s=>CU t0_p t0_n t0_2 t0_3 t0_4 t0_5 t0_6 BM Bq Oe Hr H8 Mt v.1 v.2 s) (Eb t0_p t0_n t0_2 t0_3 t0_4 t0_5 t0_6 BM Bq Oe Hr H8 Mt) ?_ h hM;clear h hM s v r;intro v s o hM h;obtain⟨t11_1,Yj⟩:=v;dsimp only at h hM;unfold Ct at h;unfold CU at hM;obtain⟨m0,m1,m2,m3,m4,m5,m6,m7,m8,m9,m10,⟨w11_,m11⟩,m12,m13⟩:=hM;unfold nI;rcases iS h with⟨e8,h⟩|⟨e8,h⟩
 ·obtain⟨e9,e10,e11,h⟩:=Q3 h;have zi:=WO t0_p t0_n t0_2 t0_3 Mt Yj e10 e11;rcases iS h with⟨e13,h⟩|⟨e13,h⟩
  ·obtain⟨e14,h⟩:=ES h
   obtain rfl:=Option.some.inj h
   simp (maxDischargeDepth:=9) only [↓AL,AO,↓reduceIte,Nat.reduceEqDiff,Nat.reduceLT,Nat.reduceLeDiff,Nat.reduceAdd,m0,m1,m2,m3,m4,m5,m6,m7,m8,m9,m10,m11,m12,m13,e8,e9.1,e9.2,zi,e13,e14.1,e14.2,CU,En]<;>(repeat' apply A7)<;>first|rfl|exact⟨_,rfl⟩|exact⟨_,_,rfl⟩|simp [AQ,CR]
  ·have e13f:(Qc t0_3 Mt Yj)=false:=Jw.mpr e13
   obtain rfl:=Option.some.inj h
   simp (maxDischargeDepth:=9) only [↓AL,AO,↓reduceIte,Nat.reduceEqDiff,Nat.reduceLT,Nat.reduceLeDiff,Nat.reduceAdd,m0,m1,m2,m3,m4,m5,m6,m7,m8,m9,m10,m11,m12,m13,e8,e9.1,e9.2,zi,e13f,CU,En]<;>(repeat' apply A7)<;>first|rfl|exact⟨_,rfl⟩|exact⟨_,_,rfl⟩|simp [AQ,CR]
 ·obtain rfl:=Option.some.inj h
  simp (maxDischargeDepth:=9) only [↓AL,AO,↓reduceIte,Nat.reduceEqDiff,Nat.reduceLT,m0,m1,m2,m3,m4,m6,m7,m8,m9,m10,m12,m13,e8,CU,Eb,K3]
def Cw(t0_p:Int)(t0_n:Int)(t0_2:AY)(t0_3:AY)(t0_4:List (List (Int×Int)))(t0_5:AB)(t0_6:AB)(BM:Int)(Bq:Int)(Oe:AY)(Hr:Int)(H8:AB)(Aj:AB)(Mt:Int)(s:St):Prop:=s.v 2=D.int .i64 Bq∧s.v 3=D.box [D.int .i64 t0_p,D.int .i64 t0_n,D.sl 26 (AQ Bw t0_2),D.sl 26 (AQ Bw t0_3),D.sl 79 (AQ (fun x=>D.sl 87 (Au .i64 .i64 x)) t0_4),D.sl 3 (AQ (D.int .i64) t0_5),D.sl 3 (AQ (D.int .i64) t0_6)]∧s.v 7=D.own 26 (AQ Qw Oe)∧s.v 10=D.own 3 (AQ (D.int .i64) H8)∧s.v 11=D.own 3 (AQ (D.int .i64) Aj)∧s.v 20=D.sl 87 (Au .i64 .i64 (t0_4.getD BM.toNat default))∧s.v 21=D.int .i64 ((t0_4.getD BM.toNat default).length:Int)∧s.v 22=D.int .i64 Hr∧s.v 44=D.int .i64 ((List.replicate t0_p.toNat (0:Int)).length:Int)∧s.v 45=D.int .i64 Mt
def Ec(t0_p:Int)(t0_n:Int)(t0_2:AY)(t0_3:AY)(t0_4:List (List (Int×Int)))(t0_5:AB)(t0_6:AB)(BM:Int)(Bq:Int)(Oe:AY)(Hr:Int)(H8:AB)(r:AB)(ex:Ex)(s:St):Prop:=ex= .exit 2∧s.v 2=D.int .i64 Bq∧s.v 3=D.box [D.int .i64 t0_p,D.int .i64 t0_n,D.sl 26 (AQ Bw t0_2),D.sl 26 (AQ Bw t0_3),D.sl 79 (AQ (fun x=>D.sl 87 (Au .i64 .i64 x)) t0_4),D.sl 3 (AQ (D.int .i64) t0_5),D.sl 3 (AQ (D.int .i64) t0_6)]∧s.v 7=D.own 26 (AQ Qw Oe)∧s.v 11=D.own 3 (AQ (D.int .i64) r)∧s.v 20=D.sl 87 (Au .i64 .i64 (t0_4.getD BM.toNat default))∧s.v 21=D.int .i64 ((t0_4.getD BM.toNat default).length:Int)∧s.v 22=D.int .i64 Hr
theorem Ov(t0_p:Int)(t0_n:Int)(t0_2:AY)(t0_3:AY)(t0_4:List (List (Int×Int)))(t0_5:AB)(t0_6:AB)(BM:Int)(Bq:Int)(Oe:AY)(Hr:Int)(H8:AB){v:AB×Int}{s:St}{r:AB}(h:Dz t0_p t0_n t0_2 t0_3 t0_4 t0_5 t0_6 BM Bq Oe Hr H8 v=some r)(hM:Cw t0_p t0_n t0_2 t0_3 t0_4 t0_5 t0_6 BM Bq Oe Hr H8 v.1 v.2 s):Br Y.env A2a (Ec t0_p t0_n t0_2 t0_3 t0_4 t0_5 t0_6 BM Bq Oe Hr H8 r) s:=by
 unfold Dz at h;refine BH (c:=nJ) (fun v=>Cu t0_p t0_n t0_2 t0_3 t0_4 t0_5 t0_6 BM Bq Oe Hr H8 v.1 v.2) (fun v s=>Cw t0_p t0_n t0_2 t0_3 t0_4 t0_5 t0_6 BM Bq Oe Hr H8 v.1 v.2 s) (Ec t0_p t0_n t0_2 t0_3 t0_4 t0_5 t0_6 BM Bq Oe Hr H8) ?_ h hM;clear h hM s v r;intro v s o hM h;obtain⟨Aj,Mt⟩:=v;dsimp only at h hM;unfold Cu at h;unfold Cw at hM;obtain⟨m0,m1,m2,m3,m4,m5,m6,m7,m8,m9⟩:=hM;unfold nJ;rcases iS h with⟨e7,h⟩|⟨e7,h⟩
 ·obtain⟨Aa,hl9,h⟩:=Ak h;try dsimp only at h
  simp (maxDischargeDepth:=9) only [↓AL,AO,↓reduceIte,Nat.reduceEqDiff,Nat.reduceLT,m3,m8,m9,e7];refine Aw (Ou t0_p t0_n t0_2 t0_3 t0_4 t0_5 t0_6 BM Bq Oe Hr H8 Mt hl9 ?_) ?_
  ·simp (maxDischargeDepth:=9) only [BZ,↓reduceIte,Nat.reduceEqDiff,m0,m1,m2,m3,m4,m5,m6,m7,m8,m9,CU]<;>(repeat' apply A7)<;>first|rfl|exact⟨_,rfl⟩|exact⟨_,_,rfl⟩|simp [AQ,CR]
  ·intro ex9 s9 hX9;unfold Eb at hX9;obtain⟨rfl,n9_0,n9_1,n9_2,n9_3,n9_4,n9_5,n9_6,n9_7,n9_8,n9_9⟩:=hX9
   obtain rfl:=Option.some.inj h
   simp (maxDischargeDepth:=9) only [↓AL,AO,↓reduceIte,Nat.reduceEqDiff,Nat.reduceLT,n9_0,n9_1,n9_2,n9_3,n9_4,n9_5,n9_6,n9_7,n9_8,n9_9,Cw,En]
 ·obtain rfl:=Option.some.inj h
  simp (maxDischargeDepth:=9) only [↓AL,AO,↓reduceIte,Nat.reduceEqDiff,Nat.reduceLT,m0,m1,m2,m4,m5,m6,m7,m8,m9,e7,Cw,Ec,K3]
def CV(rec_:Int→Int→AY→AY→(List (List (Int×Int)))→AB→AB→Int→Int→Option (AB))(t0_p:Int)(t0_n:Int)(t0_2:AY)(t0_3:AY)(t0_4:List (List (Int×Int)))(t0_5:AB)(t0_6:AB)(BM:Int)(Bq:Int)(Oe:AY)(Hr:Int)(s:St):Prop:=s.v 2=D.int .i64 Bq∧s.v 3=D.box [D.int .i64 t0_p,D.int .i64 t0_n,D.sl 26 (AQ Bw t0_2),D.sl 26 (AQ Bw t0_3),D.sl 79 (AQ (fun x=>D.sl 87 (Au .i64 .i64 x)) t0_4),D.sl 3 (AQ (D.int .i64) t0_5),D.sl 3 (AQ (D.int .i64) t0_6)]∧s.v 7=D.own 26 (AQ Qw Oe)∧s.v 20=D.sl 87 (Au .i64 .i64 (t0_4.getD BM.toNat default))∧s.v 21=D.int .i64 ((t0_4.getD BM.toNat default).length:Int)∧s.v 22=D.int .i64 Hr
def Ed(rec_:Int→Int→AY→AY→(List (List (Int×Int)))→AB→AB→Int→Int→Option (AB))(t0_p:Int)(t0_n:Int)(t0_2:AY)(t0_3:AY)(t0_4:List (List (Int×Int)))(t0_5:AB)(t0_6:AB)(BM:Int)(Bq:Int)(r:AY)(ex:Ex)(s:St):Prop:=ex= .exit 0∧s.v 2=D.int .i64 Bq∧s.v 3=D.box [D.int .i64 t0_p,D.int .i64 t0_n,D.sl 26 (AQ Bw t0_2),D.sl 26 (AQ Bw t0_3),D.sl 79 (AQ (fun x=>D.sl 87 (Au .i64 .i64 x)) t0_4),D.sl 3 (AQ (D.int .i64) t0_5),D.sl 3 (AQ (D.int .i64) t0_6)]∧s.v 7=D.own 26 (AQ Qw r)
theorem Ow(rec_:Int→Int→AY→AY→(List (List (Int×Int)))→AB→AB→Int→Int→Option (AB))(t0_p:Int)(t0_n:Int)(t0_2:AY)(t0_3:AY)(t0_4:List (List (Int×Int)))(t0_5:AB)(t0_6:AB)(BM:Int)(Bq:Int)(rec_h: ∀(t0_p:Int) (t0_n:Int) (t0_2:AY) (t0_3:AY) (t0_4:List (List (Int×Int))) (t0_5:AB) (t0_6:AB) (BM:Int) (Bq:Int) (r:AB),rec_ t0_p t0_n t0_2 t0_3 t0_4 t0_5 t0_6 BM Bq=some r→Y.call 55 [D.agg [D.int .i64 t0_p,D.int .i64 t0_n,D.sl 26 (AQ Bw t0_2),D.sl 26 (AQ Bw t0_3),D.sl 79 (AQ (fun x=>D.sl 87 (Au .i64 .i64 x)) t0_4),D.sl 3 (AQ (D.int .i64) t0_5),D.sl 3 (AQ (D.int .i64) t0_6)],D.int .i64 BM,D.int .i64 Bq] []=some (D.own 3 (AQ (D.int .i64) r),[])){v:AY×Int}{s:St}{r:AY}(h:E5 rec_ t0_p t0_n t0_2 t0_3 t0_4 t0_5 t0_6 BM Bq v=some r)(hM:CV rec_ t0_p t0_n t0_2 t0_3 t0_4 t0_5 t0_6 BM Bq v.1 v.2 s):Br Y.env A2b (Ed rec_ t0_p t0_n t0_2 t0_3 t0_4 t0_5 t0_6 BM Bq r) s:=by
 unfold E5 at h;refine BH (c:=nK) (fun v=>Cv rec_ t0_p t0_n t0_2 t0_3 t0_4 t0_5 t0_6 BM Bq v.1 v.2) (fun v s=>CV rec_ t0_p t0_n t0_2 t0_3 t0_4 t0_5 t0_6 BM Bq v.1 v.2 s) (Ed rec_ t0_p t0_n t0_2 t0_3 t0_4 t0_5 t0_6 BM Bq) ?_ h hM;clear h hM s v r;intro v s o hM h;obtain⟨Oe,Hr⟩:=v;dsimp only at h hM;unfold Cv at h;unfold CV at hM;obtain⟨m0,m1,m2,m3,m4,m5⟩:=hM;unfold nK;rcases iS h with⟨e2,h⟩|⟨e2,h⟩
 ·obtain⟨e3,h⟩:=ES h;rcases iS h with⟨e4,h⟩|⟨e4,h⟩
  ·obtain⟨e5,h⟩:=ES h
   obtain rfl:=Option.some.inj h
   simp (maxDischargeDepth:=9) only [↓AL,AO,↓reduceIte,Nat.reduceEqDiff,Nat.reduceLT,Nat.reduceLeDiff,Nat.reduceAdd,m0,m1,m2,m3,m4,m5,e2,e3.1,e3.2,decide_eq_true e4,e5,CV,En]<;>(repeat' apply A7)<;>first|rfl|exact⟨_,rfl⟩|exact⟨_,_,rfl⟩|simp [AQ]
  ·obtain⟨H8,hl5,h⟩:=Ak h;have c5:=rec_h _ _ _ _ _ _ _ _ _ _ hl5;obtain⟨e6,h⟩:=ES h;obtain⟨BA,hl8,h⟩:=Ak h;try dsimp only at h
   simp (maxDischargeDepth:=9) only [↓AL,AO,↓reduceIte,Nat.reduceEqDiff,Nat.reduceLT,Nat.reduceLeDiff,Nat.reduceAdd,m0,m1,m3,m4,m5,e2,e3.1,e3.2,e4,c5,e6.1,e6.2];refine Aw (Ov t0_p t0_n t0_2 t0_3 t0_4 t0_5 t0_6 BM Bq Oe Hr H8 hl8 ?_) ?_
   ·simp (maxDischargeDepth:=9) only [BZ,↓reduceIte,Nat.reduceEqDiff,m0,m1,m2,m3,m4,m5,Cw]
   ·intro ex8 s8 hX8;unfold Ec at hX8;obtain⟨rfl,n8_0,n8_1,n8_2,n8_3,n8_4,n8_5,n8_6⟩:=hX8;obtain⟨e9,h⟩:=ES h
    obtain rfl:=Option.some.inj h
    simp (maxDischargeDepth:=9) only [↓AL,AO,↓reduceIte,Nat.reduceEqDiff,Nat.reduceLT,Nat.reduceLeDiff,Nat.reduceAdd,n8_0,n8_1,n8_2,n8_3,n8_4,n8_5,n8_6,e9,CV,En]
 ·obtain rfl:=Option.some.inj h
  simp (maxDischargeDepth:=9) only [↓AL,AO,↓reduceIte,Nat.reduceEqDiff,Nat.reduceLT,m0,m1,m2,m4,m5,e2,CV,Ed,K3]
theorem OJ(rec_:Int→Int→AY→AY→(List (List (Int×Int)))→AB→AB→Int→Int→Option (AB))(t0_p:Int)(t0_n:Int)(t0_2:AY)(t0_3:AY)(t0_4:List (List (Int×Int)))(t0_5:AB)(t0_6:AB)(BM:Int)(Bq:Int)(rec_h: ∀(t0_p:Int) (t0_n:Int) (t0_2:AY) (t0_3:AY) (t0_4:List (List (Int×Int))) (t0_5:AB) (t0_6:AB) (BM:Int) (Bq:Int) (r:AB),rec_ t0_p t0_n t0_2 t0_3 t0_4 t0_5 t0_6 BM Bq=some r→Y.call 55 [D.agg [D.int .i64 t0_p,D.int .i64 t0_n,D.sl 26 (AQ Bw t0_2),D.sl 26 (AQ Bw t0_3),D.sl 79 (AQ (fun x=>D.sl 87 (Au .i64 .i64 x)) t0_4),D.sl 3 (AQ (D.int .i64) t0_5),D.sl 3 (AQ (D.int .i64) t0_6)],D.int .i64 BM,D.int .i64 Bq] []=some (D.own 3 (AQ (D.int .i64) r),[])){r:AB}(h:EP rec_ t0_p t0_n t0_2 t0_3 t0_4 t0_5 t0_6 BM Bq=some r):Y.call 55 [D.agg [D.int .i64 t0_p,D.int .i64 t0_n,D.sl 26 (AQ Bw t0_2),D.sl 26 (AQ Bw t0_3),D.sl 79 (AQ (fun x=>D.sl 87 (Au .i64 .i64 x)) t0_4),D.sl 3 (AQ (D.int .i64) t0_5),D.sl 3 (AQ (D.int .i64) t0_6)],D.int .i64 BM,D.int .i64 Bq] []=some (D.own 3 (AQ (D.int .i64) r),[]):=by
 refine c55 ?_ rfl;unfold k55;unfold EP at h;obtain⟨e1,h⟩:=ES h;obtain⟨Dq,hl3,h⟩:=Ak h;try dsimp only at h
 simp (maxDischargeDepth:=9) only [↓AL,AO,↓reduceIte,Nat.reduceEqDiff,Nat.reduceLT,Nat.reduceAdd,e1.1,e1.2];refine Aw (Ow rec_ t0_p t0_n t0_2 t0_3 t0_4 t0_5 t0_6 BM Bq rec_h hl3 ?_) ?_
 ·simp (maxDischargeDepth:=9) only [BZ,Ei,↓reduceIte,Nat.reduceEqDiff,Nat.reduceLT,CV]<;>(repeat' apply A7)<;>first|rfl|exact⟨_,rfl⟩|exact⟨_,_,rfl⟩|simp [AQ,CR]
 ·intro ex3 s3 hX3;unfold Ed at hX3;obtain⟨rfl,n3_0,n3_1,n3_2⟩:=hX3;obtain⟨AIG,hl4,h⟩:=Ak h;try dsimp only at h
  have c4:=OI t0_p t0_n t0_2 t0_3 t0_4 t0_5 t0_6 Dq Bq hl4
  obtain rfl:=Option.some.inj h
  simp (maxDischargeDepth:=9) only [↓AL,AO,↓reduceIte,Nat.reduceEqDiff,Nat.reduceLT,Nat.reduceAdd,n3_0,n3_1,n3_2,c4]
theorem OL(n:Nat): ∀(t0_p:Int) (t0_n:Int) (t0_2:AY) (t0_3:AY) (t0_4:List (List (Int×Int))) (t0_5:AB) (t0_6:AB) (BM:Int) (Bq:Int) (r:AB),Bi n t0_p t0_n t0_2 t0_3 t0_4 t0_5 t0_6 BM Bq=some r→Y.call 55 [D.agg [D.int .i64 t0_p,D.int .i64 t0_n,D.sl 26 (AQ Bw t0_2),D.sl 26 (AQ Bw t0_3),D.sl 79 (AQ (fun x=>D.sl 87 (Au .i64 .i64 x)) t0_4),D.sl 3 (AQ (D.int .i64) t0_5),D.sl 3 (AQ (D.int .i64) t0_6)],D.int .i64 BM,D.int .i64 Bq] []=some (D.own 3 (AQ (D.int .i64) r),[]):=by
 induction n with
 |zero=>intro t0_p t0_n t0_2 t0_3 t0_4 t0_5 t0_6 BM Bq r h;exact absurd h (by rw [Bi];exact fun e=>by cases e)
 |succ n ih=>intro t0_p t0_n t0_2 t0_3 t0_4 t0_5 t0_6 BM Bq r h;rw [Bi]at h;exact OJ (Bi n) t0_p t0_n t0_2 t0_3 t0_4 t0_5 t0_6 BM Bq ih h
theorem Pq(t0_p:Int)(t0_n:Int)(t0_2:AY)(t0_3:AY)(t0_4:List (List (Int×Int)))(t0_5:AB)(t0_6:AB)(BM:Int)(Bq:Int){r:AB}(h:K7 t0_p t0_n t0_2 t0_3 t0_4 t0_5 t0_6 BM Bq=some r):Y.call 55 [D.agg [D.int .i64 t0_p,D.int .i64 t0_n,D.sl 26 (AQ Bw t0_2),D.sl 26 (AQ Bw t0_3),D.sl 79 (AQ (fun x=>D.sl 87 (Au .i64 .i64 x)) t0_4),D.sl 3 (AQ (D.int .i64) t0_5),D.sl 3 (AQ (D.int .i64) t0_6)],D.int .i64 BM,D.int .i64 Bq] []=some (D.own 3 (AQ (D.int .i64) r),[]):=OL 1000000 t0_p t0_n t0_2 t0_3 t0_4 t0_5 t0_6 BM Bq r h
noncomputable def EQ(AP:Int)(AU:Int)(AV:AY)(AX:AY)(A8:List (List (Int×Int)))(AR:AB)(A9:AB)(R8:AB)(count:Int)(GZ:Int):Option ((Int×Int)⊕(Int)):= if GZ<(R8.length:Int)then ck (0≤GZ∧GZ.toNat<R8.length)<| if GZ=(R8.getD GZ.toNat default)then (K7 AP AU AV AX A8 AR A9 GZ (-1:Int)).bind fun H8=> ck (0<H8.length)<| (QW count (H8.getD 0 default)).bind fun AIH=> some (Sum.inl (AIH,IntKind.i64.wrap (GZ+1))) else some (Sum.inl (count,IntKind.i64.wrap (GZ+1))) else some (Sum.inr count)
noncomputable def GN(AP:Int)(AU:Int)(AV:AY)(AX:AY)(A8:List (List (Int×Int)))(AR:AB)(A9:AB)(R8:AB)(v:Int×Int):Option (Int):=Fb (fun v=>EQ AP AU AV AX A8 AR A9 R8 v.1 v.2) v
noncomputable def JM(AP:Int)(AU:Int)(AV:AY)(AX:AY)(A8:List (List (Int×Int)))(AR:AB)(A9:AB):Option (Int×Bool):= ck (Bv AV)<| ck (Bv AX)<| if(MC AP AU AV AX)=true then ck (EX A8)<| ck (AR.length<1099511627776)<| ck (A9.length<1099511627776)<| if(FX A8 AR A9)=true then (Pj A8 AR A9).bind fun ABF=> if ABF=true then (LC A8 AR A9).bind fun R8=> (GN AP AU AV AX A8 AR A9 R8 (1,0)).bind fun Aa=> if 1000000000000<Aa then some (0,false) else some (Aa,true) else some (0,false) else some (0,false) else some (0,false)
def nL:SC:= .seq (.ops [oB 26 .lss 3 (tK 25) (tK 24) 3 0]) (.seq (.cond (tK 26) .skip (.exit 0)) (.seq (.block 1 (.seq (.ops [oM 27 25 3,oI 28 26 23 25,oL 29 3 28 3,oA 7 27 3,oA 8 29 3]) (.seq (.ops [oM 30 7 3,oM 31 8 3,oB 32 .eql 3 (tK 30) (tK 31) 3 4]) (.cond (tK 32) (.ops [oM 33 6 3,oL 34 34 2 34,oL 35 38 3 38,oX 36 (.build 75 #[(0,(tK 34)),(1,(tK 35))]) 75,oM 37 7 3,oC 38 55 [(tK 36),(tK 37),vH] [75,3,3] 26,oX 39 (.indexAddr 26 (tK 38) (iK 0)) 0,oL 40 3 39 3,oC 41 54 [(tK 33),(tK 40)] [3,3] 3,oA 6 41 3]) .skip)))) (.ops [oB 42 .add 3 (tK 25) (iK 1) 3 3,oM 25 42 3])))
def A2c:SC:= .loop nL
def k30:SC:= .seq (.ops [oX 2 (.box 34 (tK 0)) 0,oX 3 (.box 38 (tK 1)) 0,oX 4 (.assign (iK 0)) 3,oX 5 CY 4]) (.seq (.seq (.ops [oL 9 34 2 34,oC 10 39 [(tK 9)] [34] 4,oX 11 (.unOp .not 4 (tK 10)) 4,oM 12 11 4,⟨(some 13),(.load 38 (tK 3)),38,(some (some 12,false))⟩,⟨(some 14),(.call ⟨(.value (.func 40)), #[(tK 13)], #[38]⟩),4,(some (some 12,false))⟩,⟨(some 15),(.unOp .not 4 (tK 14)),4,(some (some 12,false))⟩,oX 16 (.pick (tK 12) F7 (tK 15)) 4,oM 17 16 4,⟨(some 18),(.load 38 (tK 3)),38,(some (some 17,false))⟩,⟨(some 19),(.call ⟨(.value (.func 47)), #[(tK 18)], #[38]⟩),4,(some (some 17,false))⟩,⟨(some 20),(.unOp .not 4 (tK 19)),4,(some (some 17,false))⟩,oX 21 (.pick (tK 17) F7 (tK 20)) 4]) (.cond (tK 21) (.seq (.ops [oX 4 (.assign (iK 0)) 3,oX 5 CY 4]) .ret) .skip)) (.seq (.ops [oX 6 (.assign (iK 1)) 3]) (.seq (.seq (.ops [oL 22 38 3 38,oC 23 53 [(tK 22)] [38] 26,oN 24 23 26,oX 25 (.move (iK 0)) 3]) (.block 0 A2c)) (.seq (.seq (.ops [oM 43 6 3,oB 44 .gtr 3 (tK 43) (iK 1000000000000) 3 4]) (.cond (tK 44) (.seq (.ops [oX 4 (.assign (iK 0)) 3,oX 5 CY 4]) .ret) .skip)) (.seq (.ops [oM 45 6 3,oA 4 45 3,oX 5 (.assign F7) 4]) .ret)))))
theorem ABG:Tryz.f30.body.map (BX lends)=some k30:=by kernel_rfl
theorem AOs:Bj Tryz.f30 2=true:=by kernel_rfl
theorem c30{a l:List D}{r:D×List D}(h:Br Y.env k30 (fin Ap l.length [ResultVar.tmp 4,ResultVar.tmp 5] r) (entry a l))(ha:a.length=2):Y.call 30 a l=some r:=
 AZ (Y:=Y) rfl Tryz.func30 (ha▸AOs) ABG h
def Dc(AP:Int)(AU:Int)(AV:AY)(AX:AY)(A8:List (List (Int×Int)))(AR:AB)(A9:AB)(R8:AB)(count:Int)(GZ:Int)(s:St):Prop:=s.v 2=D.box [D.int .i64 AP,D.int .i64 AU,D.sl 26 (AQ Bw AV),D.sl 26 (AQ Bw AX)]∧s.v 3=D.box [D.sl 79 (AQ (fun x=>D.sl 87 (Au .i64 .i64 x)) A8),D.sl 3 (AQ (D.int .i64) AR),D.sl 3 (AQ (D.int .i64) A9)]∧s.v 6=D.int .i64 count∧s.v 23=D.own 3 (AQ (D.int .i64) R8)∧s.v 24=D.int .i64 (R8.length:Int)∧s.v 25=D.int .i64 GZ
def H9(AP:Int)(AU:Int)(AV:AY)(AX:AY)(A8:List (List (Int×Int)))(AR:AB)(A9:AB)(R8:AB)(r:Int)(ex:Ex)(s:St):Prop:=ex= .exit 0∧s.v 6=D.int .i64 r
theorem Sa(AP:Int)(AU:Int)(AV:AY)(AX:AY)(A8:List (List (Int×Int)))(AR:AB)(A9:AB)(R8:AB){v:Int×Int}{s:St}{r:Int}(h:GN AP AU AV AX A8 AR A9 R8 v=some r)(hM:Dc AP AU AV AX A8 AR A9 R8 v.1 v.2 s):Br Y.env A2c (H9 AP AU AV AX A8 AR A9 R8 r) s:=by
 unfold GN at h;refine BH (c:=nL) (fun v=>EQ AP AU AV AX A8 AR A9 R8 v.1 v.2) (fun v s=>Dc AP AU AV AX A8 AR A9 R8 v.1 v.2 s) (H9 AP AU AV AX A8 AR A9 R8) ?_ h hM;clear h hM s v r;intro v s o hM h;obtain⟨count,GZ⟩:=v;dsimp only at h hM;unfold EQ at h;unfold Dc at hM;obtain⟨m0,m1,m2,m3,m4,m5⟩:=hM;unfold nL;rcases iS h with⟨e13,h⟩|⟨e13,h⟩
 ·obtain⟨e14,h⟩:=ES h;rcases iS h with⟨e15,h⟩|⟨e15,h⟩
  ·obtain⟨H8,hl16,h⟩:=Ak h;have c16:=Pq AP AU AV AX A8 AR A9 GZ (-1:Int) hl16;obtain⟨e17,h⟩:=ES h;obtain⟨AIH,hl18,h⟩:=Ak h;try dsimp only at h
   have jM:=Rt count (H8.getD 0 default) hl18
   obtain rfl:=Option.some.inj h
   simp (maxDischargeDepth:=9) only [↓AL,AO,↓reduceIte,Nat.reduceEqDiff,Nat.reduceLT,Nat.reduceLeDiff,Nat.reduceAdd,Int.reduceNeg,m0,m1,m2,m3,m4,m5,e13,e14.1,e14.2,decide_eq_true e15,c16,e17,jM,Dc,En]
  ·obtain rfl:=Option.some.inj h
   simp (maxDischargeDepth:=9) only [↓AL,AO,↓reduceIte,Nat.reduceEqDiff,Nat.reduceLT,Int.reduceNeg,m0,m1,m2,m3,m4,m5,e13,e14.1,e14.2,e15,Dc,En]
 ·obtain rfl:=Option.some.inj h
  simp (maxDischargeDepth:=9) only [↓AL,AO,↓reduceIte,Nat.reduceEqDiff,Nat.reduceLT,Int.reduceNeg,m2,m4,m5,e13,Dc,H9,K3]
theorem Tf(AP:Int)(AU:Int)(AV:AY)(AX:AY)(A8:List (List (Int×Int)))(AR:AB)(A9:AB){r:Int×Bool}(h:JM AP AU AV AX A8 AR A9=some r):Y.call 30 [D.agg [D.int .i64 AP,D.int .i64 AU,D.sl 26 (AQ Bw AV),D.sl 26 (AQ Bw AX)],D.agg [D.sl 79 (AQ (fun x=>D.sl 87 (Au .i64 .i64 x)) A8),D.sl 3 (AQ (D.int .i64) AR),D.sl 3 (AQ (D.int .i64) A9)]] []=some (D.tup [D.int .i64 r.1,D.bool r.2],[]):=by
 refine c30 ?_ rfl;unfold k30;unfold JM at h;obtain⟨e1,e2,h⟩:=GX h;have c3:=av AP AU AV AX e1 e2;rcases iS h with⟨e4,h⟩|⟨e4,h⟩
 ·obtain⟨e5,e6,e7,h⟩:=Q3 h;have c8:=bS A8 AR A9 e5 e6 e7;rcases iS h with⟨e9,h⟩|⟨e9,h⟩
  ·obtain⟨ABF,hl10,h⟩:=Ak h;have jP:=Ye A8 AR A9 hl10;rcases iS h with⟨e11,h⟩|⟨e11,h⟩
   ·obtain⟨R8,hl12,h⟩:=Ak h;have zi:=QT A8 AR A9 hl12;obtain⟨Aa,hl14,h⟩:=Ak h;try dsimp only at h
    simp (maxDischargeDepth:=9) only [↓AL,AO,↓reduceIte,Nat.reduceEqDiff,Nat.reduceLT,Nat.reduceAdd,c3,e4,c8,e9,jP,e11,zi];refine Aw (Sa AP AU AV AX A8 AR A9 R8 hl14 ?_) ?_
    ·simp (maxDischargeDepth:=9) only [BZ,↓reduceIte,Nat.reduceEqDiff,Dc]
    ·intro ex14 s14 hX14;unfold H9 at hX14;obtain⟨rfl,n14_0⟩:=hX14;rcases iS h with⟨e15,h⟩|⟨e15,h⟩
     ·obtain rfl:=Option.some.inj h
      simp (maxDischargeDepth:=9) only [↓AL,AO,↓reduceIte,Nat.reduceEqDiff,Nat.reduceLT,n14_0,e15]
     ·obtain rfl:=Option.some.inj h
      simp (maxDischargeDepth:=9) only [↓AL,AO,↓reduceIte,Nat.reduceEqDiff,Nat.reduceLT,n14_0,e15]
   ·have e11f:ABF=false:=Jw.mpr e11
    obtain rfl:=Option.some.inj h
    simp (maxDischargeDepth:=9) only [↓AL,AO,↓reduceIte,Nat.reduceEqDiff,Nat.reduceLT,Nat.reduceAdd,c3,e4,c8,e9,jP,e11f]
  ·have e9f:(FX A8 AR A9)=false:=Jw.mpr e9
   obtain rfl:=Option.some.inj h
   simp (maxDischargeDepth:=9) only [↓AL,AO,↓reduceIte,Nat.reduceEqDiff,Nat.reduceLT,Nat.reduceAdd,c3,e4,c8,e9f]
 ·have e4f:(MC AP AU AV AX)=false:=Jw.mpr e4
  obtain rfl:=Option.some.inj h
  simp (maxDischargeDepth:=9) only [↓AL,AO,↓reduceIte,Nat.reduceEqDiff,Nat.reduceLT,Nat.reduceAdd,c3,e4f]
noncomputable def Ru(AP:Int)(AU:Int)(AV:AY)(AX:AY)(A8:List (List (Int×Int)))(AR:AB)(A9:AB):Option (Bool):= ck (Bv AV)<| ck (Bv AX)<| if(MC AP AU AV AX)=true then ck (EX A8)<| ck (AR.length<1099511627776)<| ck (A9.length<1099511627776)<| if(FX A8 AR A9)=true then (Pp A8 AR A9).bind fun AII=> some AII else some false else some false
def k45:SC:= .seq (.ops [oX 2 (.box 34 (tK 0)) 0,oX 3 (.box 38 (tK 1)) 0,oX 4 CY 4]) (.seq (.ops [oL 5 34 2 34,oC 6 57 [(tK 5)] [34] 4,oM 7 6 4,⟨(some 8),(.load 38 (tK 3)),38,(some (some 7,true))⟩,⟨(some 9),(.call ⟨(.value (.func 58)), #[(tK 8)], #[38]⟩),4,(some (some 7,true))⟩,oX 10 (.pick (tK 7) (tK 9) MS) 4,oM 11 10 4,⟨(some 12),(.load 38 (tK 3)),38,(some (some 11,true))⟩,⟨(some 13),(.call ⟨(.value (.func 77)), #[(tK 12)], #[38]⟩),4,(some (some 11,true))⟩,oX 14 (.pick (tK 11) (tK 13) MS) 4,oA 4 14 4]) .ret)
theorem ABJ:Tryz.f45.body.map (BX lends)=some k45:=by kernel_rfl
theorem AOu:Bj Tryz.f45 2=true:=by kernel_rfl
theorem c45{a l:List D}{r:D×List D}(h:Br Y.env k45 (fin Ap l.length [ResultVar.tmp 4] r) (entry a l))(ha:a.length=2):Y.call 45 a l=some r:=
 AZ (Y:=Y) rfl Tryz.func45 (ha▸AOu) ABJ h
theorem Yk(AP:Int)(AU:Int)(AV:AY)(AX:AY)(A8:List (List (Int×Int)))(AR:AB)(A9:AB){r:Bool}(h:Ru AP AU AV AX A8 AR A9=some r):Y.call 45 [D.agg [D.int .i64 AP,D.int .i64 AU,D.sl 26 (AQ Bw AV),D.sl 26 (AQ Bw AX)],D.agg [D.sl 79 (AQ (fun x=>D.sl 87 (Au .i64 .i64 x)) A8),D.sl 3 (AQ (D.int .i64) AR),D.sl 3 (AQ (D.int .i64) A9)]] []=some (D.bool r,[]):=by
 refine c45 ?_ rfl;unfold k45;unfold Ru at h;obtain⟨e1,e2,h⟩:=GX h;have c3:=rF AP AU AV AX e1 e2;rcases iS h with⟨e4,h⟩|⟨e4,h⟩
 ·obtain⟨e5,e6,e7,h⟩:=Q3 h;have c8:=rT A8 AR A9 e5 e6 e7;rcases iS h with⟨e9,h⟩|⟨e9,h⟩
  ·obtain⟨AII,hl10,h⟩:=Ak h;try dsimp only at h
   have jP:=Yh A8 AR A9 hl10
   obtain rfl:=Option.some.inj h
   simp (maxDischargeDepth:=9) only [↓AL,AO,↓reduceIte,Nat.reduceEqDiff,Nat.reduceLT,Nat.reduceAdd,c3,e4,c8,e9,jP]
  ·have e9f:(FX A8 AR A9)=false:=Jw.mpr e9
   obtain rfl:=Option.some.inj h
   simp (maxDischargeDepth:=9) only [↓AL,AO,↓reduceIte,Nat.reduceEqDiff,Nat.reduceLT,Nat.reduceAdd,c3,e4,c8,e9f]
 ·have e4f:(MC AP AU AV AX)=false:=Jw.mpr e4
  obtain rfl:=Option.some.inj h
  simp (maxDischargeDepth:=9) only [↓AL,AO,↓reduceIte,Nat.reduceEqDiff,Nat.reduceLT,Nat.reduceAdd,c3,e4f]
noncomputable def Ia(A8:List (List (Int×Int)))(out:AY)(Aj:Int)(row:AB)(K6:Int):Option ((AB×Int)⊕(AB)):= if K6<((List.replicate (A8.getD Aj.toNat default).length 0).length:Int)then ck (0≤K6∧K6.toNat<row.length)<| some (Sum.inl ((row.set K6.toNat (-1)),IntKind.i64.wrap (K6+1))) else some (Sum.inr row)
noncomputable def Mv(A8:List (List (Int×Int)))(out:AY)(Aj:Int)(v:AB×Int):Option (AB):=Fb (fun v=>Ia A8 out Aj v.1 v.2) v
noncomputable def Ib(A8:List (List (Int×Int)))(out:AY)(Aj:Int):Option ((AY×Int)⊕(AY)):= if Aj<(A8.length:Int)then ck (0≤Aj∧Aj.toNat<A8.length)<| ck (0≤((A8.getD Aj.toNat default).length:Int)∧((A8.getD Aj.toNat default).length:Int)<1099511627776)<| (Mv A8 out Aj ((List.replicate (A8.getD Aj.toNat default).length 0),0)).bind fun Aa=> ck (out.length+1<1099511627776)<| some (Sum.inl ((out++[Aa]),IntKind.i64.wrap (Aj+1))) else some (Sum.inr out)
noncomputable def Ox(A8:List (List (Int×Int)))(v:AY×Int):Option (AY):=Fb (fun v=>Ib A8 v.1 v.2) v
noncomputable def R9(A8:List (List (Int×Int)))(AR:AB)(A9:AB):Option (AY):= (Ox A8 ([],0)).bind fun BA=> some BA
def nM:SC:= .seq (.ops [oB 21 .lss 3 (tK 20) (tK 19) 3 0]) (.seq (.cond (tK 21) .skip (.exit 2)) (.seq (.block 3 (.seq (.ops [oM 22 20 3,oA 7 22 3]) (.ops [oM 23 6 26,oM 24 7 3,oI 25 26 23 24,⟨none,(.store 3 (tK 25) vH),0,none⟩]))) (.ops [oB 26 .add 3 (tK 20) (iK 1) 3 3,oM 20 26 3])))
def A2d:SC:= .loop nM
def nN:SC:= .seq (.ops [oB 12 .lss 3 (tK 11) (tK 10) 3 0]) (.seq (.cond (tK 12) .skip (.exit 0)) (.seq (.block 1 (.seq (.ops [oI 13 36 9 11,oL 14 79 13 79,oA 5 14 79]) (.seq (.ops [oM 15 5 79,oN 16 15 79,oX 17 (.makeSlice 26 (tK 16) (tK 16)) 26,oA 6 17 26]) (.seq (.seq (.ops [oM 18 6 26,oN 19 18 26,oX 20 (.move (iK 0)) 3]) (.block 2 A2d)) (.ops [oM 27 3 22,oM 28 6 26,oX 29 (.buildSlice 22 1 #[(0,(tK 28))]) 22,oX 30 (.call ⟨(.builtin .append), #[(tK 27),(tK 29)], #[22,22]⟩) 22,oA 3 30 22]))))) (.ops [oB 31 .add 3 (tK 11) (iK 1) 3 3,oM 11 31 3])))
def A2e:SC:= .loop nN
def k50:SC:= .seq (.ops [oX 1 (.box 38 (tK 0)) 0,oX 2 KL 22]) (.seq (.ops [oX 3 KL 22]) (.seq (.seq (.ops [oF 8 38 1 0,oL 9 36 8 36,oN 10 9 36,oX 11 (.move (iK 0)) 3]) (.block 0 A2e)) (.seq (.ops [oM 32 3 22,oA 2 32 22]) .ret)))
theorem ABK:Tryz.f50.body.map (BX lends)=some k50:=by kernel_rfl
theorem AOw:Bj Tryz.f50 1=true:=by kernel_rfl
theorem c50{a l:List D}{r:D×List D}(h:Br Y.env k50 (fin Ap l.length [ResultVar.tmp 2] r) (entry a l))(ha:a.length=1):Y.call 50 a l=some r:=
 AZ (Y:=Y) rfl Tryz.func50 (ha▸AOw) ABK h
def Ic(A8:List (List (Int×Int)))(out:AY)(Aj:Int)(row:AB)(K6:Int)(s:St):Prop:=s.v 3=D.own 26 (AQ Qw out)∧s.v 6=D.own 3 (AQ (D.int .i64) row)∧s.v 9=D.sl 79 (AQ (fun x=>D.sl 87 (Au .i64 .i64 x)) A8)∧s.v 10=D.int .i64 (A8.length:Int)∧s.v 11=D.int .i64 Aj∧s.v 19=D.int .i64 ((List.replicate (A8.getD Aj.toNat default).length 0).length:Int)∧s.v 20=D.int .i64 K6
def Mw(A8:List (List (Int×Int)))(out:AY)(Aj:Int)(r:AB)(ex:Ex)(s:St):Prop:=ex= .exit 2∧s.v 3=D.own 26 (AQ Qw out)∧s.v 6=D.own 3 (AQ (D.int .i64) r)∧s.v 9=D.sl 79 (AQ (fun x=>D.sl 87 (Au .i64 .i64 x)) A8)∧s.v 10=D.int .i64 (A8.length:Int)∧s.v 11=D.int .i64 Aj
theorem Yl(A8:List (List (Int×Int)))(out:AY)(Aj:Int){v:AB×Int}{s:St}{r:AB}(h:Mv A8 out Aj v=some r)(hM:Ic A8 out Aj v.1 v.2 s):Br Y.env A2d (Mw A8 out Aj r) s:=by
 unfold Mv at h;refine BH (c:=nM) (fun v=>Ia A8 out Aj v.1 v.2) (fun v s=>Ic A8 out Aj v.1 v.2 s) (Mw A8 out Aj) ?_ h hM;clear h hM s v r;intro v s o hM h;obtain⟨row,K6⟩:=v;dsimp only at h hM;unfold Ia at h;unfold Ic at hM;obtain⟨m0,m1,m2,m3,m4,m5,m6⟩:=hM;unfold nM;rcases iS h with⟨e4,h⟩|⟨e4,h⟩
 ·obtain⟨e5,h⟩:=ES h
  obtain rfl:=Option.some.inj h
  simp (maxDischargeDepth:=9) only [↓AL,AO,↓reduceIte,Nat.reduceEqDiff,Nat.reduceLT,Int.reduceNeg,m0,m1,m2,m3,m4,m5,m6,e4,e5.1,e5.2,Ic,En]
 ·obtain rfl:=Option.some.inj h
  simp (maxDischargeDepth:=9) only [↓AL,AO,↓reduceIte,Nat.reduceEqDiff,Nat.reduceLT,Int.reduceNeg,m0,m1,m2,m3,m4,m5,m6,e4,Ic,Mw,K3]
def Ie(A8:List (List (Int×Int)))(out:AY)(Aj:Int)(s:St):Prop:=s.v 3=D.own 26 (AQ Qw out)∧s.v 9=D.sl 79 (AQ (fun x=>D.sl 87 (Au .i64 .i64 x)) A8)∧s.v 10=D.int .i64 (A8.length:Int)∧s.v 11=D.int .i64 Aj
def Mx(A8:List (List (Int×Int)))(r:AY)(ex:Ex)(s:St):Prop:=ex= .exit 0∧s.v 3=D.own 26 (AQ Qw r)
theorem Ym(A8:List (List (Int×Int))){v:AY×Int}{s:St}{r:AY}(h:Ox A8 v=some r)(hM:Ie A8 v.1 v.2 s):Br Y.env A2e (Mx A8 r) s:=by
 unfold Ox at h;refine BH (c:=nN) (fun v=>Ib A8 v.1 v.2) (fun v s=>Ie A8 v.1 v.2 s) (Mx A8) ?_ h hM;clear h hM s v r;intro v s o hM h;obtain⟨out,Aj⟩:=v;dsimp only at h hM;unfold Ib at h;unfold Ie at hM;obtain⟨m0,m1,m2,m3⟩:=hM;unfold nN;rcases iS h with⟨e1,h⟩|⟨e1,h⟩
 ·obtain⟨e2,e3,h⟩:=GX h;obtain⟨Aa,hl5,h⟩:=Ak h;try dsimp only at h
  simp (maxDischargeDepth:=9) only [↓AL,AO,↓reduceIte,Nat.reduceEqDiff,Nat.reduceLT,Nat.reduceLeDiff,m1,m2,m3,e1,e2.1,e2.2,e3.1,e3.2];refine Aw (Yl A8 out Aj hl5 ?_) ?_
  ·simp (maxDischargeDepth:=9) only [BZ,↓reduceIte,Nat.reduceEqDiff,m0,m1,m2,m3,Ic]<;>(repeat' apply A7)<;>first|rfl|exact⟨_,rfl⟩|exact⟨_,_,rfl⟩|simp [AQ]
  ·intro ex5 s5 hX5;unfold Mw at hX5;obtain⟨rfl,n5_0,n5_1,n5_2,n5_3,n5_4⟩:=hX5;obtain⟨e6,h⟩:=ES h
   obtain rfl:=Option.some.inj h
   simp (maxDischargeDepth:=9) only [↓AL,AO,↓reduceIte,Nat.reduceEqDiff,Nat.reduceLT,Nat.reduceLeDiff,Nat.reduceAdd,n5_0,n5_1,n5_2,n5_3,n5_4,e6,Ie,En]
 ·obtain rfl:=Option.some.inj h
  simp (maxDischargeDepth:=9) only [↓AL,AO,↓reduceIte,Nat.reduceEqDiff,Nat.reduceLT,m0,m2,m3,e1,Ie,Mx,K3]
theorem dR(A8:List (List (Int×Int)))(AR:AB)(A9:AB){r:AY}(h:R9 A8 AR A9=some r):Y.call 50 [D.agg [D.sl 79 (AQ (fun x=>D.sl 87 (Au .i64 .i64 x)) A8),D.sl 3 (AQ (D.int .i64) AR),D.sl 3 (AQ (D.int .i64) A9)]] []=some (D.own 26 (AQ Qw r),[]):=by
 refine c50 ?_ rfl;unfold k50;unfold R9 at h;obtain⟨BA,hl2,h⟩:=Ak h;try dsimp only at h
 simp (maxDischargeDepth:=9) only [↓AL,AO,↓reduceIte,Nat.reduceEqDiff,Nat.reduceLT,Nat.reduceAdd];refine Aw (Ym A8 hl2 ?_) ?_
 ·simp (maxDischargeDepth:=9) only [BZ,↓reduceIte,Nat.reduceEqDiff,Ie]<;>(repeat' apply A7)<;>first|rfl|exact⟨_,rfl⟩|exact⟨_,_,rfl⟩|simp [AQ,CR]
 ·intro ex2 s2 hX2;unfold Mx at hX2;obtain⟨rfl,n2_0⟩:=hX2
  obtain rfl:=Option.some.inj h
  simp (maxDischargeDepth:=9) only [↓AL,AO,↓reduceIte,Nat.reduceEqDiff,Nat.reduceLT,n2_0]
noncomputable def JN(a:Int)(b:Int):Option (Int):= (L8 (IntKind.i64.wrap (a+b)) (1000000000001:Int)).bind fun V8=> some V8
def ABL:SC:= .seq (.ops [oX 4 (.assign (iK 0)) 3]) (.seq (.ops [oM 5 0 3,oM 6 1 3,oB 7 .add 3 (tK 5) (tK 6) 3 3,oC 8 114 [(tK 7),(iK 1000000000001)] [3,3] 3,oA 4 8 3]) .ret)
theorem A4q:Tryz.f115.body.map (BX lends)=some ABL:=by kernel_rfl
theorem AIJ:Bj Tryz.f115 2=true:=by kernel_rfl
theorem AOx{a l:List D}{r:D×List D}(h:Br Y.env ABL (fin Ap l.length [ResultVar.tmp 4] r) (entry a l))(ha:a.length=2):Y.call 115 a l=some r:=
 AZ (Y:=Y) rfl Tryz.func115 (ha▸AIJ) A4q h
theorem Ht(a:Int)(b:Int){r:Int}(h:JN a b=some r):Y.call 115 [D.int .i64 a,D.int .i64 b] []=some (D.int .i64 r,[]):=by
 refine AOx ?_ rfl;unfold ABL;unfold JN at h;obtain⟨V8,hl1,h⟩:=Ak h;try dsimp only at h
 have c1:=Mi (IntKind.i64.wrap (a+b)) (1000000000001:Int) hl1
 obtain rfl:=Option.some.inj h
 simp (maxDischargeDepth:=9) only [↓AL,AO,↓reduceIte,Nat.reduceEqDiff,Nat.reduceLT,Nat.reduceAdd,c1]
noncomputable def Ig(a:Int)(b:Int):Option (Int):= if 0<a then ck (¬a=0)<| if(IntKind.i64.wrap ((1000000000001:Int).tdiv a))<b then some 1000000000001 else (L8 (IntKind.i64.wrap (a*b)) (1000000000001:Int)).bind fun TN=> some TN else (L8 (IntKind.i64.wrap (a*b)) (1000000000001:Int)).bind fun TN=> some TN
def k84:SC:= .seq (.ops [oX 4 (.assign (iK 0)) 3]) (.seq (.seq (.ops [oM 5 0 3,oB 6 .gtr 3 (tK 5) (iK 0) 3 4,oM 7 6 4,⟨(some 8),(.move (tK 1)),3,(some (some 7,true))⟩,⟨(some 9),(.move (tK 0)),3,(some (some 7,true))⟩,⟨(some 10),(.binOp .quo 3 (iK 1000000000001) (tK 9) 3),3,(some (some 7,true))⟩,⟨(some 11),(.binOp .gtr 3 (tK 8) (tK 10) 3),4,(some (some 7,true))⟩,oX 12 (.pick (tK 7) (tK 11) MS) 4]) (.cond (tK 12) (.seq (.ops [oX 4 (.assign (iK 1000000000001)) 3]) .ret) .skip)) (.seq (.ops [oM 13 0 3,oM 14 1 3,oB 15 .mul 3 (tK 13) (tK 14) 3 3,oC 16 114 [(tK 15),(iK 1000000000001)] [3,3] 3,oA 4 16 3]) .ret))
theorem ABM:Tryz.f84.body.map (BX lends)=some k84:=by kernel_rfl
theorem AOz:Bj Tryz.f84 2=true:=by kernel_rfl
theorem c84{a l:List D}{r:D×List D}(h:Br Y.env k84 (fin Ap l.length [ResultVar.tmp 4] r) (entry a l))(ha:a.length=2):Y.call 84 a l=some r:=
 AZ (Y:=Y) rfl Tryz.func84 (ha▸AOz) ABM h
theorem Ih(a:Int)(b:Int){r:Int}(h:Ig a b=some r):Y.call 84 [D.int .i64 a,D.int .i64 b] []=some (D.int .i64 r,[]):=by
 refine c84 ?_ rfl;unfold k84;unfold Ig at h;rcases iS h with⟨e1,h⟩|⟨e1,h⟩
 ·obtain⟨e2,h⟩:=ES h;rcases iS h with⟨e3,h⟩|⟨e3,h⟩
  ·obtain rfl:=Option.some.inj h
   simp (maxDischargeDepth:=9) only [↓AL,AO,↓reduceIte,Nat.reduceEqDiff,Nat.reduceLT,e1,e2,e3]
  ·obtain⟨TN,hl4,h⟩:=Ak h;try dsimp only at h
   have c4:=Mi (IntKind.i64.wrap (a*b)) (1000000000001:Int) hl4
   obtain rfl:=Option.some.inj h
   simp (maxDischargeDepth:=9) only [↓AL,AO,↓reduceIte,Nat.reduceEqDiff,Nat.reduceLT,Nat.reduceAdd,e1,e2,e3,c4]
 ·obtain⟨TN,hl2,h⟩:=Ak h;try dsimp only at h
  have c2:=Mi (IntKind.i64.wrap (a*b)) (1000000000001:Int) hl2
  obtain rfl:=Option.some.inj h
  simp (maxDischargeDepth:=9) only [↓AL,AO,↓reduceIte,Nat.reduceEqDiff,Nat.reduceLT,Nat.reduceAdd,e1,c2]
noncomputable def Jv(rec_:AB→AY→Int→Int→Int→Option Int)(Df:AB)(BM:AY)(Bq:Int)(DF:Int)(Dn:Int)(Aj:Int)(DD:Int):Option ((Int×Int)⊕(Int)):= if DD<(Df.length:Int)then ck (0≤DD∧DD.toNat<Df.length)<| if Bq=DF then if Dn=(Df.getD DD.toNat default)then if 0<DD then ck (0≤IntKind.i64.wrap (DD-1)∧(IntKind.i64.wrap (DD-1)).toNat<Df.length)<| if(Df.getD ((IntKind.i64.wrap (DD-1)).toNat) default)=(Df.getD DD.toNat default)then some (Sum.inl (Aj,IntKind.i64.wrap (DD+1))) else ck (0≤DD)<| ck (DD.toNat≤Df.length)<| (Ku ((Df.take DD.toNat).drop 0)).bind fun FD=> ck (0≤IntKind.i64.wrap (DD+1))<| ck ((IntKind.i64.wrap (DD+1)).toNat≤Df.length)<| ck (FD.length+((Df.take Df.length).drop ((IntKind.i64.wrap (DD+1)).toNat)).length<1099511627776)<| (rec_ (FD++((Df.take Df.length).drop ((IntKind.i64.wrap (DD+1)).toNat))) BM (IntKind.i64.wrap (Bq+1)) DF Dn).bind fun Tg=> (Ig (1:Int) Tg).bind fun Ti=> (JN Aj Ti).bind fun XN=> some (Sum.inl (XN,IntKind.i64.wrap (DD+1))) else ck (0≤DD)<| ck (DD.toNat≤Df.length)<| (Ku ((Df.take DD.toNat).drop 0)).bind fun FD=> ck (0≤IntKind.i64.wrap (DD+1))<| ck ((IntKind.i64.wrap (DD+1)).toNat≤Df.length)<| ck (FD.length+((Df.take Df.length).drop ((IntKind.i64.wrap (DD+1)).toNat)).length<1099511627776)<|
 (rec_ (FD++((Df.take Df.length).drop ((IntKind.i64.wrap (DD+1)).toNat))) BM (IntKind.i64.wrap (Bq+1)) DF Dn).bind fun Tg=> (Ig (1:Int) Tg).bind fun Ti=> (JN Aj Ti).bind fun XN=> some (Sum.inl (XN,IntKind.i64.wrap (DD+1))) else some (Sum.inl (Aj,IntKind.i64.wrap (DD+1))) else ck (0≤Bq∧Bq.toNat<BM.length)<| ck (0≤(Df.getD DD.toNat default)∧(Df.getD DD.toNat default).toNat<(BM.getD Bq.toNat default).length)<| if((BM.getD Bq.toNat default).getD ((Df.getD DD.toNat default).toNat) default)=0 then some (Sum.inl (Aj,IntKind.i64.wrap (DD+1))) else if 0<DD then ck (0≤IntKind.i64.wrap (DD-1)∧(IntKind.i64.wrap (DD-1)).toNat<Df.length)<| if(Df.getD ((IntKind.i64.wrap (DD-1)).toNat) default)=(Df.getD DD.toNat default)then some (Sum.inl (Aj,IntKind.i64.wrap (DD+1))) else ck (0≤DD)<| ck (DD.toNat≤Df.length)<| (Ku ((Df.take DD.toNat).drop 0)).bind fun FD=> ck (0≤IntKind.i64.wrap (DD+1))<| ck ((IntKind.i64.wrap (DD+1)).toNat≤Df.length)<| ck (FD.length+((Df.take Df.length).drop ((IntKind.i64.wrap (DD+1)).toNat)).length<1099511627776)<| (rec_ (FD++((Df.take Df.length).drop ((IntKind.i64.wrap (DD+1)).toNat))) BM (IntKind.i64.wrap (Bq+1)) DF Dn).bind fun Tg=> (Ig ((BM.getD Bq.toNat default).getD ((Df.getD DD.toNat default).toNat) default) Tg).bind fun Ti=>
 (JN Aj Ti).bind fun XN=> some (Sum.inl (XN,IntKind.i64.wrap (DD+1))) else ck (0≤DD)<| ck (DD.toNat≤Df.length)<| (Ku ((Df.take DD.toNat).drop 0)).bind fun FD=> ck (0≤IntKind.i64.wrap (DD+1))<| ck ((IntKind.i64.wrap (DD+1)).toNat≤Df.length)<| ck (FD.length+((Df.take Df.length).drop ((IntKind.i64.wrap (DD+1)).toNat)).length<1099511627776)<| (rec_ (FD++((Df.take Df.length).drop ((IntKind.i64.wrap (DD+1)).toNat))) BM (IntKind.i64.wrap (Bq+1)) DF Dn).bind fun Tg=> (Ig ((BM.getD Bq.toNat default).getD ((Df.getD DD.toNat default).toNat) default) Tg).bind fun Ti=> (JN Aj Ti).bind fun XN=> some (Sum.inl (XN,IntKind.i64.wrap (DD+1))) else some (Sum.inr Aj)
noncomputable def QX(rec_:AB→AY→Int→Int→Int→Option Int)(Df:AB)(BM:AY)(Bq:Int)(DF:Int)(Dn:Int)(v:Int×Int):Option (Int):=Fb (fun v=>Jv rec_ Df BM Bq DF Dn v.1 v.2) v
noncomputable def ME(rec_:AB→AY→Int→Int→Int→Option Int)(Df:AB)(BM:AY)(Bq:Int)(DF:Int)(Dn:Int):Option (Int):= if Bq=(BM.length:Int)then some 1 else (QX rec_ Df BM Bq DF Dn (0,0)).bind fun Aa=> some Aa
noncomputable def GQ:Nat→AB→AY→Int→Int→Int→Option Int |0=>fun _ _ _ _ _=>none |n+1=>fun Df BM Bq DF Dn=>ME (GQ n) Df BM Bq DF Dn
noncomputable def dS(Df:AB)(BM:AY)(Bq:Int)(DF:Int)(Dn:Int):Option (Int):=GQ 1000000 Df BM Bq DF Dn
abbrev RA:List Nat:=[54,55,56,57,58,59,60,61,62,63,64,59,63,59,0,65,66,67,68,69,70,71,72,11,72]
def dU:SC:= .seq (.ops [oB 22 .lss 3 (tK 21) (tK 20) 3 0]) (.seq (.cond (tK 22) .skip (.exit 0)) (.seq (.block 1 (.seq (.ops [oM 23 21 3,oI 24 26 19 21,oL 25 3 24 3,oA 12 23 3,oA 13 25 3]) (.seq (.ops [oX 14 (.assign (iK 1)) 3]) (.seq (.seq (.ops [oM 26 2 3,oM 27 3 3,oB 28 .neq 3 (tK 26) (tK 27) 3 4]) (.cond (tK 28) (.ops [oM 29 1 22,oM 30 2 3,oI 31 22 29 30,oL 32 26 31 26,oM 33 13 3,oI 34 26 32 33,oL 35 3 34 3,oA 14 35 3]) (.seq (.ops [oM 36 4 3,oM 37 13 3,oB 38 .neq 3 (tK 36) (tK 37) 3 4]) (.cond (tK 38) (.ops [oX 14 (.assign (iK 0)) 3]) .skip)))) (.seq (.seq (.ops [oM 39 14 3,oB 40 .eql 3 (tK 39) (iK 0) 3 4,oM 41 40 4,⟨(some 42),(.move (tK 12)),3,(some (some 41,false))⟩,⟨(some 43),(.binOp .gtr 3 (tK 42) (iK 0) 3),4,(some (some 41,false))⟩,⟨(some 44),(.move (tK 43)),4,(some (some 41,false))⟩,⟨(some 45),(.move (tK 0)),26,(some (some 44,true))⟩,⟨(some 46),(.move (tK 12)),3,(some (some 44,true))⟩,⟨(some 47),(.binOp .sub 3 (tK 46) (iK 1) 3),3,(some (some 44,true))⟩,⟨(some 48),(.indexAddr 26 (tK 45) (tK 47)),0,(some (some 44,true))⟩,⟨(some 49),(.load 3 (tK 48)),3,(some (some 44,true))⟩,⟨(some 50),(.move (tK 13)),3,(some (some 44,true))⟩,⟨(some 51),(.binOp .eql 3 (tK 49) (tK 50) 3),4,(some (some 44,true))⟩,
 ⟨(some 52),(.pick (tK 44) (tK 51) MS),4,(some (some 41,false))⟩,oX 53 (.pick (tK 41) F7 (tK 52)) 4]) (.cond (tK 53) (.exit 1) .skip)) (.draws [(⟨[54,11,11],RA,[54]⟩,oM 54 11 3),(⟨[55,14,14],RA,[55]⟩,oM 55 14 3),(⟨[56,0,0],RA,[56]⟩,oM 56 0 26),(⟨[57,12,12],RA,[57]⟩,oM 57 12 3),(⟨[58,56,57,0,12],RA,[58]⟩,oX 58 (.slice 26 (tK 56) none (some (tK 57)) none) 26),(⟨[59,58,0],RA,[59]⟩,oC 59 92 [(tK 58)] [26] 26),(⟨[60,0,0],RA,[60]⟩,oM 60 0 26),(⟨[61,12,12],RA,[61]⟩,oM 61 12 3),(⟨[62,61,12],RA,[62]⟩,oB 62 .add 3 (tK 61) (iK 1) 3 3),(⟨[63,60,62,0,62],RA,[63]⟩,oX 63 (.slice 26 (tK 60) (some (tK 62)) none none) 26),(⟨[64,59,63,59,0],RA,[64,59,63,59,0]⟩,oX 64 (.call ⟨(.builtin .append), #[(tK 59),(tK 63)], #[26,26]⟩) 26),(⟨[65,1,1],RA,[65]⟩,oM 65 1 22),(⟨[66,2,2],RA,[66]⟩,oM 66 2 3),(⟨[67,66,2],RA,[67]⟩,oB 67 .add 3 (tK 66) (iK 1) 3 3),(⟨[68,3,3],RA,[68]⟩,oM 68 3 3),(⟨[69,4,4],RA,[69]⟩,oM 69 4 3),(⟨[70,64,65,67,68,69,64,1,67,3,4],RA,[70]⟩,oC 70 135 [(tK 64),(tK 65),(tK 67),(tK 68),(tK 69)] [26,22,3,3,3] 3),(⟨[71,55,70,14,70],RA,[71]⟩,oC 71 84 [(tK 55),(tK 70)] [3,3] 3),(⟨[72,54,71,11,71],RA,[72]⟩,oC 72 115 [(tK 54),(tK 71)] [3,3] 3),(⟨[11,72,72],RA,[11,72]⟩,oA 11 72 3)]))))))
 (.ops [oB 73 .add 3 (tK 21) (iK 1) 3 3,oM 21 73 3])))
def y8:SC:= .loop dU
def ABN:SC:= .seq (.ops [oX 10 (.assign (iK 0)) 3]) (.seq (.seq (.ops [oM 15 2 3,oM 16 1 22,oN 17 16 22,oB 18 .eql 3 (tK 15) (tK 17) 3 4]) (.cond (tK 18) (.seq (.ops [oX 10 (.assign (iK 1)) 3]) .ret) .skip)) (.seq (.ops [oX 11 (.assign (iK 0)) 3]) (.seq (.seq (.ops [oM 19 0 26,oN 20 19 26,oX 21 (.move (iK 0)) 3]) (.block 0 y8)) (.seq (.ops [oM 74 11 3,oA 10 74 3]) .ret))))
theorem A4r:Tryz.f135.body.map (BX lends)=some ABN:=by kernel_rfl
theorem AIK:Bj Tryz.f135 5=true:=by kernel_rfl
theorem AP0{a l:List D}{r:D×List D}(h:Br Y.env ABN (fin Ap l.length [ResultVar.tmp 10] r) (entry a l))(ha:a.length=5):Y.call 135 a l=some r:=
 AZ (Y:=Y) rfl Tryz.func135 (ha▸AIK) A4r h
def DK(rec_:AB→AY→Int→Int→Int→Option Int)(Df:AB)(BM:AY)(Bq:Int)(DF:Int)(Dn:Int)(Aj:Int)(DD:Int)(s:St):Prop:=s.v 0=D.sl 3 (AQ (D.int .i64) Df)∧s.v 1=D.sl 26 (AQ Bw BM)∧s.v 2=D.int .i64 Bq∧s.v 3=D.int .i64 DF∧s.v 4=D.int .i64 Dn∧s.v 11=D.int .i64 Aj∧s.v 19=D.sl 3 (AQ (D.int .i64) Df)∧s.v 20=D.int .i64 (Df.length:Int)∧s.v 21=D.int .i64 DD
def Na(rec_:AB→AY→Int→Int→Int→Option Int)(Df:AB)(BM:AY)(Bq:Int)(DF:Int)(Dn:Int)(r:Int)(ex:Ex)(s:St):Prop:=ex= .exit 0∧s.v 11=D.int .i64 r
theorem dV(rec_:AB→AY→Int→Int→Int→Option Int)(Df:AB)(BM:AY)(Bq:Int)(DF:Int)(Dn:Int)(rec_h: ∀(Df:AB) (BM:AY) (Bq:Int) (DF:Int) (Dn:Int) (r:Int),rec_ Df BM Bq DF Dn=some r→Y.call 135 [D.sl 3 (AQ (D.int .i64) Df),D.sl 26 (AQ Bw BM),D.int .i64 Bq,D.int .i64 DF,D.int .i64 Dn] []=some (D.int .i64 r,[])){v:Int×Int}{s:St}{r:Int}(h:QX rec_ Df BM Bq DF Dn v=some r)(hM:DK rec_ Df BM Bq DF Dn v.1 v.2 s):Br Y.env y8 (Na rec_ Df BM Bq DF Dn r) s:=by
 unfold QX at h;refine BH (c:=dU) (fun v=>Jv rec_ Df BM Bq DF Dn v.1 v.2) (fun v s=>DK rec_ Df BM Bq DF Dn v.1 v.2 s) (Na rec_ Df BM Bq DF Dn) ?_ h hM;clear h hM s v r;intro v s o hM h;obtain⟨Aj,DD⟩:=v;dsimp only at h hM;unfold Jv at h;unfold DK at hM;obtain⟨m0,m1,m2,m3,m4,m5,m6,m7,m8⟩:=hM;unfold dU;rcases iS h with⟨e2,h⟩|⟨e2,h⟩
 ·obtain⟨e3,h⟩:=ES h;rcases iS h with⟨e4,h⟩|⟨e4,h⟩
  ·rcases iS h with⟨e5,h⟩|⟨e5,h⟩
   ·rcases iS h with⟨e6,h⟩|⟨e6,h⟩
    ·obtain⟨e7,h⟩:=ES h;rcases iS h with⟨e8,h⟩|⟨e8,h⟩
     ·obtain rfl:=Option.some.inj h
      simp (maxDischargeDepth:=9) only [↓AL,AO,↓reduceIte,Nat.reduceEqDiff,Nat.reduceLT,Int.reduceEq,m0,m1,m2,m3,m4,m5,m6,m7,m8,e2,e3.1,e3.2,decide_eq_true e4,decide_eq_true e5,e6,e7.1,e7.2,decide_eq_true e8,DK,En]
     ·obtain⟨e9,e10,h⟩:=GX h;obtain⟨FD,hl11,h⟩:=Ak h;have c11:=Iw ((Df.take DD.toNat).drop 0) hl11;obtain⟨e12,e13,e14,h⟩:=Q3 h;obtain⟨Tg,hl15,h⟩:=Ak h;have vJ:=rec_h _ _ _ _ _ _ hl15;obtain⟨Ti,hl16,h⟩:=Ak h;have c16:=Ih (1:Int) Tg hl16;obtain⟨XN,hl17,h⟩:=Ak h;try dsimp only at h
      have c17:=Ht Aj Ti hl17
      obtain rfl:=Option.some.inj h
      simp (maxDischargeDepth:=9) only [↓AL,AO,↓reduceIte,Nat.reduceEqDiff,Nat.reduceLT,Nat.reduceLeDiff,Nat.reduceAdd,Int.reduceEq,m0,m1,m2,m3,m4,m5,m6,m7,m8,e2,e3.1,e3.2,decide_eq_true e4,decide_eq_true e5,e6,e7.1,e7.2,e8,e10,c11,e12,e13,e14,vJ,c16,c17,DK,En]
    ·obtain⟨e7,e8,h⟩:=GX h;obtain⟨FD,hl9,h⟩:=Ak h;have c9:=Iw ((Df.take DD.toNat).drop 0) hl9;obtain⟨e10,e11,e12,h⟩:=Q3 h;obtain⟨Tg,hl13,h⟩:=Ak h;have c13:=rec_h _ _ _ _ _ _ hl13;obtain⟨Ti,hl14,h⟩:=Ak h;have c14:=Ih (1:Int) Tg hl14;obtain⟨XN,hl15,h⟩:=Ak h;try dsimp only at h
     have vJ:=Ht Aj Ti hl15
     obtain rfl:=Option.some.inj h
     simp (maxDischargeDepth:=9) only [↓AL,AO,↓reduceIte,Nat.reduceEqDiff,Nat.reduceLT,Nat.reduceLeDiff,Nat.reduceAdd,Int.reduceEq,m0,m1,m2,m3,m4,m5,m6,m7,m8,e2,e3.1,e3.2,decide_eq_true e4,decide_eq_true e5,e6,e8,c9,e10,e11,e12,c13,c14,vJ,DK,En]
   ·obtain rfl:=Option.some.inj h
    simp (maxDischargeDepth:=9) only [↓AL,AO,↓reduceIte,Nat.reduceEqDiff,Nat.reduceLT,m0,m1,m2,m3,m4,m5,m6,m7,m8,e2,e3.1,e3.2,decide_eq_true e4,e5,DK,En]
  ·obtain⟨e5,e6,h⟩:=GX h;rcases iS h with⟨e7,h⟩|⟨e7,h⟩
   ·obtain rfl:=Option.some.inj h
    simp (maxDischargeDepth:=9) only [↓AL,AO,↓reduceIte,Nat.reduceEqDiff,Nat.reduceLT,m0,m1,m2,m3,m4,m5,m6,m7,m8,e2,e3.1,e3.2,e4,e5.1,e5.2,e6.1,e6.2,decide_eq_true e7,DK,En]
   ·rcases iS h with⟨e8,h⟩|⟨e8,h⟩
    ·obtain⟨e9,h⟩:=ES h;rcases iS h with⟨e10,h⟩|⟨e10,h⟩
     ·obtain rfl:=Option.some.inj h
      simp (maxDischargeDepth:=9) only [↓AL,AO,↓reduceIte,Nat.reduceEqDiff,Nat.reduceLT,m0,m1,m2,m3,m4,m5,m6,m7,m8,e2,e3.1,e3.2,e4,e5.1,e5.2,e6.1,e6.2,e7,e8,e9.1,e9.2,decide_eq_true e10,DK,En]
     ·obtain⟨e11,e12,h⟩:=GX h;obtain⟨FD,hl13,h⟩:=Ak h;have c13:=Iw ((Df.take DD.toNat).drop 0) hl13;obtain⟨e14,e15,e16,h⟩:=Q3 h;obtain⟨Tg,hl17,h⟩:=Ak h;have c17:=rec_h _ _ _ _ _ _ hl17;obtain⟨Ti,hl18,h⟩:=Ak h;have jM:=Ih ((BM.getD Bq.toNat default).getD ((Df.getD DD.toNat default).toNat) default) Tg hl18;obtain⟨XN,hl19,h⟩:=Ak h;try dsimp only at h
      have c19:=Ht Aj Ti hl19
      obtain rfl:=Option.some.inj h
      simp (maxDischargeDepth:=9) only [↓AL,AO,↓reduceIte,Nat.reduceEqDiff,Nat.reduceLT,Nat.reduceLeDiff,Nat.reduceAdd,m0,m1,m2,m3,m4,m5,m6,m7,m8,e2,e3.1,e3.2,e4,e5.1,e5.2,e6.1,e6.2,e7,e8,e9.1,e9.2,e10,e12,c13,e14,e15,e16,c17,jM,c19,DK,En]
    ·obtain⟨e9,e10,h⟩:=GX h;obtain⟨FD,hl11,h⟩:=Ak h;have c11:=Iw ((Df.take DD.toNat).drop 0) hl11;obtain⟨e12,e13,e14,h⟩:=Q3 h;obtain⟨Tg,hl15,h⟩:=Ak h;have vJ:=rec_h _ _ _ _ _ _ hl15;obtain⟨Ti,hl16,h⟩:=Ak h;have c16:=Ih ((BM.getD Bq.toNat default).getD ((Df.getD DD.toNat default).toNat) default) Tg hl16;obtain⟨XN,hl17,h⟩:=Ak h;try dsimp only at h
     have c17:=Ht Aj Ti hl17
     obtain rfl:=Option.some.inj h
     simp (maxDischargeDepth:=9) only [↓AL,AO,↓reduceIte,Nat.reduceEqDiff,Nat.reduceLT,Nat.reduceLeDiff,Nat.reduceAdd,m0,m1,m2,m3,m4,m5,m6,m7,m8,e2,e3.1,e3.2,e4,e5.1,e5.2,e6.1,e6.2,e7,e8,e10,c11,e12,e13,e14,vJ,c16,c17,DK,En]
 ·obtain rfl:=Option.some.inj h
  simp (maxDischargeDepth:=9) only [↓AL,AO,↓reduceIte,Nat.reduceEqDiff,Nat.reduceLT,m5,m7,m8,e2,DK,Na,K3]
theorem Yn(rec_:AB→AY→Int→Int→Int→Option Int)(Df:AB)(BM:AY)(Bq:Int)(DF:Int)(Dn:Int)(rec_h: ∀(Df:AB) (BM:AY) (Bq:Int) (DF:Int) (Dn:Int) (r:Int),rec_ Df BM Bq DF Dn=some r→Y.call 135 [D.sl 3 (AQ (D.int .i64) Df),D.sl 26 (AQ Bw BM),D.int .i64 Bq,D.int .i64 DF,D.int .i64 Dn] []=some (D.int .i64 r,[])){r:Int}(h:ME rec_ Df BM Bq DF Dn=some r):Y.call 135 [D.sl 3 (AQ (D.int .i64) Df),D.sl 26 (AQ Bw BM),D.int .i64 Bq,D.int .i64 DF,D.int .i64 Dn] []=some (D.int .i64 r,[]):=by
 refine AP0 ?_ rfl;unfold ABN;unfold ME at h;rcases iS h with⟨e1,h⟩|⟨e1,h⟩
 ·obtain rfl:=Option.some.inj h
  simp (maxDischargeDepth:=9) only [↓AL,AO,↓reduceIte,Nat.reduceEqDiff,Nat.reduceLT,decide_eq_true e1]
 ·obtain⟨Aa,hl3,h⟩:=Ak h;try dsimp only at h
  simp (maxDischargeDepth:=9) only [↓AL,AO,↓reduceIte,Nat.reduceEqDiff,Nat.reduceLT,e1];refine Aw (dV rec_ Df BM Bq DF Dn rec_h hl3 ?_) ?_
  ·simp (maxDischargeDepth:=9) only [BZ,Ei,↓reduceIte,Nat.reduceEqDiff,Nat.reduceLT,DK]
  ·intro ex3 s3 hX3;unfold Na at hX3;obtain⟨rfl,n3_0⟩:=hX3
   obtain rfl:=Option.some.inj h
   simp (maxDischargeDepth:=9) only [↓AL,AO,↓reduceIte,Nat.reduceEqDiff,Nat.reduceLT,n3_0]
theorem Yo(n:Nat): ∀(Df:AB) (BM:AY) (Bq:Int) (DF:Int) (Dn:Int) (r:Int),GQ n Df BM Bq DF Dn=some r→Y.call 135 [D.sl 3 (AQ (D.int .i64) Df),D.sl 26 (AQ Bw BM),D.int .i64 Bq,D.int .i64 DF,D.int .i64 Dn] []=some (D.int .i64 r,[]):=by
 induction n with
 |zero=>intro Df BM Bq DF Dn r h;exact absurd h (by rw [GQ];exact fun e=>by cases e)
 |succ n ih=>intro Df BM Bq DF Dn r h;rw [GQ]at h;exact Yn (GQ n) Df BM Bq DF Dn ih h
theorem iO(Df:AB)(BM:AY)(Bq:Int)(DF:Int)(Dn:Int){r:Int}(h:dS Df BM Bq DF Dn=some r):Y.call 135 [D.sl 3 (AQ (D.int .i64) Df),D.sl 26 (AQ Bw BM),D.int .i64 Bq,D.int .i64 DF,D.int .i64 Dn] []=some (D.int .i64 r,[]):=Yo 1000000 Df BM Bq DF Dn r h
noncomputable def LU(AV:AY)(ways:AY)(i:Int)(a:Int)(out:Int)(Hu:Int):Option ((Int×Int)⊕(Int)):= if Hu<(AV.length:Int)then ck (0≤Hu∧Hu.toNat<AV.length)<| (dS (AV.getD Hu.toNat default) ways (0:Int) i a).bind fun ABO=> (JN out ABO).bind fun AIL=> some (Sum.inl (AIL,IntKind.i64.wrap (Hu+1))) else some (Sum.inr out)
noncomputable def Rv(AV:AY)(ways:AY)(i:Int)(a:Int)(v:Int×Int):Option (Int):=Fb (fun v=>LU AV ways i a v.1 v.2) v
noncomputable def HV(ways:AY)(i:Int)(out:Int)(GZ:Int)(sum:Int)(nO:Int):Option ((Int×Int)⊕(Int)):= if nO<((ways.getD GZ.toNat default).length:Int)then ck (0≤nO∧nO.toNat<(ways.getD GZ.toNat default).length)<| (JN sum ((ways.getD GZ.toNat default).getD nO.toNat default)).bind fun H8=> some (Sum.inl (H8,IntKind.i64.wrap (nO+1))) else some (Sum.inr sum)
noncomputable def Ps(ways:AY)(i:Int)(out:Int)(GZ:Int)(v:Int×Int):Option (Int):=Fb (fun v=>HV ways i out GZ v.1 v.2) v
noncomputable def LV(ways:AY)(i:Int)(out:Int)(GZ:Int):Option ((Int×Int)⊕(Int)):= if GZ<(ways.length:Int)then ck (0≤GZ∧GZ.toNat<ways.length)<| (Ps ways i out GZ (0,0)).bind fun BA=> if GZ=i then some (Sum.inl (out,IntKind.i64.wrap (GZ+1))) else (Ig out BA).bind fun AIM=> some (Sum.inl (AIM,IntKind.i64.wrap (GZ+1))) else some (Sum.inr out)
noncomputable def Rw(ways:AY)(i:Int)(v:Int×Int):Option (Int):=Fb (fun v=>LV ways i v.1 v.2) v
noncomputable def Oy(AP:Int)(AU:Int)(AV:AY)(AX:AY)(ways:AY)(i:Int)(a:Int):Option (Int):= if(ways.length:Int)=AU then (Rv AV ways i a (0,0)).bind fun Aa=> some Aa else (Rw ways i (1,0)).bind fun Dq=> some Dq
def dW:SC:= .seq (.ops [oB 52 .lss 3 (tK 51) (tK 50) 3 0]) (.seq (.cond (tK 52) .skip (.exit 4)) (.seq (.block 5 (.seq (.ops [oI 53 22 49 51,oL 54 26 53 26,oA 17 54 26]) (.ops [oM 55 15 3,oM 56 17 26,oM 57 1 22,oM 58 2 3,oM 59 3 3,oC 60 135 [(tK 56),(tK 57),(iK 0),(tK 58),(tK 59)] [26,22,3,3,3] 3,oC 61 115 [(tK 55),(tK 60)] [3,3] 3,oA 15 61 3]))) (.ops [oB 62 .add 3 (tK 51) (iK 1) 3 3,oM 51 62 3])))
def y9:SC:= .loop dW
def dX:SC:= .seq (.ops [oB 33 .lss 3 (tK 32) (tK 31) 3 0]) (.seq (.cond (tK 33) .skip (.exit 2)) (.seq (.block 3 (.seq (.ops [oI 34 26 30 32,oL 35 3 34 3,oA 14 35 3]) (.ops [oM 36 12 3,oM 37 14 3,oC 38 115 [(tK 36),(tK 37)] [3,3] 3,oA 12 38 3]))) (.ops [oB 39 .add 3 (tK 32) (iK 1) 3 3,oM 32 39 3])))
def yA:SC:= .loop dX
def dY:SC:= .seq (.ops [oB 26 .lss 3 (tK 25) (tK 24) 3 0]) (.seq (.cond (tK 26) .skip (.exit 0)) (.seq (.block 1 (.seq (.ops [oM 27 25 3,oI 28 22 23 25,oL 29 26 28 26,oA 10 27 3,oA 11 29 26]) (.seq (.ops [oX 12 (.assign (iK 0)) 3]) (.seq (.seq (.ops [oM 30 11 26,oN 31 30 26,oX 32 (.move (iK 0)) 3]) (.block 2 yA)) (.seq (.ops [oM 40 10 3,oM 41 2 3,oB 42 .neq 3 (tK 40) (tK 41) 3 4]) (.cond (tK 42) (.ops [oM 43 9 3,oM 44 12 3,oC 45 84 [(tK 43),(tK 44)] [3,3] 3,oA 9 45 3]) .skip)))))) (.ops [oB 46 .add 3 (tK 25) (iK 1) 3 3,oM 25 46 3])))
def yB:SC:= .loop dY
def ABP:SC:= .seq (.ops [oX 4 (.box 34 (tK 0)) 0,oX 8 (.assign (iK 0)) 3]) (.seq (.seq (.ops [oM 18 1 22,oN 19 18 22,oF 20 34 4 1,oL 21 3 20 3,oB 22 .neq 3 (tK 19) (tK 21) 3 4]) (.cond (tK 22) (.seq (.ops [oX 9 (.assign (iK 1)) 3]) (.seq (.seq (.ops [oM 23 1 22,oN 24 23 22,oX 25 (.move (iK 0)) 3]) (.block 0 yB)) (.seq (.ops [oM 47 9 3,oA 8 47 3]) .ret))) .skip)) (.seq (.ops [oX 15 (.assign (iK 0)) 3]) (.seq (.seq (.ops [oF 48 34 4 2,oL 49 22 48 22,oN 50 49 22,oX 51 (.move (iK 0)) 3]) (.block 4 y9)) (.seq (.ops [oM 63 15 3,oA 8 63 3]) .ret))))
theorem A4s:Tryz.f116.body.map (BX lends)=some ABP:=by kernel_rfl
theorem AIN:Bj Tryz.f116 4=true:=by kernel_rfl
theorem AP1{a l:List D}{r:D×List D}(h:Br Y.env ABP (fin Ap l.length [ResultVar.tmp 8] r) (entry a l))(ha:a.length=4):Y.call 116 a l=some r:=
 AZ (Y:=Y) rfl Tryz.func116 (ha▸AIN) A4s h
def LW(AV:AY)(ways:AY)(i:Int)(a:Int)(out:Int)(Hu:Int)(s:St):Prop:=s.v 1=D.sl 26 (AQ Bw ways)∧s.v 2=D.int .i64 i∧s.v 3=D.int .i64 a∧s.v 15=D.int .i64 out∧s.v 49=D.sl 26 (AQ Bw AV)∧s.v 50=D.int .i64 (AV.length:Int)∧s.v 51=D.int .i64 Hu
def Oz(AV:AY)(ways:AY)(i:Int)(a:Int)(r:Int)(ex:Ex)(s:St):Prop:=ex= .exit 4∧s.v 15=D.int .i64 r
theorem iP(AV:AY)(ways:AY)(i:Int)(a:Int){v:Int×Int}{s:St}{r:Int}(h:Rv AV ways i a v=some r)(hM:LW AV ways i a v.1 v.2 s):Br Y.env y9 (Oz AV ways i a r) s:=by
 unfold Rv at h;refine BH (c:=dW) (fun v=>LU AV ways i a v.1 v.2) (fun v s=>LW AV ways i a v.1 v.2 s) (Oz AV ways i a) ?_ h hM;clear h hM s v r;intro v s o hM h;obtain⟨out,Hu⟩:=v;dsimp only at h hM;unfold LU at h;unfold LW at hM;obtain⟨m0,m1,m2,m3,m4,m5,m6⟩:=hM;unfold dW;rcases iS h with⟨e2,h⟩|⟨e2,h⟩
 ·obtain⟨e3,h⟩:=ES h;obtain⟨ABO,hl4,h⟩:=Ak h;have c4:=iO (AV.getD Hu.toNat default) ways (0:Int) i a hl4;obtain⟨AIL,hl5,h⟩:=Ak h;try dsimp only at h
  have c5:=Ht out ABO hl5
  obtain rfl:=Option.some.inj h
  simp (maxDischargeDepth:=9) only [↓AL,AO,↓reduceIte,Nat.reduceEqDiff,Nat.reduceLT,Nat.reduceAdd,m0,m1,m2,m3,m4,m5,m6,e2,e3.1,e3.2,c4,c5,LW,En]
 ·obtain rfl:=Option.some.inj h
  simp (maxDischargeDepth:=9) only [↓AL,AO,↓reduceIte,Nat.reduceEqDiff,Nat.reduceLT,m3,m5,m6,e2,LW,Oz,K3]
def LX(ways:AY)(i:Int)(out:Int)(GZ:Int)(sum:Int)(nO:Int)(s:St):Prop:=s.v 2=D.int .i64 i∧s.v 9=D.int .i64 out∧s.v 10=D.int .i64 GZ∧s.v 12=D.int .i64 sum∧s.v 23=D.sl 26 (AQ Bw ways)∧s.v 24=D.int .i64 (ways.length:Int)∧s.v 25=D.int .i64 GZ∧s.v 30=D.sl 3 (AQ (D.int .i64) (ways.getD GZ.toNat default))∧s.v 31=D.int .i64 ((ways.getD GZ.toNat default).length:Int)∧s.v 32=D.int .i64 nO
def P5(ways:AY)(i:Int)(out:Int)(GZ:Int)(r:Int)(ex:Ex)(s:St):Prop:=ex= .exit 2∧s.v 2=D.int .i64 i∧s.v 9=D.int .i64 out∧s.v 10=D.int .i64 GZ∧s.v 12=D.int .i64 r∧s.v 23=D.sl 26 (AQ Bw ways)∧s.v 24=D.int .i64 (ways.length:Int)∧s.v 25=D.int .i64 GZ
theorem iQ(ways:AY)(i:Int)(out:Int)(GZ:Int){v:Int×Int}{s:St}{r:Int}(h:Ps ways i out GZ v=some r)(hM:LX ways i out GZ v.1 v.2 s):Br Y.env yA (P5 ways i out GZ r) s:=by
 unfold Ps at h;refine BH (c:=dX) (fun v=>HV ways i out GZ v.1 v.2) (fun v s=>LX ways i out GZ v.1 v.2 s) (P5 ways i out GZ) ?_ h hM;clear h hM s v r;intro v s o hM h;obtain⟨sum,nO⟩:=v;dsimp only at h hM;unfold HV at h;unfold LX at hM;obtain⟨m0,m1,m2,m3,m4,m5,m6,m7,m8,m9⟩:=hM;unfold dX;rcases iS h with⟨e4,h⟩|⟨e4,h⟩
 ·obtain⟨e5,h⟩:=ES h;obtain⟨H8,hl6,h⟩:=Ak h;try dsimp only at h
  have c6:=Ht sum ((ways.getD GZ.toNat default).getD nO.toNat default) hl6
  obtain rfl:=Option.some.inj h
  simp (maxDischargeDepth:=9) only [↓AL,AO,↓reduceIte,Nat.reduceEqDiff,Nat.reduceLT,Nat.reduceAdd,m0,m1,m2,m3,m4,m5,m6,m7,m8,m9,e4,e5.1,e5.2,c6,LX,En]
 ·obtain rfl:=Option.some.inj h
  simp (maxDischargeDepth:=9) only [↓AL,AO,↓reduceIte,Nat.reduceEqDiff,Nat.reduceLT,m0,m1,m2,m3,m4,m5,m6,m8,m9,e4,LX,P5,K3]
def JA(ways:AY)(i:Int)(out:Int)(GZ:Int)(s:St):Prop:=s.v 2=D.int .i64 i∧s.v 9=D.int .i64 out∧s.v 23=D.sl 26 (AQ Bw ways)∧s.v 24=D.int .i64 (ways.length:Int)∧s.v 25=D.int .i64 GZ
def P6(ways:AY)(i:Int)(r:Int)(ex:Ex)(s:St):Prop:=ex= .exit 0∧s.v 9=D.int .i64 r
theorem iR(ways:AY)(i:Int){v:Int×Int}{s:St}{r:Int}(h:Rw ways i v=some r)(hM:JA ways i v.1 v.2 s):Br Y.env yB (P6 ways i r) s:=by
 unfold Rw at h;refine BH (c:=dY) (fun v=>LV ways i v.1 v.2) (fun v s=>JA ways i v.1 v.2 s) (P6 ways i) ?_ h hM;clear h hM s v r;intro v s o hM h;obtain⟨out,GZ⟩:=v;dsimp only at h hM;unfold LV at h;unfold JA at hM;obtain⟨m0,m1,m2,m3,m4⟩:=hM;unfold dY;rcases iS h with⟨e2,h⟩|⟨e2,h⟩
 ·obtain⟨e3,h⟩:=ES h;obtain⟨BA,hl5,h⟩:=Ak h;try dsimp only at h
  simp (maxDischargeDepth:=9) only [↓AL,AO,↓reduceIte,Nat.reduceEqDiff,Nat.reduceLT,m2,m3,m4,e2,e3.1,e3.2];refine Aw (iQ ways i out GZ hl5 ?_) ?_
  ·simp (maxDischargeDepth:=9) only [BZ,↓reduceIte,Nat.reduceEqDiff,m0,m1,m2,m3,m4,LX]
  ·intro ex5 s5 hX5;unfold P5 at hX5;obtain⟨rfl,n5_0,n5_1,n5_2,n5_3,n5_4,n5_5,n5_6⟩:=hX5;rcases iS h with⟨e6,h⟩|⟨e6,h⟩
   ·obtain rfl:=Option.some.inj h
    simp (maxDischargeDepth:=9) only [↓AL,AO,↓reduceIte,Nat.reduceEqDiff,Nat.reduceLT,n5_0,n5_1,n5_2,n5_4,n5_5,n5_6,decide_eq_true e6,JA,En]
   ·obtain⟨AIM,hl7,h⟩:=Ak h;try dsimp only at h
    have c7:=Ih out BA hl7
    obtain rfl:=Option.some.inj h
    simp (maxDischargeDepth:=9) only [↓AL,AO,↓reduceIte,Nat.reduceEqDiff,Nat.reduceLT,Nat.reduceAdd,n5_0,n5_1,n5_2,n5_3,n5_4,n5_5,n5_6,e6,c7,JA,En]
 ·obtain rfl:=Option.some.inj h
  simp (maxDischargeDepth:=9) only [↓AL,AO,↓reduceIte,Nat.reduceEqDiff,Nat.reduceLT,m1,m3,m4,e2,JA,P6,K3]
theorem WQ(AP:Int)(AU:Int)(AV:AY)(AX:AY)(ways:AY)(i:Int)(a:Int){r:Int}(h:Oy AP AU AV AX ways i a=some r):Y.call 116 [D.agg [D.int .i64 AP,D.int .i64 AU,D.sl 26 (AQ Bw AV),D.sl 26 (AQ Bw AX)],D.sl 26 (AQ Bw ways),D.int .i64 i,D.int .i64 a] []=some (D.int .i64 r,[]):=by
 refine AP1 ?_ rfl;unfold ABP;unfold Oy at h;rcases iS h with⟨e1,h⟩|⟨e1,h⟩
 ·obtain⟨Aa,hl3,h⟩:=Ak h;try dsimp only at h
  simp (maxDischargeDepth:=9) only [↓AL,AO,↓reduceIte,Nat.reduceEqDiff,Nat.reduceLT,Nat.reduceAdd,decide_eq_true e1];refine Aw (iP AV ways i a hl3 ?_) ?_
  ·simp (maxDischargeDepth:=9) only [BZ,Ei,↓reduceIte,Nat.reduceEqDiff,Nat.reduceLT,LW]
  ·intro ex3 s3 hX3;unfold Oz at hX3;obtain⟨rfl,n3_0⟩:=hX3
   obtain rfl:=Option.some.inj h
   simp (maxDischargeDepth:=9) only [↓AL,AO,↓reduceIte,Nat.reduceEqDiff,Nat.reduceLT,n3_0]
 ·obtain⟨Dq,hl3,h⟩:=Ak h;try dsimp only at h
  simp (maxDischargeDepth:=9) only [↓AL,AO,↓reduceIte,Nat.reduceEqDiff,Nat.reduceLT,Nat.reduceAdd,e1];refine Aw (iR ways i hl3 ?_) ?_
  ·simp (maxDischargeDepth:=9) only [BZ,Ei,↓reduceIte,Nat.reduceEqDiff,Nat.reduceLT,JA]
  ·intro ex3 s3 hX3;unfold P6 at hX3;obtain⟨rfl,n3_0⟩:=hX3
   obtain rfl:=Option.some.inj h
   simp (maxDischargeDepth:=9) only [↓AL,AO,↓reduceIte,Nat.reduceEqDiff,Nat.reduceLT,n3_0]
noncomputable def Gg(Ab:Int)(Ae:Int)(Ai:AY)(Af:AY)(Aq:List (List (Int×Int)))(BK:AB)(Al:AB)(Bq:AY)(DF:Int)(Dn:Int)(Aj:AY)(FY:Int)(K8:AB)(Hu:Int)(t14_1:AB)(WS:Int):Option ((AB×Int)⊕(AB)):= if WS<(K8.length:Int)then ck (0≤WS∧WS.toNat<K8.length)<| ck (0≤DF∧DF.toNat<Bq.length)<| ck (0≤FY∧FY.toNat<(Bq.getD DF.toNat default).length)<| (TY ((Bq.getD DF.toNat default).getD FY.toNat default) Hu).bind fun ABQ=> if ABQ=true then ck (Bv Af)<| if(Qc Af Hu WS)=true then ck (0≤Hu∧Hu.toNat<t14_1.length)<| (JN (t14_1.getD Hu.toNat default) (K8.getD WS.toNat default)).bind fun AIO=> some (Sum.inl ((t14_1.set Hu.toNat AIO),IntKind.i64.wrap (WS+1))) else some (Sum.inl (t14_1,IntKind.i64.wrap (WS+1))) else some (Sum.inl (t14_1,IntKind.i64.wrap (WS+1))) else some (Sum.inr t14_1)
noncomputable def Lp(Ab:Int)(Ae:Int)(Ai:AY)(Af:AY)(Aq:List (List (Int×Int)))(BK:AB)(Al:AB)(Bq:AY)(DF:Int)(Dn:Int)(Aj:AY)(FY:Int)(K8:AB)(Hu:Int)(v:AB×Int):Option (AB):=Fb (fun v=>Gg Ab Ae Ai Af Aq BK Al Bq DF Dn Aj FY K8 Hu v.1 v.2) v
noncomputable def Gh(Ab:Int)(Ae:Int)(Ai:AY)(Af:AY)(Aq:List (List (Int×Int)))(BK:AB)(Al:AB)(Bq:AY)(DF:Int)(Dn:Int)(Aj:AY)(FY:Int)(K8:AB)(Bu:AB)(Hu:Int):Option ((AB×Int)⊕(AB)):= if Hu<((List.replicate Ab.toNat (0:Int)).length:Int)then (Lp Ab Ae Ai Af Aq BK Al Bq DF Dn Aj FY K8 Hu (Bu,0)).bind fun Aa=> some (Sum.inl (Aa,IntKind.i64.wrap (Hu+1))) else some (Sum.inr Bu)
noncomputable def Lr(Ab:Int)(Ae:Int)(Ai:AY)(Af:AY)(Aq:List (List (Int×Int)))(BK:AB)(Al:AB)(Bq:AY)(DF:Int)(Dn:Int)(Aj:AY)(FY:Int)(K8:AB)(v:AB×Int):Option (AB):=Fb (fun v=>Gh Ab Ae Ai Af Aq BK Al Bq DF Dn Aj FY K8 v.1 v.2) v
noncomputable def Gj(rec_:Int→Int→AY→AY→(List (List (Int×Int)))→AB→AB→AY→Int→Int→Option (AB))(Ab:Int)(Ae:Int)(Ai:AY)(Af:AY)(Aq:List (List (Int×Int)))(BK:AB)(Al:AB)(Bq:AY)(DF:Int)(Dn:Int)(Aj:AY)(FY:Int):Option ((AY×Int)⊕(AY)):= if FY<((Aq.getD DF.toNat default).length:Int)then ck (0≤FY∧FY.toNat<(Aq.getD DF.toNat default).length)<| ck (0≤Ab∧Ab<1099511627776)<| if FY=Dn then ck (Aj.length+1<1099511627776)<| some (Sum.inl ((Aj++[[]]),IntKind.i64.wrap (FY+1))) else (rec_ Ab Ae Ai Af Aq BK Al Bq (BP (Aq.getD DF.toNat default) FY.toNat) (Ck (Aq.getD DF.toNat default) FY.toNat)).bind fun K8=> (Lr Ab Ae Ai Af Aq BK Al Bq DF Dn Aj FY K8 ((List.replicate Ab.toNat 0),0)).bind fun BA=> ck (Aj.length+1<1099511627776)<| some (Sum.inl ((Aj++[BA]),IntKind.i64.wrap (FY+1))) else some (Sum.inr Aj)
noncomputable def Lt(rec_:Int→Int→AY→AY→(List (List (Int×Int)))→AB→AB→AY→Int→Int→Option (AB))(Ab:Int)(Ae:Int)(Ai:AY)(Af:AY)(Aq:List (List (Int×Int)))(BK:AB)(Al:AB)(Bq:AY)(DF:Int)(Dn:Int)(v:AY×Int):Option (AY):=Fb (fun v=>Gj rec_ Ab Ae Ai Af Aq BK Al Bq DF Dn v.1 v.2) v
noncomputable def Gl(Ab:Int)(Ae:Int)(Ai:AY)(Af:AY)(Bq:AY)(DF:Int)(Dn:Int)(Dq:AY)(wG:AB)(RB:Int):Option ((AB×Int)⊕(AB)):= if RB<((List.replicate Ab.toNat (0:Int)).length:Int)then ck (0≤DF∧DF.toNat<Bq.length)<| ck (0≤Dn∧Dn.toNat<(Bq.getD DF.toNat default).length)<| (TY ((Bq.getD DF.toNat default).getD Dn.toNat default) RB).bind fun A2f=> if A2f=true then (Oy Ab Ae Ai Af Dq Dn RB).bind fun A82=> ck (0≤RB∧RB.toNat<wG.length)<| some (Sum.inl ((wG.set RB.toNat A82),IntKind.i64.wrap (RB+1))) else some (Sum.inl (wG,IntKind.i64.wrap (RB+1))) else some (Sum.inr wG)
noncomputable def Nb(Ab:Int)(Ae:Int)(Ai:AY)(Af:AY)(Bq:AY)(DF:Int)(Dn:Int)(Dq:AY)(v:AB×Int):Option (AB):=Fb (fun v=>Gl Ab Ae Ai Af Bq DF Dn Dq v.1 v.2) v
noncomputable def N7(rec_:Int→Int→AY→AY→(List (List (Int×Int)))→AB→AB→AY→Int→Int→Option (AB))(Ab:Int)(Ae:Int)(Ai:AY)(Af:AY)(Aq:List (List (Int×Int)))(BK:AB)(Al:AB)(Bq:AY)(DF:Int)(Dn:Int):Option (AB):= ck (0≤DF∧DF.toNat<Aq.length)<| (Lt rec_ Ab Ae Ai Af Aq BK Al Bq DF Dn ([],0)).bind fun Dq=> if Dn<0 then (Oy Ab Ae Ai Af Dq (-1:Int) (0:Int)).bind fun AIP=> some [AIP] else ck (0≤Ab∧Ab<1099511627776)<| (Nb Ab Ae Ai Af Bq DF Dn Dq ((List.replicate Ab.toNat 0),0)).bind fun dA=> some dA
noncomputable def Ez:Nat→Int→Int→AY→AY→(List (List (Int×Int)))→AB→AB→AY→Int→Int→Option (AB) |0=>fun _ _ _ _ _ _ _ _ _ _=>none |n+1=>fun Ab Ae Ai Af Aq BK Al Bq DF Dn=>N7 (Ez n) Ab Ae Ai Af Aq BK Al Bq DF Dn
noncomputable def Uy(Ab:Int)(Ae:Int)(Ai:AY)(Af:AY)(Aq:List (List (Int×Int)))(BK:AB)(Al:AB)(Bq:AY)(DF:Int)(Dn:Int):Option (AB):=Ez 1000000 Ab Ae Ai Af Aq BK Al Bq DF Dn
def nP:SC:= .seq (.ops [oB 57 .lss 3 (tK 56) (tK 55) 3 0]) (.seq (.cond (tK 57) .skip (.exit 4)) (.seq (.block 5 (.seq (.ops [oM 58 56 3,oI 59 26 54 56,oL 60 3 59 3,oA 17 58 3,oA 18 60 3]) (.seq (.ops [oM 61 2 22,oM 62 3 3,oI 63 22 61 62,oL 64 26 63 26,oM 65 12 3,oI 66 26 64 65,oL 67 3 66 3,oM 68 16 3,oC 69 61 [(tK 67),(tK 68)] [3,3] 4,oM 70 69 4,⟨(some 71),(.load 34 (tK 5)),34,(some (some 70,true))⟩,⟨(some 72),(.move (tK 16)),3,(some (some 70,true))⟩,⟨(some 73),(.move (tK 17)),3,(some (some 70,true))⟩,⟨(some 74),(.call ⟨(.value (.func 94)), #[(tK 71),(tK 72),(tK 73)], #[34,3,3]⟩),4,(some (some 70,true))⟩,oX 75 (.pick (tK 70) (tK 74) MS) 4]) (.cond (tK 75) (.ops [oM 76 14 26,oM 77 16 3,oM 78 14 26,oM 79 16 3,oI 80 26 78 79,oL 81 3 80 3,oM 82 18 3,oC 83 115 [(tK 81),(tK 82)] [3,3] 3,oI 84 26 76 77,oS 3 84 83]) .skip)))) (.ops [oB 85 .add 3 (tK 56) (iK 1) 3 3,oM 56 85 3])))
def A2g:SC:= .loop nP
def nQ:SC:= .seq (.ops [oB 52 .lss 3 (tK 51) (tK 50) 3 0]) (.seq (.cond (tK 52) .skip (.exit 2)) (.seq (.block 3 (.seq (.ops [oM 53 51 3,oA 16 53 3]) (.seq (.ops [oM 54 15 26,oN 55 54 26,oX 56 (.move (iK 0)) 3]) (.block 4 A2g)))) (.ops [oB 86 .add 3 (tK 51) (iK 1) 3 3,oM 51 86 3])))
def A2h:SC:= .loop nQ
def nR:SC:= .seq (.ops [oB 28 .lss 3 (tK 27) (tK 26) 3 0]) (.seq (.cond (tK 28) .skip (.exit 0)) (.seq (.block 1 (.seq (.ops [oM 29 27 3,oI 30 79 25 27,oL 31 87 30 87,oX 13 (.alloc 87) 0,oA 12 29 3,oS 87 13 31]) (.seq (.ops [oF 32 34 5 0,oL 33 3 32 3,oX 34 (.makeSlice 26 (tK 33) (tK 33)) 26,oA 14 34 26]) (.seq (.seq (.ops [oM 35 12 3,oM 36 4 3,oB 37 .eql 3 (tK 35) (tK 36) 3 4]) (.cond (tK 37) (.seq (.ops [oM 38 11 22,oX 39 (.buildSlice 22 1 #[(0,(.const (.slice none 0 0)))]) 22,oX 40 (.call ⟨(.builtin .append), #[(tK 38),(tK 39)], #[22,22]⟩) 22,oA 11 40 22]) (.exit 1)) .skip)) (.seq (.ops [oL 41 34 5 34,oL 42 38 6 38,oM 43 2 22,oF 44 87 13 0,oL 45 3 44 3,oF 46 87 13 1,oL 47 3 46 3,oC 48 85 [(tK 41),(tK 42),(tK 43),(tK 45),(tK 47)] [34,38,22,3,3] 26,oA 15 48 26]) (.seq (.seq (.ops [oM 49 14 26,oN 50 49 26,oX 51 (.move (iK 0)) 3]) (.block 2 A2h)) (.ops [oM 87 11 22,oM 88 14 26,oX 89 (.buildSlice 22 1 #[(0,(tK 88))]) 22,oX 90 (.call ⟨(.builtin .append), #[(tK 87),(tK 89)], #[22,22]⟩) 22,oA 11 90 22]))))))) (.ops [oB 91 .add 3 (tK 27) (iK 1) 3 3,oM 27 91 3])))
def A2i:SC:= .loop nR
def nS:SC:= .seq (.ops [oB 104 .lss 3 (tK 103) (tK 102) 3 0]) (.seq (.cond (tK 104) .skip (.exit 6)) (.seq (.block 7 (.seq (.ops [oM 105 103 3,oA 20 105 3]) (.seq (.ops [oM 106 2 22,oM 107 3 3,oI 108 22 106 107,oL 109 26 108 26,oM 110 4 3,oI 111 26 109 110,oL 112 3 111 3,oM 113 20 3,oC 114 61 [(tK 112),(tK 113)] [3,3] 4]) (.cond (tK 114) (.ops [oM 115 19 26,oM 116 20 3,oL 117 34 5 34,oM 118 11 22,oM 119 4 3,oM 120 20 3,oC 121 116 [(tK 117),(tK 118),(tK 119),(tK 120)] [34,22,3,3] 3,oI 122 26 115 116,oS 3 122 121]) .skip)))) (.ops [oB 123 .add 3 (tK 103) (iK 1) 3 3,oM 103 123 3])))
def A2j:SC:= .loop nS
def k85:SC:= .seq (.ops [oX 5 (.box 34 (tK 0)) 0,oX 6 (.box 38 (tK 1)) 0,oX 10 KL 26]) (.seq (.ops [oX 11 KL 22]) (.seq (.seq (.ops [oF 21 38 6 0,oL 22 36 21 36,oM 23 3 3,oI 24 36 22 23,oL 25 79 24 79,oN 26 25 79,oX 27 (.move (iK 0)) 3]) (.block 0 A2i)) (.seq (.seq (.ops [oM 92 4 3,oB 93 .lss 3 (tK 92) (iK 0) 3 4]) (.cond (tK 93) (.seq (.ops [oL 94 34 5 34,oM 95 11 22,oC 96 116 [(tK 94),(tK 95),vH,(iK 0)] [34,22,3,3] 3,oX 97 (.buildSlice 26 1 #[(0,(tK 96))]) 26,oA 10 97 26]) .ret) .skip)) (.seq (.ops [oF 98 34 5 0,oL 99 3 98 3,oX 100 (.makeSlice 26 (tK 99) (tK 99)) 26,oA 19 100 26]) (.seq (.seq (.ops [oM 101 19 26,oN 102 101 26,oX 103 (.move (iK 0)) 3]) (.block 6 A2j)) (.seq (.ops [oM 124 19 26,oA 10 124 26]) .ret))))))
theorem ABR:Tryz.f85.body.map (BX lends)=some k85:=by kernel_rfl
theorem AP3:Bj Tryz.f85 5=true:=by kernel_rfl
theorem c85{a l:List D}{r:D×List D}(h:Br Y.env k85 (fin Ap l.length [ResultVar.tmp 10] r) (entry a l))(ha:a.length=5):Y.call 85 a l=some r:=
 AZ (Y:=Y) rfl Tryz.func85 (ha▸AP3) ABR h
def El(Ab:Int)(Ae:Int)(Ai:AY)(Af:AY)(Aq:List (List (Int×Int)))(BK:AB)(Al:AB)(Bq:AY)(DF:Int)(Dn:Int)(Aj:AY)(FY:Int)(K8:AB)(Hu:Int)(t14_1:AB)(WS:Int)(s:St):Prop:=s.v 2=D.sl 26 (AQ Bw Bq)∧s.v 3=D.int .i64 DF∧s.v 4=D.int .i64 Dn∧s.v 5=D.box [D.int .i64 Ab,D.int .i64 Ae,D.sl 26 (AQ Bw Ai),D.sl 26 (AQ Bw Af)]∧s.v 6=D.box [D.sl 79 (AQ (fun x=>D.sl 87 (Au .i64 .i64 x)) Aq),D.sl 3 (AQ (D.int .i64) BK),D.sl 3 (AQ (D.int .i64) Al)]∧s.v 11=D.own 26 (AQ Qw Aj)∧s.v 12=D.int .i64 FY∧s.v 14=D.own 3 (AQ (D.int .i64) t14_1)∧s.v 15=D.own 3 (AQ (D.int .i64) K8)∧s.v 16=D.int .i64 Hu∧s.v 25=D.sl 87 (Au .i64 .i64 (Aq.getD DF.toNat default))∧s.v 26=D.int .i64 ((Aq.getD DF.toNat default).length:Int)∧s.v 27=D.int .i64 FY∧s.v 50=D.int .i64 ((List.replicate Ab.toNat (0:Int)).length:Int)∧s.v 51=D.int .i64 Hu∧(∃w_,s.v 54=D.vw [15] (s.k 15) w_)∧s.v 55=D.int .i64 (K8.length:Int)∧s.v 56=D.int .i64 WS
def M4(Ab:Int)(Ae:Int)(Ai:AY)(Af:AY)(Aq:List (List (Int×Int)))(BK:AB)(Al:AB)(Bq:AY)(DF:Int)(Dn:Int)(Aj:AY)(FY:Int)(K8:AB)(Hu:Int)(r:AB)(ex:Ex)(s:St):Prop:=ex= .exit 4∧s.v 2=D.sl 26 (AQ Bw Bq)∧s.v 3=D.int .i64 DF∧s.v 4=D.int .i64 Dn∧s.v 5=D.box [D.int .i64 Ab,D.int .i64 Ae,D.sl 26 (AQ Bw Ai),D.sl 26 (AQ Bw Af)]∧s.v 6=D.box [D.sl 79 (AQ (fun x=>D.sl 87 (Au .i64 .i64 x)) Aq),D.sl 3 (AQ (D.int .i64) BK),D.sl 3 (AQ (D.int .i64) Al)]∧s.v 11=D.own 26 (AQ Qw Aj)∧s.v 12=D.int .i64 FY∧s.v 14=D.own 3 (AQ (D.int .i64) r)∧s.v 15=D.own 3 (AQ (D.int .i64) K8)∧s.v 25=D.sl 87 (Au .i64 .i64 (Aq.getD DF.toNat default))∧s.v 26=D.int .i64 ((Aq.getD DF.toNat default).length:Int)∧s.v 27=D.int .i64 FY∧s.v 50=D.int .i64 ((List.replicate Ab.toNat (0:Int)).length:Int)∧s.v 51=D.int .i64 Hu
theorem XO(Ab:Int)(Ae:Int)(Ai:AY)(Af:AY)(Aq:List (List (Int×Int)))(BK:AB)(Al:AB)(Bq:AY)(DF:Int)(Dn:Int)(Aj:AY)(FY:Int)(K8:AB)(Hu:Int){v:AB×Int}{s:St}{r:AB}(h:Lp Ab Ae Ai Af Aq BK Al Bq DF Dn Aj FY K8 Hu v=some r)(hM:El Ab Ae Ai Af Aq BK Al Bq DF Dn Aj FY K8 Hu v.1 v.2 s):Br Y.env A2g (M4 Ab Ae Ai Af Aq BK Al Bq DF Dn Aj FY K8 Hu r) s:=by
 unfold Lp at h;refine BH (c:=nP) (fun v=>Gg Ab Ae Ai Af Aq BK Al Bq DF Dn Aj FY K8 Hu v.1 v.2) (fun v s=>El Ab Ae Ai Af Aq BK Al Bq DF Dn Aj FY K8 Hu v.1 v.2 s) (M4 Ab Ae Ai Af Aq BK Al Bq DF Dn Aj FY K8 Hu) ?_ h hM;clear h hM s v r;intro v s o hM h;obtain⟨t14_1,WS⟩:=v;dsimp only at h hM;unfold Gg at h;unfold El at hM;obtain⟨m0,m1,m2,m3,m4,m5,m6,m7,m8,m9,m10,m11,m12,m13,m14,⟨w15_,m15⟩,m16,m17⟩:=hM;unfold nP;rcases iS h with⟨e8,h⟩|⟨e8,h⟩
 ·obtain⟨e9,e10,e11,h⟩:=Q3 h;obtain⟨ABQ,hl12,h⟩:=Ak h;have zi:=Xz ((Bq.getD DF.toNat default).getD FY.toNat default) Hu hl12;rcases iS h with⟨e13,h⟩|⟨e13,h⟩
  ·obtain⟨e14,h⟩:=ES h;have vJ:=rV Ab Ae Ai Af Hu WS e14;rcases iS h with⟨e16,h⟩|⟨e16,h⟩
   ·obtain⟨e17,h⟩:=ES h;obtain⟨AIO,hl18,h⟩:=Ak h;try dsimp only at h
    have jM:=Ht (t14_1.getD Hu.toNat default) (K8.getD WS.toNat default) hl18
    obtain rfl:=Option.some.inj h
    simp (maxDischargeDepth:=9) only [↓AL,AO,↓reduceIte,Nat.reduceEqDiff,Nat.reduceLT,Nat.reduceAdd,m0,m1,m2,m3,m4,m5,m6,m7,m8,m9,m10,m11,m12,m13,m14,m15,m16,m17,e8,e9.1,e9.2,e10.1,e10.2,e11.1,e11.2,zi,e13,vJ,e16,e17.1,e17.2,jM,El,En]<;>(repeat' apply A7)<;>first|rfl|exact⟨_,rfl⟩|exact⟨_,_,rfl⟩|simp [AQ,CR]
   ·have e16f:(Qc Af Hu WS)=false:=Jw.mpr e16
    obtain rfl:=Option.some.inj h
    simp (maxDischargeDepth:=9) only [↓AL,AO,↓reduceIte,Nat.reduceEqDiff,Nat.reduceLT,Nat.reduceAdd,m0,m1,m2,m3,m4,m5,m6,m7,m8,m9,m10,m11,m12,m13,m14,m15,m16,m17,e8,e9.1,e9.2,e10.1,e10.2,e11.1,e11.2,zi,e13,vJ,e16f,El,En]<;>(repeat' apply A7)<;>first|rfl|exact⟨_,rfl⟩|exact⟨_,_,rfl⟩|simp [AQ,CR]
  ·have e13f:ABQ=false:=Jw.mpr e13
   obtain rfl:=Option.some.inj h
   simp (maxDischargeDepth:=9) only [↓AL,AO,↓reduceIte,Nat.reduceEqDiff,Nat.reduceLT,Nat.reduceAdd,m0,m1,m2,m3,m4,m5,m6,m7,m8,m9,m10,m11,m12,m13,m14,m15,m16,m17,e8,e9.1,e9.2,e10.1,e10.2,e11.1,e11.2,zi,e13f,El,En]<;>(repeat' apply A7)<;>first|rfl|exact⟨_,rfl⟩|exact⟨_,_,rfl⟩|simp [AQ,CR]
 ·obtain rfl:=Option.some.inj h
  simp (maxDischargeDepth:=9) only [↓AL,AO,↓reduceIte,Nat.reduceEqDiff,Nat.reduceLT,m0,m1,m2,m3,m4,m5,m6,m7,m8,m10,m11,m12,m13,m14,m16,m17,e8,El,M4,K3]
def Gm(Ab:Int)(Ae:Int)(Ai:AY)(Af:AY)(Aq:List (List (Int×Int)))(BK:AB)(Al:AB)(Bq:AY)(DF:Int)(Dn:Int)(Aj:AY)(FY:Int)(K8:AB)(Bu:AB)(Hu:Int)(s:St):Prop:=s.v 2=D.sl 26 (AQ Bw Bq)∧s.v 3=D.int .i64 DF∧s.v 4=D.int .i64 Dn∧s.v 5=D.box [D.int .i64 Ab,D.int .i64 Ae,D.sl 26 (AQ Bw Ai),D.sl 26 (AQ Bw Af)]∧s.v 6=D.box [D.sl 79 (AQ (fun x=>D.sl 87 (Au .i64 .i64 x)) Aq),D.sl 3 (AQ (D.int .i64) BK),D.sl 3 (AQ (D.int .i64) Al)]∧s.v 11=D.own 26 (AQ Qw Aj)∧s.v 12=D.int .i64 FY∧s.v 14=D.own 3 (AQ (D.int .i64) Bu)∧s.v 15=D.own 3 (AQ (D.int .i64) K8)∧s.v 25=D.sl 87 (Au .i64 .i64 (Aq.getD DF.toNat default))∧s.v 26=D.int .i64 ((Aq.getD DF.toNat default).length:Int)∧s.v 27=D.int .i64 FY∧s.v 50=D.int .i64 ((List.replicate Ab.toNat (0:Int)).length:Int)∧s.v 51=D.int .i64 Hu
def M5(Ab:Int)(Ae:Int)(Ai:AY)(Af:AY)(Aq:List (List (Int×Int)))(BK:AB)(Al:AB)(Bq:AY)(DF:Int)(Dn:Int)(Aj:AY)(FY:Int)(K8:AB)(r:AB)(ex:Ex)(s:St):Prop:=ex= .exit 2∧s.v 2=D.sl 26 (AQ Bw Bq)∧s.v 3=D.int .i64 DF∧s.v 4=D.int .i64 Dn∧s.v 5=D.box [D.int .i64 Ab,D.int .i64 Ae,D.sl 26 (AQ Bw Ai),D.sl 26 (AQ Bw Af)]∧s.v 6=D.box [D.sl 79 (AQ (fun x=>D.sl 87 (Au .i64 .i64 x)) Aq),D.sl 3 (AQ (D.int .i64) BK),D.sl 3 (AQ (D.int .i64) Al)]∧s.v 11=D.own 26 (AQ Qw Aj)∧s.v 14=D.own 3 (AQ (D.int .i64) r)∧s.v 25=D.sl 87 (Au .i64 .i64 (Aq.getD DF.toNat default))∧s.v 26=D.int .i64 ((Aq.getD DF.toNat default).length:Int)∧s.v 27=D.int .i64 FY
theorem XP(Ab:Int)(Ae:Int)(Ai:AY)(Af:AY)(Aq:List (List (Int×Int)))(BK:AB)(Al:AB)(Bq:AY)(DF:Int)(Dn:Int)(Aj:AY)(FY:Int)(K8:AB){v:AB×Int}{s:St}{r:AB}(h:Lr Ab Ae Ai Af Aq BK Al Bq DF Dn Aj FY K8 v=some r)(hM:Gm Ab Ae Ai Af Aq BK Al Bq DF Dn Aj FY K8 v.1 v.2 s):Br Y.env A2h (M5 Ab Ae Ai Af Aq BK Al Bq DF Dn Aj FY K8 r) s:=by
 unfold Lr at h;refine BH (c:=nQ) (fun v=>Gh Ab Ae Ai Af Aq BK Al Bq DF Dn Aj FY K8 v.1 v.2) (fun v s=>Gm Ab Ae Ai Af Aq BK Al Bq DF Dn Aj FY K8 v.1 v.2 s) (M5 Ab Ae Ai Af Aq BK Al Bq DF Dn Aj FY K8) ?_ h hM;clear h hM s v r;intro v s o hM h;obtain⟨Bu,Hu⟩:=v;dsimp only at h hM;unfold Gh at h;unfold Gm at hM;obtain⟨m0,m1,m2,m3,m4,m5,m6,m7,m8,m9,m10,m11,m12,m13⟩:=hM;unfold nQ;rcases iS h with⟨e7,h⟩|⟨e7,h⟩
 ·obtain⟨Aa,hl9,h⟩:=Ak h;try dsimp only at h
  simp (maxDischargeDepth:=9) only [↓AL,AO,↓reduceIte,Nat.reduceEqDiff,Nat.reduceLT,m8,m12,m13,e7];refine Aw (XO Ab Ae Ai Af Aq BK Al Bq DF Dn Aj FY K8 Hu hl9 ?_) ?_
  ·simp (maxDischargeDepth:=9) only [BZ,↓reduceIte,Nat.reduceEqDiff,m0,m1,m2,m3,m4,m5,m6,m7,m8,m9,m10,m11,m12,m13,El]<;>(repeat' apply A7)<;>first|rfl|exact⟨_,rfl⟩|exact⟨_,_,rfl⟩|simp [AQ,CR]
  ·intro ex9 s9 hX9;unfold M4 at hX9;obtain⟨rfl,n9_0,n9_1,n9_2,n9_3,n9_4,n9_5,n9_6,n9_7,n9_8,n9_9,n9_10,n9_11,n9_12,n9_13⟩:=hX9
   obtain rfl:=Option.some.inj h
   simp (maxDischargeDepth:=9) only [↓AL,AO,↓reduceIte,Nat.reduceEqDiff,Nat.reduceLT,n9_0,n9_1,n9_2,n9_3,n9_4,n9_5,n9_6,n9_7,n9_8,n9_9,n9_10,n9_11,n9_12,n9_13,Gm,En]
 ·obtain rfl:=Option.some.inj h
  simp (maxDischargeDepth:=9) only [↓AL,AO,↓reduceIte,Nat.reduceEqDiff,Nat.reduceLT,m0,m1,m2,m3,m4,m5,m7,m9,m10,m11,m12,m13,e7,Gm,M5,K3]
def FT(rec_:Int→Int→AY→AY→(List (List (Int×Int)))→AB→AB→AY→Int→Int→Option (AB))(Ab:Int)(Ae:Int)(Ai:AY)(Af:AY)(Aq:List (List (Int×Int)))(BK:AB)(Al:AB)(Bq:AY)(DF:Int)(Dn:Int)(Aj:AY)(FY:Int)(s:St):Prop:=s.v 2=D.sl 26 (AQ Bw Bq)∧s.v 3=D.int .i64 DF∧s.v 4=D.int .i64 Dn∧s.v 5=D.box [D.int .i64 Ab,D.int .i64 Ae,D.sl 26 (AQ Bw Ai),D.sl 26 (AQ Bw Af)]∧s.v 6=D.box [D.sl 79 (AQ (fun x=>D.sl 87 (Au .i64 .i64 x)) Aq),D.sl 3 (AQ (D.int .i64) BK),D.sl 3 (AQ (D.int .i64) Al)]∧s.v 11=D.own 26 (AQ Qw Aj)∧s.v 25=D.sl 87 (Au .i64 .i64 (Aq.getD DF.toNat default))∧s.v 26=D.int .i64 ((Aq.getD DF.toNat default).length:Int)∧s.v 27=D.int .i64 FY
def M6(rec_:Int→Int→AY→AY→(List (List (Int×Int)))→AB→AB→AY→Int→Int→Option (AB))(Ab:Int)(Ae:Int)(Ai:AY)(Af:AY)(Aq:List (List (Int×Int)))(BK:AB)(Al:AB)(Bq:AY)(DF:Int)(Dn:Int)(r:AY)(ex:Ex)(s:St):Prop:=ex= .exit 0∧s.v 2=D.sl 26 (AQ Bw Bq)∧s.v 3=D.int .i64 DF∧s.v 4=D.int .i64 Dn∧s.v 5=D.box [D.int .i64 Ab,D.int .i64 Ae,D.sl 26 (AQ Bw Ai),D.sl 26 (AQ Bw Af)]∧s.v 11=D.own 26 (AQ Qw r)
theorem XQ(rec_:Int→Int→AY→AY→(List (List (Int×Int)))→AB→AB→AY→Int→Int→Option (AB))(Ab:Int)(Ae:Int)(Ai:AY)(Af:AY)(Aq:List (List (Int×Int)))(BK:AB)(Al:AB)(Bq:AY)(DF:Int)(Dn:Int)(rec_h: ∀(Ab:Int) (Ae:Int) (Ai:AY) (Af:AY) (Aq:List (List (Int×Int))) (BK:AB) (Al:AB) (Bq:AY) (DF:Int) (Dn:Int) (r:AB),rec_ Ab Ae Ai Af Aq BK Al Bq DF Dn=some r→Y.call 85 [D.agg [D.int .i64 Ab,D.int .i64 Ae,D.sl 26 (AQ Bw Ai),D.sl 26 (AQ Bw Af)],D.agg [D.sl 79 (AQ (fun x=>D.sl 87 (Au .i64 .i64 x)) Aq),D.sl 3 (AQ (D.int .i64) BK),D.sl 3 (AQ (D.int .i64) Al)],D.sl 26 (AQ Bw Bq),D.int .i64 DF,D.int .i64 Dn] []=some (D.own 3 (AQ (D.int .i64) r),[])){v:AY×Int}{s:St}{r:AY}(h:Lt rec_ Ab Ae Ai Af Aq BK Al Bq DF Dn v=some r)(hM:FT rec_ Ab Ae Ai Af Aq BK Al Bq DF Dn v.1 v.2 s):Br Y.env A2i (M6 rec_ Ab Ae Ai Af Aq BK Al Bq DF Dn r) s:=by
 unfold Lt at h;refine BH (c:=nR) (fun v=>Gj rec_ Ab Ae Ai Af Aq BK Al Bq DF Dn v.1 v.2) (fun v s=>FT rec_ Ab Ae Ai Af Aq BK Al Bq DF Dn v.1 v.2 s) (M6 rec_ Ab Ae Ai Af Aq BK Al Bq DF Dn) ?_ h hM;clear h hM s v r;intro v s o hM h;obtain⟨Aj,FY⟩:=v;dsimp only at h hM;unfold Gj at h;unfold FT at hM;obtain⟨m0,m1,m2,m3,m4,m5,m6,m7,m8⟩:=hM;unfold nR;rcases iS h with⟨e2,h⟩|⟨e2,h⟩
 ·obtain⟨e3,e4,h⟩:=GX h;rcases iS h with⟨e5,h⟩|⟨e5,h⟩
  ·obtain⟨e6,h⟩:=ES h
   obtain rfl:=Option.some.inj h
   simp (maxDischargeDepth:=9) only [↓AL,AO,↓reduceIte,Nat.reduceEqDiff,Nat.reduceLT,Nat.reduceLeDiff,Nat.reduceAdd,m0,m1,m2,m3,m4,m5,m6,m7,m8,e2,e3.1,e3.2,e4.1,e4.2,decide_eq_true e5,e6,FT,En]<;>(repeat' apply A7)<;>first|rfl|exact⟨_,rfl⟩|exact⟨_,_,rfl⟩|simp [AQ]
  ·obtain⟨K8,hl6,h⟩:=Ak h;have c6:=rec_h _ _ _ _ _ _ _ _ _ _ _ hl6;obtain⟨BA,hl8,h⟩:=Ak h;try dsimp only at h
   simp (maxDischargeDepth:=9) only [↓AL,AO,↓reduceIte,Nat.reduceEqDiff,Nat.reduceLT,Nat.reduceLeDiff,Nat.reduceAdd,m0,m2,m3,m4,m6,m7,m8,e2,e3.1,e3.2,e4.1,e4.2,e5,c6];refine Aw (XP Ab Ae Ai Af Aq BK Al Bq DF Dn Aj FY K8 hl8 ?_) ?_
   ·simp (maxDischargeDepth:=9) only [BZ,↓reduceIte,Nat.reduceEqDiff,m0,m1,m2,m3,m4,m5,m6,m7,m8,Gm]
   ·intro ex8 s8 hX8;unfold M5 at hX8;obtain⟨rfl,n8_0,n8_1,n8_2,n8_3,n8_4,n8_5,n8_6,n8_7,n8_8,n8_9⟩:=hX8;obtain⟨e9,h⟩:=ES h
    obtain rfl:=Option.some.inj h
    simp (maxDischargeDepth:=9) only [↓AL,AO,↓reduceIte,Nat.reduceEqDiff,Nat.reduceLT,Nat.reduceLeDiff,Nat.reduceAdd,n8_0,n8_1,n8_2,n8_3,n8_4,n8_5,n8_6,n8_7,n8_8,n8_9,e9,FT,En]
 ·obtain rfl:=Option.some.inj h
  simp (maxDischargeDepth:=9) only [↓AL,AO,↓reduceIte,Nat.reduceEqDiff,Nat.reduceLT,m0,m1,m2,m3,m5,m7,m8,e2,FT,M6,K3]
def FU(Ab:Int)(Ae:Int)(Ai:AY)(Af:AY)(Bq:AY)(DF:Int)(Dn:Int)(Dq:AY)(wG:AB)(RB:Int)(s:St):Prop:=s.v 2=D.sl 26 (AQ Bw Bq)∧s.v 3=D.int .i64 DF∧s.v 4=D.int .i64 Dn∧s.v 5=D.box [D.int .i64 Ab,D.int .i64 Ae,D.sl 26 (AQ Bw Ai),D.sl 26 (AQ Bw Af)]∧s.v 11=D.own 26 (AQ Qw Dq)∧s.v 19=D.own 3 (AQ (D.int .i64) wG)∧s.v 102=D.int .i64 ((List.replicate Ab.toNat (0:Int)).length:Int)∧s.v 103=D.int .i64 RB
def M7(Ab:Int)(Ae:Int)(Ai:AY)(Af:AY)(Bq:AY)(DF:Int)(Dn:Int)(Dq:AY)(r:AB)(ex:Ex)(s:St):Prop:=ex= .exit 6∧s.v 19=D.own 3 (AQ (D.int .i64) r)
theorem XR(Ab:Int)(Ae:Int)(Ai:AY)(Af:AY)(Bq:AY)(DF:Int)(Dn:Int)(Dq:AY){v:AB×Int}{s:St}{r:AB}(h:Nb Ab Ae Ai Af Bq DF Dn Dq v=some r)(hM:FU Ab Ae Ai Af Bq DF Dn Dq v.1 v.2 s):Br Y.env A2j (M7 Ab Ae Ai Af Bq DF Dn Dq r) s:=by
 unfold Nb at h;refine BH (c:=nS) (fun v=>Gl Ab Ae Ai Af Bq DF Dn Dq v.1 v.2) (fun v s=>FU Ab Ae Ai Af Bq DF Dn Dq v.1 v.2 s) (M7 Ab Ae Ai Af Bq DF Dn Dq) ?_ h hM;clear h hM s v r;intro v s o hM h;obtain⟨wG,RB⟩:=v;dsimp only at h hM;unfold Gl at h;unfold FU at hM;obtain⟨m0,m1,m2,m3,m4,m5,m6,m7⟩:=hM;unfold nS;rcases iS h with⟨e6,h⟩|⟨e6,h⟩
 ·obtain⟨e7,e8,h⟩:=GX h;obtain⟨A2f,hl9,h⟩:=Ak h;have c9:=Xz ((Bq.getD DF.toNat default).getD Dn.toNat default) RB hl9;rcases iS h with⟨e10,h⟩|⟨e10,h⟩
  ·obtain⟨A82,hl11,h⟩:=Ak h;have c11:=WQ Ab Ae Ai Af Dq Dn RB hl11;obtain⟨e12,h⟩:=ES h
   obtain rfl:=Option.some.inj h
   simp (maxDischargeDepth:=9) only [↓AL,AO,↓reduceIte,Nat.reduceEqDiff,Nat.reduceLT,Nat.reduceAdd,m0,m1,m2,m3,m4,m5,m6,m7,e6,e7.1,e7.2,e8.1,e8.2,c9,e10,c11,e12.1,e12.2,FU,En]
  ·have e10f:A2f=false:=Jw.mpr e10
   obtain rfl:=Option.some.inj h
   simp (maxDischargeDepth:=9) only [↓AL,AO,↓reduceIte,Nat.reduceEqDiff,Nat.reduceLT,Nat.reduceAdd,m0,m1,m2,m3,m4,m5,m6,m7,e6,e7.1,e7.2,e8.1,e8.2,c9,e10f,FU,En]
 ·obtain rfl:=Option.some.inj h
  simp (maxDischargeDepth:=9) only [↓AL,AO,↓reduceIte,Nat.reduceEqDiff,Nat.reduceLT,m5,m6,m7,e6,FU,M7,K3]
theorem WT(rec_:Int→Int→AY→AY→(List (List (Int×Int)))→AB→AB→AY→Int→Int→Option (AB))(Ab:Int)(Ae:Int)(Ai:AY)(Af:AY)(Aq:List (List (Int×Int)))(BK:AB)(Al:AB)(Bq:AY)(DF:Int)(Dn:Int)(rec_h: ∀(Ab:Int) (Ae:Int) (Ai:AY) (Af:AY) (Aq:List (List (Int×Int))) (BK:AB) (Al:AB) (Bq:AY) (DF:Int) (Dn:Int) (r:AB),rec_ Ab Ae Ai Af Aq BK Al Bq DF Dn=some r→Y.call 85 [D.agg [D.int .i64 Ab,D.int .i64 Ae,D.sl 26 (AQ Bw Ai),D.sl 26 (AQ Bw Af)],D.agg [D.sl 79 (AQ (fun x=>D.sl 87 (Au .i64 .i64 x)) Aq),D.sl 3 (AQ (D.int .i64) BK),D.sl 3 (AQ (D.int .i64) Al)],D.sl 26 (AQ Bw Bq),D.int .i64 DF,D.int .i64 Dn] []=some (D.own 3 (AQ (D.int .i64) r),[])){r:AB}(h:N7 rec_ Ab Ae Ai Af Aq BK Al Bq DF Dn=some r):Y.call 85 [D.agg [D.int .i64 Ab,D.int .i64 Ae,D.sl 26 (AQ Bw Ai),D.sl 26 (AQ Bw Af)],D.agg [D.sl 79 (AQ (fun x=>D.sl 87 (Au .i64 .i64 x)) Aq),D.sl 3 (AQ (D.int .i64) BK),D.sl 3 (AQ (D.int .i64) Al)],D.sl 26 (AQ Bw Bq),D.int .i64 DF,D.int .i64 Dn] []=some (D.own 3 (AQ (D.int .i64) r),[]):=by
 refine c85 ?_ rfl;unfold k85;unfold N7 at h;obtain⟨e1,h⟩:=ES h;obtain⟨Dq,hl3,h⟩:=Ak h;try dsimp only at h
 simp (maxDischargeDepth:=9) only [↓AL,AO,↓reduceIte,Nat.reduceEqDiff,Nat.reduceLT,Nat.reduceAdd,Int.reduceNeg,e1.1,e1.2];refine Aw (XQ rec_ Ab Ae Ai Af Aq BK Al Bq DF Dn rec_h hl3 ?_) ?_
 ·simp (maxDischargeDepth:=9) only [BZ,Ei,↓reduceIte,Nat.reduceEqDiff,Nat.reduceLT,FT]<;>(repeat' apply A7)<;>first|rfl|exact⟨_,rfl⟩|exact⟨_,_,rfl⟩|simp [AQ,CR]
 ·intro ex3 s3 hX3;unfold M6 at hX3;obtain⟨rfl,n3_0,n3_1,n3_2,n3_3,n3_4⟩:=hX3;rcases iS h with⟨e4,h⟩|⟨e4,h⟩
  ·obtain⟨AIP,hl5,h⟩:=Ak h;try dsimp only at h
   have c5:=WQ Ab Ae Ai Af Dq (-1:Int) (0:Int) hl5
   obtain rfl:=Option.some.inj h
   simp (maxDischargeDepth:=9) only [↓AL,AO,↓reduceIte,Nat.reduceEqDiff,Nat.reduceLT,Nat.reduceLeDiff,Nat.reduceAdd,Int.reduceNeg,n3_2,n3_3,n3_4,e4,c5]<;>(repeat' apply A7)<;>first|rfl|exact⟨_,rfl⟩|exact⟨_,_,rfl⟩|simp [AQ,CR]
  ·obtain⟨e5,h⟩:=ES h;obtain⟨dA,hl7,h⟩:=Ak h;try dsimp only at h
   simp (maxDischargeDepth:=9) only [↓AL,AO,↓reduceIte,Nat.reduceEqDiff,Nat.reduceLT,Nat.reduceLeDiff,Int.reduceNeg,n3_2,n3_3,e4,e5.1,e5.2];refine Aw (XR Ab Ae Ai Af Bq DF Dn Dq hl7 ?_) ?_
   ·simp (maxDischargeDepth:=9) only [BZ,↓reduceIte,Nat.reduceEqDiff,n3_0,n3_1,n3_2,n3_3,n3_4,FU]
   ·intro ex7 s7 hX7;unfold M7 at hX7;obtain⟨rfl,n7_0⟩:=hX7
    obtain rfl:=Option.some.inj h
    simp (maxDischargeDepth:=9) only [↓AL,AO,↓reduceIte,Nat.reduceEqDiff,Nat.reduceLT,n7_0]
theorem WU(n:Nat): ∀(Ab:Int) (Ae:Int) (Ai:AY) (Af:AY) (Aq:List (List (Int×Int))) (BK:AB) (Al:AB) (Bq:AY) (DF:Int) (Dn:Int) (r:AB),Ez n Ab Ae Ai Af Aq BK Al Bq DF Dn=some r→Y.call 85 [D.agg [D.int .i64 Ab,D.int .i64 Ae,D.sl 26 (AQ Bw Ai),D.sl 26 (AQ Bw Af)],D.agg [D.sl 79 (AQ (fun x=>D.sl 87 (Au .i64 .i64 x)) Aq),D.sl 3 (AQ (D.int .i64) BK),D.sl 3 (AQ (D.int .i64) Al)],D.sl 26 (AQ Bw Bq),D.int .i64 DF,D.int .i64 Dn] []=some (D.own 3 (AQ (D.int .i64) r),[]):=by
 induction n with
 |zero=>intro Ab Ae Ai Af Aq BK Al Bq DF Dn r h;exact absurd h (by rw [Ez];exact fun e=>by cases e)
 |succ n ih=>intro Ab Ae Ai Af Aq BK Al Bq DF Dn r h;rw [Ez]at h;exact WT (Ez n) Ab Ae Ai Af Aq BK Al Bq DF Dn ih h
theorem Yp(Ab:Int)(Ae:Int)(Ai:AY)(Af:AY)(Aq:List (List (Int×Int)))(BK:AB)(Al:AB)(Bq:AY)(DF:Int)(Dn:Int){r:AB}(h:Uy Ab Ae Ai Af Aq BK Al Bq DF Dn=some r):Y.call 85 [D.agg [D.int .i64 Ab,D.int .i64 Ae,D.sl 26 (AQ Bw Ai),D.sl 26 (AQ Bw Af)],D.agg [D.sl 79 (AQ (fun x=>D.sl 87 (Au .i64 .i64 x)) Aq),D.sl 3 (AQ (D.int .i64) BK),D.sl 3 (AQ (D.int .i64) Al)],D.sl 26 (AQ Bw Bq),D.int .i64 DF,D.int .i64 Dn] []=some (D.own 3 (AQ (D.int .i64) r),[]):=WU 1000000 Ab Ae Ai Af Aq BK Al Bq DF Dn r h
noncomputable def Ii(AP:Int)(AU:Int)(AV:AY)(AX:AY)(A8:List (List (Int×Int)))(AR:AB)(A9:AB)(masks:AY)(CS:AB)(out:Int)(Ll:Int):Option ((Int×Int)⊕(Int)):= if Ll<(CS.length:Int)then ck (0≤Ll∧Ll.toNat<CS.length)<| if Ll=(CS.getD Ll.toNat default)then (Uy AP AU AV AX A8 AR A9 masks Ll (-1:Int)).bind fun af=> ck (0<af.length)<| (Ig out (af.getD 0 default)).bind fun A2Y=> some (Sum.inl (A2Y,IntKind.i64.wrap (Ll+1))) else some (Sum.inl (out,IntKind.i64.wrap (Ll+1))) else some (Sum.inr out)
noncomputable def P7(AP:Int)(AU:Int)(AV:AY)(AX:AY)(A8:List (List (Int×Int)))(AR:AB)(A9:AB)(masks:AY)(CS:AB)(v:Int×Int):Option (Int):=Fb (fun v=>Ii AP AU AV AX A8 AR A9 masks CS v.1 v.2) v
noncomputable def RD(AP:Int)(AU:Int)(AV:AY)(AX:AY)(A8:List (List (Int×Int)))(AR:AB)(A9:AB)(masks:AY):Option (Int):= (R7 A8 AR A9).bind fun CS=> (P7 AP AU AV AX A8 AR A9 masks CS (1,0)).bind fun Aa=> some Aa
def nT:SC:= .seq (.ops [oB 14 .lss 3 (tK 13) (tK 12) 3 0]) (.seq (.cond (tK 14) .skip (.exit 0)) (.seq (.block 1 (.seq (.ops [oM 15 13 3,oI 16 26 11 13,oL 17 3 16 3,oA 8 15 3,oA 9 17 3]) (.seq (.ops [oM 18 8 3,oM 19 9 3,oB 20 .eql 3 (tK 18) (tK 19) 3 4]) (.cond (tK 20) (.ops [oM 21 7 3,oL 22 34 3 34,oL 23 38 4 38,oM 24 2 22,oM 25 8 3,oC 26 85 [(tK 22),(tK 23),(tK 24),(tK 25),vH] [34,38,22,3,3] 26,oX 27 (.indexAddr 26 (tK 26) (iK 0)) 0,oL 28 3 27 3,oC 29 84 [(tK 21),(tK 28)] [3,3] 3,oA 7 29 3]) .skip)))) (.ops [oB 30 .add 3 (tK 13) (iK 1) 3 3,oM 13 30 3])))
def A2k:SC:= .loop nT
def k51:SC:= .seq (.ops [oX 3 (.box 34 (tK 0)) 0,oX 4 (.box 38 (tK 1)) 0,oX 6 (.assign (iK 0)) 3]) (.seq (.ops [oX 7 (.assign (iK 1)) 3]) (.seq (.seq (.ops [oL 10 38 4 38,oC 11 83 [(tK 10)] [38] 26,oN 12 11 26,oX 13 (.move (iK 0)) 3]) (.block 0 A2k)) (.seq (.ops [oM 31 7 3,oA 6 31 3]) .ret)))
theorem ABS:Tryz.f51.body.map (BX lends)=some k51:=by kernel_rfl
theorem AP5:Bj Tryz.f51 3=true:=by kernel_rfl
theorem c51{a l:List D}{r:D×List D}(h:Br Y.env k51 (fin Ap l.length [ResultVar.tmp 6] r) (entry a l))(ha:a.length=3):Y.call 51 a l=some r:=
 AZ (Y:=Y) rfl Tryz.func51 (ha▸AP5) ABS h
def GR(AP:Int)(AU:Int)(AV:AY)(AX:AY)(A8:List (List (Int×Int)))(AR:AB)(A9:AB)(masks:AY)(CS:AB)(out:Int)(Ll:Int)(s:St):Prop:=s.v 2=D.sl 26 (AQ Bw masks)∧s.v 3=D.box [D.int .i64 AP,D.int .i64 AU,D.sl 26 (AQ Bw AV),D.sl 26 (AQ Bw AX)]∧s.v 4=D.box [D.sl 79 (AQ (fun x=>D.sl 87 (Au .i64 .i64 x)) A8),D.sl 3 (AQ (D.int .i64) AR),D.sl 3 (AQ (D.int .i64) A9)]∧s.v 7=D.int .i64 out∧s.v 11=D.own 3 (AQ (D.int .i64) CS)∧s.v 12=D.int .i64 (CS.length:Int)∧s.v 13=D.int .i64 Ll
def N8(AP:Int)(AU:Int)(AV:AY)(AX:AY)(A8:List (List (Int×Int)))(AR:AB)(A9:AB)(masks:AY)(CS:AB)(r:Int)(ex:Ex)(s:St):Prop:=ex= .exit 0∧s.v 7=D.int .i64 r
theorem Yq(AP:Int)(AU:Int)(AV:AY)(AX:AY)(A8:List (List (Int×Int)))(AR:AB)(A9:AB)(masks:AY)(CS:AB){v:Int×Int}{s:St}{r:Int}(h:P7 AP AU AV AX A8 AR A9 masks CS v=some r)(hM:GR AP AU AV AX A8 AR A9 masks CS v.1 v.2 s):Br Y.env A2k (N8 AP AU AV AX A8 AR A9 masks CS r) s:=by
 unfold P7 at h;refine BH (c:=nT) (fun v=>Ii AP AU AV AX A8 AR A9 masks CS v.1 v.2) (fun v s=>GR AP AU AV AX A8 AR A9 masks CS v.1 v.2 s) (N8 AP AU AV AX A8 AR A9 masks CS) ?_ h hM;clear h hM s v r;intro v s o hM h;obtain⟨out,Ll⟩:=v;dsimp only at h hM;unfold Ii at h;unfold GR at hM;obtain⟨m0,m1,m2,m3,m4,m5,m6⟩:=hM;unfold nT;rcases iS h with⟨e2,h⟩|⟨e2,h⟩
 ·obtain⟨e3,h⟩:=ES h;rcases iS h with⟨e4,h⟩|⟨e4,h⟩
  ·obtain⟨af,hl5,h⟩:=Ak h;have c5:=Yp AP AU AV AX A8 AR A9 masks Ll (-1:Int) hl5;obtain⟨e6,h⟩:=ES h;obtain⟨A2Y,hl7,h⟩:=Ak h;try dsimp only at h
   have c7:=Ih out (af.getD 0 default) hl7
   obtain rfl:=Option.some.inj h
   simp (maxDischargeDepth:=9) only [↓AL,AO,↓reduceIte,Nat.reduceEqDiff,Nat.reduceLT,Nat.reduceAdd,Int.reduceNeg,m0,m1,m2,m3,m4,m5,m6,e2,e3.1,e3.2,decide_eq_true e4,c5,e6,c7,GR,En]
  ·obtain rfl:=Option.some.inj h
   simp (maxDischargeDepth:=9) only [↓AL,AO,↓reduceIte,Nat.reduceEqDiff,Nat.reduceLT,Int.reduceNeg,m0,m1,m2,m3,m4,m5,m6,e2,e3.1,e3.2,e4,GR,En]
 ·obtain rfl:=Option.some.inj h
  simp (maxDischargeDepth:=9) only [↓AL,AO,↓reduceIte,Nat.reduceEqDiff,Nat.reduceLT,Int.reduceNeg,m3,m5,m6,e2,GR,N8,K3]
theorem dZ(AP:Int)(AU:Int)(AV:AY)(AX:AY)(A8:List (List (Int×Int)))(AR:AB)(A9:AB)(masks:AY){r:Int}(h:RD AP AU AV AX A8 AR A9 masks=some r):Y.call 51 [D.agg [D.int .i64 AP,D.int .i64 AU,D.sl 26 (AQ Bw AV),D.sl 26 (AQ Bw AX)],D.agg [D.sl 79 (AQ (fun x=>D.sl 87 (Au .i64 .i64 x)) A8),D.sl 3 (AQ (D.int .i64) AR),D.sl 3 (AQ (D.int .i64) A9)],D.sl 26 (AQ Bw masks)] []=some (D.int .i64 r,[]):=by
 refine c51 ?_ rfl;unfold k51;unfold RD at h;obtain⟨CS,hl1,h⟩:=Ak h;have c1:=dM A8 AR A9 hl1;obtain⟨Aa,hl3,h⟩:=Ak h;try dsimp only at h
 simp (maxDischargeDepth:=9) only [↓AL,AO,↓reduceIte,Nat.reduceEqDiff,Nat.reduceLT,Nat.reduceAdd,c1];refine Aw (Yq AP AU AV AX A8 AR A9 masks CS hl3 ?_) ?_
 ·simp (maxDischargeDepth:=9) only [BZ,Ei,↓reduceIte,Nat.reduceEqDiff,Nat.reduceLT,GR]
 ·intro ex3 s3 hX3;unfold N8 at hX3;obtain⟨rfl,n3_0⟩:=hX3
  obtain rfl:=Option.some.inj h
  simp (maxDischargeDepth:=9) only [↓AL,AO,↓reduceIte,Nat.reduceEqDiff,Nat.reduceLT,n3_0]
noncomputable def JO(AP:Int)(AU:Int)(AV:AY)(AX:AY)(A8:List (List (Int×Int)))(AR:AB)(A9:AB):Option (Int×Bool):= (Ru AP AU AV AX A8 AR A9).bind fun xQ=> if xQ=true then (R9 A8 AR A9).bind fun vS=> (TW AP AU AV AX vS).bind fun TN=> (RD AP AU AV AX A8 AR A9 TN).bind fun ABT=> if 1000000000000<ABT then some (0,false) else some (ABT,true) else some (0,false)
abbrev rZ:List Nat:=[11,12,13,14,15,16,17,6,17]
def k29:SC:= .seq (.ops [oX 2 (.box 34 (tK 0)) 0,oX 3 (.box 38 (tK 1)) 0,oX 4 (.assign (iK 0)) 3,oX 5 CY 4]) (.seq (.seq (.ops [oL 7 34 2 34,oL 8 38 3 38,oC 9 45 [(tK 7),(tK 8)] [34,38] 4,oX 10 (.unOp .not 4 (tK 9)) 4]) (.cond (tK 10) (.seq (.ops [oX 4 (.assign (iK 0)) 3,oX 5 CY 4]) .ret) .skip)) (.seq (.draws [(⟨[11,2,2],rZ,[11]⟩,oL 11 34 2 34),(⟨[12,3,3],rZ,[12]⟩,oL 12 38 3 38),(⟨[13,2,2],rZ,[13]⟩,oL 13 34 2 34),(⟨[14,3,3],rZ,[14]⟩,oL 14 38 3 38),(⟨[15,14,3],rZ,[15]⟩,oC 15 50 [(tK 14)] [38] 22),(⟨[16,13,15,2,15],rZ,[16]⟩,oC 16 35 [(tK 13),(tK 15)] [34,22] 22),(⟨[17,11,12,16,2,3,16],rZ,[17]⟩,oC 17 51 [(tK 11),(tK 12),(tK 16)] [34,38,22] 3),(⟨[6,17,17],rZ,[6,17]⟩,oA 6 17 3)]) (.seq (.seq (.ops [oM 18 6 3,oB 19 .gtr 3 (tK 18) (iK 1000000000000) 3 4]) (.cond (tK 19) (.seq (.ops [oX 4 (.assign (iK 0)) 3,oX 5 CY 4]) .ret) .skip)) (.seq (.ops [oM 20 6 3,oA 4 20 3,oX 5 (.assign F7) 4]) .ret))))
theorem ABU:Tryz.f29.body.map (BX lends)=some k29:=by kernel_rfl
theorem AP7:Bj Tryz.f29 2=true:=by kernel_rfl
theorem c29{a l:List D}{r:D×List D}(h:Br Y.env k29 (fin Ap l.length [ResultVar.tmp 4,ResultVar.tmp 5] r) (entry a l))(ha:a.length=2):Y.call 29 a l=some r:=
 AZ (Y:=Y) rfl Tryz.func29 (ha▸AP7) ABU h
theorem Tj(AP:Int)(AU:Int)(AV:AY)(AX:AY)(A8:List (List (Int×Int)))(AR:AB)(A9:AB){r:Int×Bool}(h:JO AP AU AV AX A8 AR A9=some r):Y.call 29 [D.agg [D.int .i64 AP,D.int .i64 AU,D.sl 26 (AQ Bw AV),D.sl 26 (AQ Bw AX)],D.agg [D.sl 79 (AQ (fun x=>D.sl 87 (Au .i64 .i64 x)) A8),D.sl 3 (AQ (D.int .i64) AR),D.sl 3 (AQ (D.int .i64) A9)]] []=some (D.tup [D.int .i64 r.1,D.bool r.2],[]):=by
 refine c29 ?_ rfl;unfold k29;unfold JO at h;obtain⟨xQ,hl1,h⟩:=Ak h;have c1:=Yk AP AU AV AX A8 AR A9 hl1;rcases iS h with⟨e2,h⟩|⟨e2,h⟩
 ·obtain⟨vS,hl3,h⟩:=Ak h;have c3:=dR A8 AR A9 hl3;obtain⟨TN,hl4,h⟩:=Ak h;have c4:=gy AP AU AV AX vS hl4;obtain⟨ABT,hl5,h⟩:=Ak h;have c5:=dZ AP AU AV AX A8 AR A9 TN hl5;rcases iS h with⟨e6,h⟩|⟨e6,h⟩
  ·obtain rfl:=Option.some.inj h
   simp (maxDischargeDepth:=9) only [↓AL,AO,↓reduceIte,Nat.reduceEqDiff,Nat.reduceLT,Nat.reduceAdd,c1,e2,c3,c4,c5,e6]
  ·obtain rfl:=Option.some.inj h
   simp (maxDischargeDepth:=9) only [↓AL,AO,↓reduceIte,Nat.reduceEqDiff,Nat.reduceLT,Nat.reduceAdd,c1,e2,c3,c4,c5,e6]
 ·have e2f:xQ=false:=Jw.mpr e2
  obtain rfl:=Option.some.inj h
  simp (maxDischargeDepth:=9) only [↓AL,AO,↓reduceIte,Nat.reduceEqDiff,Nat.reduceLT,Nat.reduceAdd,c1,e2f]
end Go.Proofs.YtiehjihckndgkaaGreat
