/- Sets of labels of ports: lifted. Conditions: none. -/
import Derived.Test.YtiehjihckndgkaaGreatL6
import Derived.Test.YtiehjihckndgkaaGreatIsP
import Derived.Test.YtiehjihckndgkaaGreatNet
import Derived.Test.YtiehjihckndgkaaGreatNis
import Derived.Test.YtiehjihckndgkaaGreatCon
import Derived.Test.YtiehjihckndgkaaGreatSrt
import Derived.Test.YtiehjihckndgkaaGreatHas
import Derived.Test.YtiehjihckndgkaaGreatCut
import Derived.Test.YtiehjihckndgkaaGreatEdg
import Derived.Test.YtiehjihckndgkaaGreatFst
import Derived.Test.YtiehjihckndgkaaGreatRep
namespace Go.Proofs.YtiehjihckndgkaaGreat
open Go Dv
set_option linter.unusedSimpArgs false
set_option linter.unusedVariables false
set_option maxRecDepth 100000
set_option maxHeartbeats 4000000
noncomputable def Mj(AP:Int)(AU:Int)(AV:AY)(AX:AY)(labels:AB):Option (Bool):= ck (Bv AV)<| ck (labels.length<1099511627776)<| ck (Us AV=true)<| some (AV.contains (Me labels))
def AAk:SC:= .seq (.ops [oX 2 (.box 34 (tK 0)) 0,oX 4 CY 4]) (.seq (.ops [oF 5 34 2 2,oL 6 22 5 22,oM 7 1 26,oC 8 117 [(tK 6),(tK 7)] [22,26] 4,oA 4 8 4]) .ret)
theorem A4d:Tryz.f119.body.map (BX lends)=some AAk:=by kernel_rfl
theorem AI3:Bj Tryz.f119 2=true:=by kernel_rfl
theorem AO8{a l:List D}{r:D×List D}(h:Br Y.env AAk (fin Ap l.length [ResultVar.tmp 4] r) (entry a l))(ha:a.length=2):Y.call 119 a l=some r:=
 AZ (Y:=Y) rfl Tryz.func119 (ha▸AI3) A4d h
theorem UM(AP:Int)(AU:Int)(AV:AY)(AX:AY)(labels:AB){r:Bool}(h:Mj AP AU AV AX labels=some r):Y.call 119 [D.agg [D.int .i64 AP,D.int .i64 AU,D.sl 26 (AQ Bw AV),D.sl 26 (AQ Bw AX)],D.sl 3 (AQ (D.int .i64) labels)] []=some (D.bool r,[]):=by
 refine AO8 ?_ rfl;unfold AAk;unfold Mj at h;obtain⟨e1,e2,e3,h⟩:=Q3 h;have c4:=NG AV labels e1 e2 e3
 obtain rfl:=Option.some.inj h
 simp (maxDischargeDepth:=9) only [↓AL,AO,↓reduceIte,Nat.reduceEqDiff,Nat.reduceLT,Nat.reduceAdd,c4]
def k14:SC:= .seq (.ops [oX 3 (.box 34 (tK 0)) 0,oX 4 (.box 38 (tK 1)) 0,oX 6 KL 22,oX 7 CY 4]) (.seq (.seq (.ops [oL 8 34 3 34,oC 9 39 [(tK 8)] [34] 4,oX 10 (.unOp .not 4 (tK 9)) 4,oM 11 10 4,⟨(some 12),(.load 38 (tK 4)),38,(some (some 11,false))⟩,⟨(some 13),(.call ⟨(.value (.func 40)), #[(tK 12)], #[38]⟩),4,(some (some 11,false))⟩,⟨(some 14),(.unOp .not 4 (tK 13)),4,(some (some 11,false))⟩,oX 15 (.pick (tK 11) F7 (tK 14)) 4,oM 16 15 4,⟨(some 17),(.load 34 (tK 3)),34,(some (some 16,false))⟩,⟨(some 18),(.load 38 (tK 4)),38,(some (some 16,false))⟩,⟨(some 19),(.move (tK 2)),22,(some (some 16,false))⟩,⟨(some 20),(.call ⟨(.value (.func 41)), #[(tK 17),(tK 18),(tK 19)], #[34,38,22]⟩),4,(some (some 16,false))⟩,⟨(some 21),(.unOp .not 4 (tK 20)),4,(some (some 16,false))⟩,oX 22 (.pick (tK 16) F7 (tK 21)) 4]) (.cond (tK 22) (.seq (.ops [oX 6 KL 22,oX 7 CY 4]) .ret) .skip)) (.seq (.ops [oL 23 34 3 34,oL 24 38 4 38,oM 25 2 22,oC 26 42 [(tK 23),(tK 24),(tK 25)] [34,38,22] 32,oE 27 26 0 22,oE 28 26 1 4,oA 6 27 22,oA 7 28 4]) .ret))
theorem AAl:Tryz.f14.body.map (BX lends)=some k14:=by kernel_rfl
theorem AO9:Bj Tryz.f14 3=true:=by kernel_rfl
theorem c14{a l:List D}{r:D×List D}(h:Br Y.env k14 (fin Ap l.length [ResultVar.tmp 6,ResultVar.tmp 7] r) (entry a l))(ha:a.length=3):Y.call 14 a l=some r:=
 AZ (Y:=Y) rfl Tryz.func14 (ha▸AO9) AAl h
noncomputable def Jg(l:AY)(out:AY)(Iq:Int):Option ((AY×Int)⊕(AY)):= if Iq<(l.length:Int)then ck (0≤Iq∧Iq.toNat<l.length)<| (Ku (l.getD Iq.toNat default)).bind fun Uv=> ck (out.length+1<1099511627776)<| some (Sum.inl ((out++[Uv]),IntKind.i64.wrap (Iq+1))) else some (Sum.inr out)
noncomputable def QQ(l:AY)(v:AY×Int):Option (AY):=Fb (fun v=>Jg l v.1 v.2) v
noncomputable def TV(l:AY):Option (AY):= (QQ l ([],0)).bind fun Aa=> some Aa
def mW:SC:= .seq (.ops [oB 9 .lss 3 (tK 8) (tK 7) 3 0]) (.seq (.cond (tK 9) .skip (.exit 0)) (.seq (.block 1 (.seq (.ops [oI 10 22 6 8,oL 11 26 10 26,oA 5 11 26]) (.ops [oM 12 3 22,oM 13 5 26,oC 14 92 [(tK 13)] [26] 26,oX 15 (.buildSlice 22 1 #[(0,(tK 14))]) 22,oX 16 (.call ⟨(.builtin .append), #[(tK 12),(tK 15)], #[22,22]⟩) 22,oA 3 16 22]))) (.ops [oB 17 .add 3 (tK 8) (iK 1) 3 3,oM 8 17 3])))
def A2L:SC:= .loop mW
def k60:SC:= .seq (.ops [oX 2 KL 22]) (.seq (.ops [oX 3 KL 22]) (.seq (.seq (.ops [oM 6 0 22,oN 7 6 22,oX 8 (.move (iK 0)) 3]) (.block 0 A2L)) (.seq (.ops [oM 18 3 22,oA 2 18 22]) .ret)))
theorem AAm:Tryz.f60.body.map (BX lends)=some k60:=by kernel_rfl
theorem AOB:Bj Tryz.f60 1=true:=by kernel_rfl
theorem c60{a l:List D}{r:D×List D}(h:Br Y.env k60 (fin Ap l.length [ResultVar.tmp 2] r) (entry a l))(ha:a.length=1):Y.call 60 a l=some r:=
 AZ (Y:=Y) rfl Tryz.func60 (ha▸AOB) AAm h
def Jh(l:AY)(out:AY)(Iq:Int)(s:St):Prop:=s.v 3=D.own 26 (AQ Qw out)∧s.v 6=D.sl 26 (AQ Bw l)∧s.v 7=D.int .i64 (l.length:Int)∧s.v 8=D.int .i64 Iq
def NR(l:AY)(r:AY)(ex:Ex)(s:St):Prop:=ex= .exit 0∧s.v 3=D.own 26 (AQ Qw r)
theorem bW(l:AY){v:AY×Int}{s:St}{r:AY}(h:QQ l v=some r)(hM:Jh l v.1 v.2 s):Br Y.env A2L (NR l r) s:=by
 unfold QQ at h;refine BH (c:=mW) (fun v=>Jg l v.1 v.2) (fun v s=>Jh l v.1 v.2 s) (NR l) ?_ h hM;clear h hM s v r;intro v s o hM h;obtain⟨out,Iq⟩:=v;dsimp only at h hM;unfold Jg at h;unfold Jh at hM;obtain⟨m0,m1,m2,m3⟩:=hM;unfold mW;rcases iS h with⟨e1,h⟩|⟨e1,h⟩
 ·obtain⟨e2,h⟩:=ES h;obtain⟨Uv,hl3,h⟩:=Ak h;have c3:=Iw (l.getD Iq.toNat default) hl3;obtain⟨e4,h⟩:=ES h
  obtain rfl:=Option.some.inj h
  simp (maxDischargeDepth:=9) only [↓AL,AO,↓reduceIte,Nat.reduceEqDiff,Nat.reduceLT,Nat.reduceLeDiff,Nat.reduceAdd,m0,m1,m2,m3,e1,e2.1,e2.2,c3,e4,Jh,En]
 ·obtain rfl:=Option.some.inj h
  simp (maxDischargeDepth:=9) only [↓AL,AO,↓reduceIte,Nat.reduceEqDiff,Nat.reduceLT,m0,m2,m3,e1,Jh,NR,K3]
theorem gu(l:AY){r:AY}(h:TV l=some r):Y.call 60 [D.sl 26 (AQ Bw l)] []=some (D.own 26 (AQ Qw r),[]):=by
 refine c60 ?_ rfl;unfold k60;unfold TV at h;obtain⟨Aa,hl2,h⟩:=Ak h;try dsimp only at h
 simp (maxDischargeDepth:=9) only [↓AL,AO,↓reduceIte,Nat.reduceEqDiff,Nat.reduceLT];refine Aw (bW l hl2 ?_) ?_
 ·simp (maxDischargeDepth:=9) only [BZ,↓reduceIte,Nat.reduceEqDiff,Jh]<;>(repeat' apply A7)<;>first|rfl|exact⟨_,rfl⟩|exact⟨_,_,rfl⟩|simp [AQ,CR]
 ·intro ex2 s2 hX2;unfold NR at hX2;obtain⟨rfl,n2_0⟩:=hX2
  obtain rfl:=Option.some.inj h
  simp (maxDischargeDepth:=9) only [↓AL,AO,↓reduceIte,Nat.reduceEqDiff,Nat.reduceLT,n2_0]
noncomputable def Ji(AP:Int)(AU:Int)(AV:AY)(AX:AY)(CS:AY)(out:AY)(Bu:Int)(out1:AY)(DD:Int):Option ((AY×Int)⊕(AY)):= if DD<((out.getD Bu.toNat default).length:Int)then ck (Bu.toNat<out1.length)<| ck (0≤DD∧DD.toNat<(out1.getD Bu.toNat default).length)<| if((out1.getD Bu.toNat default).getD DD.toNat default)<0 then ck (0≤Bu∧Bu.toNat<out1.length)<| ck (¬(IntKind.u64.wrap AP)<0)<| some (Sum.inl ((out1.set Bu.toNat ((out1.getD Bu.toNat default).set DD.toNat (IntKind.i64.wrap ((IntKind.i64.wrap (1*2 ^ (min (IntKind.u64.wrap AP).toNat (IntKind.i64.bits))))-1)))),IntKind.i64.wrap (DD+1))) else ck (0≤Bu∧Bu.toNat<out1.length)<| ck (¬(IntKind.u64.wrap ((out1.getD Bu.toNat default).getD DD.toNat default))<0)<| some (Sum.inl ((out1.set Bu.toNat ((out1.getD Bu.toNat default).set DD.toNat (IntKind.i64.wrap (1*2 ^ (min (IntKind.u64.wrap ((out1.getD Bu.toNat default).getD DD.toNat default)).toNat (IntKind.i64.bits)))))),IntKind.i64.wrap (DD+1))) else some (Sum.inr out1)
noncomputable def Nz(AP:Int)(AU:Int)(AV:AY)(AX:AY)(CS:AY)(out:AY)(Bu:Int)(v:AY×Int):Option (AY):=Fb (fun v=>Ji AP AU AV AX CS out Bu v.1 v.2) v
noncomputable def Jj(AP:Int)(AU:Int)(AV:AY)(AX:AY)(CS:AY)(out:AY)(Bu:Int):Option ((AY×Int)⊕(AY)):= if Bu<(CS.length:Int)then ck (0≤Bu∧Bu.toNat<out.length)<| (Nz AP AU AV AX CS out Bu (out,0)).bind fun Aa=> some (Sum.inl (Aa,IntKind.i64.wrap (Bu+1))) else some (Sum.inr out)
noncomputable def O0(AP:Int)(AU:Int)(AV:AY)(AX:AY)(CS:AY)(v:AY×Int):Option (AY):=Fb (fun v=>Jj AP AU AV AX CS v.1 v.2) v
noncomputable def TW(AP:Int)(AU:Int)(AV:AY)(AX:AY)(l:AY):Option (AY):= (TV l).bind fun CS=> (O0 AP AU AV AX CS (CS,0)).bind fun BA=> some BA
abbrev Yd:List Nat:=[28,29,30,31,32,33,34,35,36,37,38,38,37,5,37]
def mX:SC:= .seq (.ops [oB 22 .lss 3 (tK 21) (tK 20) 3 0]) (.seq (.cond (tK 22) .skip (.exit 2)) (.seq (.block 3 (.seq (.ops [oM 23 21 3,oI 24 26 19 21,oL 25 3 24 3,oA 8 23 3,oA 9 25 3]) (.seq (.ops [oM 26 9 3,oB 27 .lss 3 (tK 26) (iK 0) 3 4]) (.cond (tK 27) (.draws [(⟨[28,5,5],Yd,[28]⟩,oM 28 5 22),(⟨[29,6,6],Yd,[29]⟩,oM 29 6 3),(⟨[30,28,29,5,6],Yd,[30]⟩,oI 30 22 28 29),(⟨[31,30,5],Yd,[31]⟩,oL 31 26 30 26),(⟨[32,8,8],Yd,[32]⟩,oM 32 8 3),(⟨[33,2,2],Yd,[33]⟩,oF 33 34 2 0),(⟨[34,33,2],Yd,[34]⟩,oL 34 3 33 3),(⟨[35,34,2],Yd,[35]⟩,oX 35 (.convert 3 82 (tK 34)) 82),(⟨[36,35,35],Yd,[36]⟩,oB 36 .shl 3 (iK 1) (tK 35) 82 3),(⟨[37,36,36],Yd,[37]⟩,oB 37 .sub 3 (tK 36) (iK 1) 3 3),(⟨[38,31,32,5,8],Yd,[38]⟩,oI 38 26 31 32),(⟨[38,37,5,37],Yd,[38,37,5,37]⟩,oS 3 38 37)]) (.ops [oM 39 5 22,oM 40 6 3,oI 41 22 39 40,oL 42 26 41 26,oM 43 8 3,oM 44 9 3,oX 45 (.convert 3 82 (tK 44)) 82,oB 46 .shl 3 (iK 1) (tK 45) 82 3,oI 47 26 42 43,oS 3 47 46]))))) (.ops [oB 48 .add 3 (tK 21) (iK 1) 3 3,oM 21 48 3])))
def A2M:SC:= .loop mX
def mY:SC:= .seq (.ops [oB 15 .lss 3 (tK 14) (tK 13) 3 0]) (.seq (.cond (tK 15) .skip (.exit 0)) (.seq (.block 1 (.seq (.ops [oM 16 14 3,oI 17 22 12 14,oL 18 26 17 26,oA 6 16 3,oA 7 18 26]) (.seq (.ops [oM 19 7 26,oN 20 19 26,oX 21 (.move (iK 0)) 3]) (.block 2 A2M)))) (.ops [oB 49 .add 3 (tK 14) (iK 1) 3 3,oM 14 49 3])))
def A2N:SC:= .loop mY
def k35:SC:= .seq (.ops [oX 2 (.box 34 (tK 0)) 0,oX 4 KL 22]) (.seq (.ops [oM 10 1 22,oC 11 60 [(tK 10)] [22] 22,oA 5 11 22]) (.seq (.seq (.ops [oM 12 5 22,oN 13 12 22,oX 14 (.move (iK 0)) 3]) (.block 0 A2N)) (.seq (.ops [oM 50 5 22,oA 4 50 22]) .ret)))
theorem AAn:Tryz.f35.body.map (BX lends)=some k35:=by kernel_rfl
theorem AOD:Bj Tryz.f35 2=true:=by kernel_rfl
theorem c35{a l:List D}{r:D×List D}(h:Br Y.env k35 (fin Ap l.length [ResultVar.tmp 4] r) (entry a l))(ha:a.length=2):Y.call 35 a l=some r:=
 AZ (Y:=Y) rfl Tryz.func35 (ha▸AOD) AAn h
def Hg(AP:Int)(AU:Int)(AV:AY)(AX:AY)(CS:AY)(out:AY)(Bu:Int)(out1:AY)(DD:Int)(s:St):Prop:=s.v 2=D.box [D.int .i64 AP,D.int .i64 AU,D.sl 26 (AQ Bw AV),D.sl 26 (AQ Bw AX)]∧s.v 5=D.own 26 (AQ Qw out1)∧s.v 6=D.int .i64 Bu∧(∃w_,s.v 12=D.vw [5] (s.k 5) w_)∧s.v 13=D.int .i64 (CS.length:Int)∧s.v 14=D.int .i64 Bu∧s.v 19=D.vw [5,Bu.toNat] (s.k 5) (s.m 5)∧s.v 20=D.int .i64 ((out.getD Bu.toNat default).length:Int)∧s.v 21=D.int .i64 DD
def NS(AP:Int)(AU:Int)(AV:AY)(AX:AY)(CS:AY)(out:AY)(Bu:Int)(r:AY)(ex:Ex)(s:St):Prop:=ex= .exit 2∧s.v 2=D.box [D.int .i64 AP,D.int .i64 AU,D.sl 26 (AQ Bw AV),D.sl 26 (AQ Bw AX)]∧s.v 5=D.own 26 (AQ Qw r)∧(∃w_,s.v 12=D.vw [5] (s.k 5) w_)∧s.v 13=D.int .i64 (CS.length:Int)∧s.v 14=D.int .i64 Bu
theorem bX(AP:Int)(AU:Int)(AV:AY)(AX:AY)(CS:AY)(out:AY)(Bu:Int){v:AY×Int}{s:St}{r:AY}(h:Nz AP AU AV AX CS out Bu v=some r)(hM:Hg AP AU AV AX CS out Bu v.1 v.2 s):Br Y.env A2M (NS AP AU AV AX CS out Bu r) s:=by
 unfold Nz at h;refine BH (c:=mX) (fun v=>Ji AP AU AV AX CS out Bu v.1 v.2) (fun v s=>Hg AP AU AV AX CS out Bu v.1 v.2 s) (NS AP AU AV AX CS out Bu) ?_ h hM;clear h hM s v r;intro v s o hM h;obtain⟨out1,DD⟩:=v;dsimp only at h hM;unfold Ji at h;unfold Hg at hM;obtain⟨m0,m1,m2,⟨w3_,m3⟩,m4,m5,m6,m7,m8⟩:=hM;unfold mX;rcases iS h with⟨e4,h⟩|⟨e4,h⟩
 ·obtain⟨e5,e6,h⟩:=GX h;rcases iS h with⟨e7,h⟩|⟨e7,h⟩
  ·obtain⟨e8,e9,h⟩:=GX h
   obtain rfl:=Option.some.inj h
   simp (maxDischargeDepth:=9) only [↓AL,AO,↓reduceIte,Nat.reduceEqDiff,Nat.reduceLT,Nat.reduceBEq,m0,m1,m2,m3,m4,m5,m6,m7,m8,e4,e5,e6.1,e6.2,e7,e8.1,e9,Hg,En]<;>(repeat' apply A7)<;>first|rfl|exact⟨_,rfl⟩|exact⟨_,_,rfl⟩|simp [AQ,CR]
  ·obtain⟨e8,e9,h⟩:=GX h
   obtain rfl:=Option.some.inj h
   simp (maxDischargeDepth:=9) only [↓AL,AO,↓reduceIte,Nat.reduceEqDiff,Nat.reduceLT,m0,m1,m2,m3,m4,m5,m6,m7,m8,e4,e5,e6.1,e6.2,e7,e8.1,e9,Hg,En]<;>(repeat' apply A7)<;>first|rfl|exact⟨_,rfl⟩|exact⟨_,_,rfl⟩|simp [AQ,CR]
 ·obtain rfl:=Option.some.inj h
  simp (maxDischargeDepth:=9) only [↓AL,AO,↓reduceIte,Nat.reduceEqDiff,Nat.reduceLT,m0,m1,m3,m4,m5,m7,m8,e4,Hg,NS,K3]<;>(repeat' apply A7)<;>first|rfl|exact⟨_,rfl⟩|exact⟨_,_,rfl⟩|simp [AQ,CR]
def Jk(AP:Int)(AU:Int)(AV:AY)(AX:AY)(CS:AY)(out:AY)(Bu:Int)(s:St):Prop:=s.v 2=D.box [D.int .i64 AP,D.int .i64 AU,D.sl 26 (AQ Bw AV),D.sl 26 (AQ Bw AX)]∧s.v 5=D.own 26 (AQ Qw out)∧(∃w_,s.v 12=D.vw [5] (s.k 5) w_)∧s.v 13=D.int .i64 (CS.length:Int)∧s.v 14=D.int .i64 Bu
def NT(AP:Int)(AU:Int)(AV:AY)(AX:AY)(CS:AY)(r:AY)(ex:Ex)(s:St):Prop:=ex= .exit 0∧s.v 5=D.own 26 (AQ Qw r)
theorem bY(AP:Int)(AU:Int)(AV:AY)(AX:AY)(CS:AY){v:AY×Int}{s:St}{r:AY}(h:O0 AP AU AV AX CS v=some r)(hM:Jk AP AU AV AX CS v.1 v.2 s):Br Y.env A2N (NT AP AU AV AX CS r) s:=by
 unfold O0 at h;refine BH (c:=mY) (fun v=>Jj AP AU AV AX CS v.1 v.2) (fun v s=>Jk AP AU AV AX CS v.1 v.2 s) (NT AP AU AV AX CS) ?_ h hM;clear h hM s v r;intro v s o hM h;obtain⟨out,Bu⟩:=v;dsimp only at h hM;unfold Jj at h;unfold Jk at hM;obtain⟨m0,m1,⟨w2_,m2⟩,m3,m4⟩:=hM;unfold mY;rcases iS h with⟨e2,h⟩|⟨e2,h⟩
 ·obtain⟨e3,h⟩:=ES h;obtain⟨Aa,hl5,h⟩:=Ak h;try dsimp only at h
  simp (maxDischargeDepth:=9) only [↓AL,AO,↓reduceIte,Nat.reduceEqDiff,Nat.reduceLT,m1,m2,m3,m4,e2,e3.1,e3.2];refine Aw (bX AP AU AV AX CS out Bu hl5 ?_) ?_
  ·simp (maxDischargeDepth:=9) only [BZ,↓reduceIte,Nat.reduceEqDiff,m0,m1,m2,m3,m4,Hg]<;>(repeat' apply A7)<;>first|rfl|exact⟨_,rfl⟩|exact⟨_,_,rfl⟩|simp [AQ,CR]
  ·intro ex5 s5 hX5;unfold NS at hX5;obtain⟨rfl,n5_0,n5_1,⟨w2_,n5_2⟩,n5_3,n5_4⟩:=hX5
   obtain rfl:=Option.some.inj h
   simp (maxDischargeDepth:=9) only [↓AL,AO,↓reduceIte,Nat.reduceEqDiff,Nat.reduceLT,n5_0,n5_1,n5_2,n5_3,n5_4,Jk,En]<;>(repeat' apply A7)<;>first|rfl|exact⟨_,rfl⟩|exact⟨_,_,rfl⟩|simp [AQ,CR]
 ·obtain rfl:=Option.some.inj h
  simp (maxDischargeDepth:=9) only [↓AL,AO,↓reduceIte,Nat.reduceEqDiff,Nat.reduceLT,m1,m3,m4,e2,Jk,NT,K3]
theorem gy(AP:Int)(AU:Int)(AV:AY)(AX:AY)(l:AY){r:AY}(h:TW AP AU AV AX l=some r):Y.call 35 [D.agg [D.int .i64 AP,D.int .i64 AU,D.sl 26 (AQ Bw AV),D.sl 26 (AQ Bw AX)],D.sl 26 (AQ Bw l)] []=some (D.own 26 (AQ Qw r),[]):=by
 refine c35 ?_ rfl;unfold k35;unfold TW at h;obtain⟨CS,hl1,h⟩:=Ak h;have c1:=gu l hl1;obtain⟨BA,hl3,h⟩:=Ak h;try dsimp only at h
 simp (maxDischargeDepth:=9) only [↓AL,AO,↓reduceIte,Nat.reduceEqDiff,Nat.reduceLT,Nat.reduceAdd,c1];refine Aw (bY AP AU AV AX CS hl3 ?_) ?_
 ·simp (maxDischargeDepth:=9) only [BZ,↓reduceIte,Nat.reduceEqDiff,Nat.reduceAdd,Jk]<;>(repeat' apply A7)<;>first|rfl|exact⟨_,rfl⟩|exact⟨_,_,rfl⟩|simp [AQ,CR]
 ·intro ex3 s3 hX3;unfold NT at hX3;obtain⟨rfl,n3_0⟩:=hX3
  obtain rfl:=Option.some.inj h
  simp (maxDischargeDepth:=9) only [↓AL,AO,↓reduceIte,Nat.reduceEqDiff,Nat.reduceLT,n3_0]
noncomputable def L9(n_1:Int)(i1:Int):Option ((Int×Int)⊕(Int)):= if 0<i1 then some (Sum.inl (IntKind.i64.wrap (n_1.tdiv 2),IntKind.i64.wrap (i1-1))) else some (Sum.inr n_1)
noncomputable def Pi(v:Int×Int):Option (Int):=Fb (fun v=>L9 v.1 v.2) v
noncomputable def Z7(n_:Int)(i:Int):Option (Int):= (Pi (n_,i)).bind fun Aa=> some (Aa.tmod 2)
def mZ:SC:= .seq (.seq (.ops [oM 5 1 3,oB 6 .gtr 3 (tK 5) (iK 0) 3 4]) (.cond (tK 6) .skip (.exit 0))) (.seq (.block 1 (.ops [oM 9 0 3,oB 10 .quo 3 (tK 9) (iK 2) 3 3,oA 0 10 3])) (.ops [oM 7 1 3,oB 8 .sub 3 (tK 7) (iK 1) 3 3,oA 1 8 3]))
def A2O:SC:= .loop mZ
def k93:SC:= .seq (.ops [oX 4 (.assign (iK 0)) 3]) (.seq (.block 0 A2O) (.seq (.ops [oM 11 0 3,oB 12 .rem 3 (tK 11) (iK 2) 3 3,oA 4 12 3]) .ret))
theorem AAo:Tryz.f93.body.map (BX lends)=some k93:=by kernel_rfl
theorem AOF:Bj Tryz.f93 2=true:=by kernel_rfl
theorem c93{a l:List D}{r:D×List D}(h:Br Y.env k93 (fin Ap l.length [ResultVar.tmp 4] r) (entry a l))(ha:a.length=2):Y.call 93 a l=some r:=
 AZ (Y:=Y) rfl Tryz.func93 (ha▸AOF) AAo h
def LA(n_1:Int)(i1:Int)(s:St):Prop:=s.v 0=D.int .i64 n_1∧s.v 1=D.int .i64 i1
def Oc(r:Int)(ex:Ex)(s:St):Prop:=ex= .exit 0∧s.v 0=D.int .i64 r
theorem gz{v:Int×Int}{s:St}{r:Int}(h:Pi v=some r)(hM:LA v.1 v.2 s):Br Y.env A2O (Oc r) s:=by
 unfold Pi at h;refine BH (c:=mZ) (fun v=>L9 v.1 v.2) (fun v s=>LA v.1 v.2 s) (Oc) ?_ h hM;clear h hM s v r;intro v s o hM h;obtain⟨n_1,i1⟩:=v;dsimp only at h hM;unfold L9 at h;unfold LA at hM;obtain⟨m0,m1⟩:=hM;unfold mZ;rcases iS h with⟨e1,h⟩|⟨e1,h⟩
 ·obtain rfl:=Option.some.inj h
  simp (maxDischargeDepth:=9) only [↓AL,AO,↓reduceIte,Nat.reduceEqDiff,Nat.reduceLT,Int.reduceEq,m0,m1,e1,LA,En]
 ·obtain rfl:=Option.some.inj h
  simp (maxDischargeDepth:=9) only [↓AL,AO,↓reduceIte,Nat.reduceEqDiff,Nat.reduceLT,m0,m1,e1,LA,Oc,K3]
theorem ma(n_:Int)(i:Int){r:Int}(h:Z7 n_ i=some r):Y.call 93 [D.int .i64 n_,D.int .i64 i] []=some (D.int .i64 r,[]):=by
 refine c93 ?_ rfl;unfold k93;unfold Z7 at h;obtain⟨Aa,hl2,h⟩:=Ak h;try dsimp only at h
 simp (maxDischargeDepth:=9) only [↓AL,AO,↓reduceIte,Nat.reduceEqDiff,Nat.reduceLT];refine Aw (gz hl2 ?_) ?_
 ·simp (maxDischargeDepth:=9) only [BZ,Ei,↓reduceIte,Nat.reduceEqDiff,Nat.reduceLT,LA]
 ·intro ex2 s2 hX2;unfold Oc at hX2;obtain⟨rfl,n2_0⟩:=hX2
  obtain rfl:=Option.some.inj h
  simp (maxDischargeDepth:=9) only [↓AL,AO,↓reduceIte,Nat.reduceEqDiff,Nat.reduceLT,Int.reduceEq,n2_0]
noncomputable def TY(mask:Int)(a:Int):Option (Bool):= (Z7 mask a).bind fun r7_=> some (decide (r7_=1))
def k61:SC:= .seq (.ops [oX 4 CY 4]) (.seq (.ops [oM 5 0 3,oM 6 1 3,oC 7 93 [(tK 5),(tK 6)] [3,3] 3,oB 8 .eql 3 (tK 7) (iK 1) 3 4,oA 4 8 4]) .ret)
theorem AAp:Tryz.f61.body.map (BX lends)=some k61:=by kernel_rfl
theorem AOH:Bj Tryz.f61 2=true:=by kernel_rfl
theorem c61{a l:List D}{r:D×List D}(h:Br Y.env k61 (fin Ap l.length [ResultVar.tmp 4] r) (entry a l))(ha:a.length=2):Y.call 61 a l=some r:=
 AZ (Y:=Y) rfl Tryz.func61 (ha▸AOH) AAp h
theorem Xz(mask:Int)(a:Int){r:Bool}(h:TY mask a=some r):Y.call 61 [D.int .i64 mask,D.int .i64 a] []=some (D.bool r,[]):=by
 refine c61 ?_ rfl;unfold k61;unfold TY at h;obtain⟨r7_,hl1,h⟩:=Ak h;try dsimp only at h
 have c1:=ma mask a hl1
 obtain rfl:=Option.some.inj h
 simp (maxDischargeDepth:=9) only [↓AL,AO,↓reduceIte,Nat.reduceEqDiff,Nat.reduceLT,Nat.reduceAdd,c1]
def A4e:SC:= .seq (.ops [oB 25 .lss 3 (tK 24) (tK 23) 3 0]) (.seq (.cond (tK 25) .skip (.exit 0)) (.seq (.block 1 (.seq (.ops [oI 26 22 22 24,oL 27 26 26 26,oA 10 27 26]) (.seq (.ops [oM 28 10 26,oC 29 36 [(tK 28),(iK 0)] [26,3] 4]) (.cond (tK 29) (.seq (.ops [oX 6 KL 22,oX 7 CY 4]) .ret) .skip)))) (.ops [oB 30 .add 3 (tK 24) (iK 1) 3 3,oM 24 30 3])))
def AAq:SC:= .loop A4e
abbrev wD:List Nat:=[16,17,18,19,20,21,8,21,21]
def k10:SC:= .seq (.ops [oX 3 (.box 34 (tK 0)) 0,oX 4 (.box 38 (tK 1)) 0,oX 6 KL 22,oX 7 CY 4]) (.seq (.seq (.ops [oL 11 34 3 34,oL 12 38 4 38,oM 13 2 22,oC 14 33 [(tK 11),(tK 12),(tK 13)] [34,38,22] 4,oX 15 (.unOp .not 4 (tK 14)) 4]) (.cond (tK 15) (.seq (.ops [oX 6 KL 22,oX 7 CY 4]) .ret) .skip)) (.seq (.draws [(⟨[16,3,3],wD,[16]⟩,oL 16 34 3 34),(⟨[17,4,4],wD,[17]⟩,oL 17 38 4 38),(⟨[18,3,3],wD,[18]⟩,oL 18 34 3 34),(⟨[19,2,2],wD,[19]⟩,oM 19 2 22),(⟨[20,18,19,3,2],wD,[20]⟩,oC 20 35 [(tK 18),(tK 19)] [34,22] 22),(⟨[21,16,17,20,3,4,20],wD,[21]⟩,oC 21 34 [(tK 16),(tK 17),(tK 20)] [34,38,22] 22),(⟨[8,21,21],wD,[8,21,21]⟩,oA 8 21 22)]) (.seq (.seq (.ops [oM 22 8 22,oN 23 22 22,oX 24 (.move (iK 0)) 3]) (.block 0 AAq)) (.seq (.ops [oM 31 8 22,oA 6 31 22,oX 7 (.assign F7) 4]) .ret))))
theorem AAr:Tryz.f10.body.map (BX lends)=some k10:=by kernel_rfl
theorem AOI:Bj Tryz.f10 3=true:=by kernel_rfl
theorem jP{a l:List D}{r:D×List D}(h:Br Y.env k10 (fin Ap l.length [ResultVar.tmp 6,ResultVar.tmp 7] r) (entry a l))(ha:a.length=3):Y.call 10 a l=some r:=
 AZ (Y:=Y) rfl Tryz.func10 (ha▸AOI) AAr h
end Go.Proofs.YtiehjihckndgkaaGreat
