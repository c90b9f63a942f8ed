/- Distances and coverings, lifted. Conditions: none. -/
import Derived.Test.YtiehjihckndgkaaGreatL6
import Derived.Test.YtiehjihckndgkaaGreatNis
import Derived.Test.YtiehjihckndgkaaGreatCon
import Derived.Test.YtiehjihckndgkaaGreatRep
namespace Go.Proofs.YtiehjihckndgkaaGreat
open Go Dv
set_option linter.unusedSimpArgs false
set_option linter.unusedVariables false
set_option maxRecDepth 100000
set_option maxHeartbeats 4000000
noncomputable def EI(A8:List (List (Int×Int)))(AR:AB)(A9:AB)(queue:AB)(out1:AB)(queue1:AB)(XJ:Int):Option ((AB×AB×Int)⊕(AB×AB)):= if XJ<((A8.getD ((queue.getD 0 default).toNat) default).length:Int)then ck (0≤XJ∧XJ.toNat<(A8.getD ((queue.getD 0 default).toNat) default).length)<| ck (0≤(BP (A8.getD ((queue.getD 0 default).toNat) default) XJ.toNat)∧(BP (A8.getD ((queue.getD 0 default).toNat) default) XJ.toNat).toNat<out1.length)<| if(out1.getD ((BP (A8.getD ((queue.getD 0 default).toNat) default) XJ.toNat).toNat) default)<0 then ck (0≤(queue.getD 0 default)∧(queue.getD 0 default).toNat<out1.length)<| ck (queue1.length+1<1099511627776)<| some (Sum.inl ((out1.set ((BP (A8.getD ((queue.getD 0 default).toNat) default) XJ.toNat).toNat) (IntKind.i64.wrap ((out1.getD ((queue.getD 0 default).toNat) default)+1))),(queue1++[(BP (A8.getD ((queue.getD 0 default).toNat) default) XJ.toNat)]),IntKind.i64.wrap (XJ+1))) else some (Sum.inl (out1,queue1,IntKind.i64.wrap (XJ+1))) else some (Sum.inr (out1,queue1))
noncomputable def J5(A8:List (List (Int×Int)))(AR:AB)(A9:AB)(queue:AB)(v:AB×AB×Int):Option (AB×AB):=Fb (fun v=>EI A8 AR A9 queue v.1 v.2.1 v.2.2) v
noncomputable def EJ(A8:List (List (Int×Int)))(AR:AB)(A9:AB)(out:AB)(queue:AB):Option ((AB×AB)⊕(AB)):= if 0<(queue.length:Int)then ck (0<queue.length)<| ck (1≤queue.length)<| ck (0≤(queue.getD 0 default)∧(queue.getD 0 default).toNat<A8.length)<| (J5 A8 AR A9 queue (out,(queue.drop 1),0)).bind fun Aa=> some (Sum.inl (Aa.1,Aa.2)) else some (Sum.inr out)
noncomputable def J6(A8:List (List (Int×Int)))(AR:AB)(A9:AB)(v:AB×AB):Option (AB):=Fb (fun v=>EJ A8 AR A9 v.1 v.2) v
noncomputable def JI(A8:List (List (Int×Int)))(AR:AB)(A9:AB)(v_:Int):Option (AB):= (Ch [(-1)] (A8.length:Int)).bind fun Uv=> ck (0≤v_∧v_.toNat<Uv.length)<| (J6 A8 AR A9 ((Uv.set v_.toNat 0),[v_])).bind fun BA=> some BA
abbrev iA:List Nat:=[44,45,46,47,48,49,50,51,52,52,51,5,51]
def mf:SC:= .seq (.ops [oB 35 .lss 3 (tK 34) (tK 33) 3 0]) (.seq (.cond (tK 35) .skip (.exit 2)) (.seq (.block 3 (.seq (.ops [oI 36 79 32 34,oL 37 87 36 87,oX 9 (.alloc 87) 0,oS 87 9 37]) (.seq (.ops [oM 38 5 26,oF 39 87 9 0,oL 40 3 39 3,oI 41 26 38 40,oL 42 3 41 3,oB 43 .lss 3 (tK 42) (iK 0) 3 4]) (.cond (tK 43) (.seq (.draws [(⟨[44,5,5],iA,[44]⟩,oM 44 5 26),(⟨[45,9,9],iA,[45]⟩,oF 45 87 9 0),(⟨[46,45,9],iA,[46]⟩,oL 46 3 45 3),(⟨[47,5,5],iA,[47]⟩,oM 47 5 26),(⟨[48,7,7],iA,[48]⟩,oM 48 7 3),(⟨[49,47,48,5,7],iA,[49]⟩,oI 49 26 47 48),(⟨[50,49,5],iA,[50]⟩,oL 50 3 49 3),(⟨[51,50,5],iA,[51]⟩,oB 51 .add 3 (tK 50) (iK 1) 3 3),(⟨[52,44,46,5,9],iA,[52]⟩,oI 52 26 44 46),(⟨[52,51,5,51],iA,[52,51,5,51]⟩,oS 3 52 51)]) (.ops [oM 53 6 26,oF 54 87 9 0,oL 55 3 54 3,oX 56 (.buildSlice 26 1 #[(0,(tK 55))]) 26,oX 57 (.call ⟨(.builtin .append), #[(tK 53),(tK 56)], #[26,26]⟩) 26,oA 6 57 26])) .skip)))) (.ops [oB 58 .add 3 (tK 34) (iK 1) 3 3,oM 34 58 3])))
def A2P:SC:= .loop mf
def mg:SC:= .seq (.seq (.ops [oM 20 6 26,oN 21 20 26,oB 22 .gtr 3 (tK 21) (iK 0) 3 4]) (.cond (tK 22) .skip (.exit 0))) (.block 1 (.seq (.ops [oM 23 6 26,oX 24 (.indexAddr 26 (tK 23) (iK 0)) 0,oL 25 3 24 3,oA 7 25 3]) (.seq (.ops [oM 26 6 26,oX 27 (.slice 26 (tK 26) (some (iK 1)) none none) 900005,oA 6 27 26]) (.seq (.ops [oF 28 38 2 0,oL 29 36 28 36,oM 30 7 3,oI 31 36 29 30,oL 32 79 31 79,oN 33 32 79,oX 34 (.move (iK 0)) 3]) (.block 2 A2P)))))
def A2Q:SC:= .loop mg
def k87:SC:= .seq (.ops [oX 2 (.box 38 (tK 0)) 0,oX 4 KL 26]) (.seq (.ops [oX 10 (.buildSlice 26 1 #[(0,vH)]) 26,oF 11 38 2 0,oL 12 36 11 36,oN 13 12 36,oC 14 81 [(tK 10),(tK 13)] [26,3] 26,oA 5 14 26]) (.seq (.ops [oM 15 5 26,oM 16 1 3,oI 17 26 15 16,⟨none,(.store 3 (tK 17) (iK 0)),0,none⟩]) (.seq (.ops [oM 18 1 3,oX 19 (.buildSlice 26 1 #[(0,(tK 18))]) 26,oA 6 19 26]) (.seq (.block 0 A2Q) (.seq (.ops [oM 59 5 26,oA 4 59 26]) .ret)))))
theorem AAs:Tryz.f87.body.map (BX lends)=some k87:=by kernel_rfl
theorem AOK:Bj Tryz.f87 2=true:=by kernel_rfl
theorem c87{a l:List D}{r:D×List D}(h:Br Y.env k87 (fin Ap l.length [ResultVar.tmp 4] r) (entry a l))(ha:a.length=2):Y.call 87 a l=some r:=
 AZ (Y:=Y) rfl Tryz.func87 (ha▸AOK) AAs h
def DZ(A8:List (List (Int×Int)))(AR:AB)(A9:AB)(queue:AB)(out1:AB)(queue1:AB)(XJ:Int)(s:St):Prop:=s.v 2=D.box [D.sl 79 (AQ (fun x=>D.sl 87 (Au .i64 .i64 x)) A8),D.sl 3 (AQ (D.int .i64) AR),D.sl 3 (AQ (D.int .i64) A9)]∧s.v 5=D.own 3 (AQ (D.int .i64) out1)∧s.v 6=D.own 3 (AQ (D.int .i64) queue1)∧s.v 7=D.int .i64 (queue.getD 0 default)∧s.v 32=D.sl 87 (Au .i64 .i64 (A8.getD ((queue.getD 0 default).toNat) default))∧s.v 33=D.int .i64 ((A8.getD ((queue.getD 0 default).toNat) default).length:Int)∧s.v 34=D.int .i64 XJ
def Gz(A8:List (List (Int×Int)))(AR:AB)(A9:AB)(queue:AB)(r:AB×AB)(ex:Ex)(s:St):Prop:=ex= .exit 2∧s.v 2=D.box [D.sl 79 (AQ (fun x=>D.sl 87 (Au .i64 .i64 x)) A8),D.sl 3 (AQ (D.int .i64) AR),D.sl 3 (AQ (D.int .i64) A9)]∧s.v 5=D.own 3 (AQ (D.int .i64) r.1)∧s.v 6=D.own 3 (AQ (D.int .i64) r.2)
theorem SS(A8:List (List (Int×Int)))(AR:AB)(A9:AB)(queue:AB){v:AB×AB×Int}{s:St}{r:AB×AB}(h:J5 A8 AR A9 queue v=some r)(hM:DZ A8 AR A9 queue v.1 v.2.1 v.2.2 s):Br Y.env A2P (Gz A8 AR A9 queue r) s:=by
 unfold J5 at h;refine BH (c:=mf) (fun v=>EI A8 AR A9 queue v.1 v.2.1 v.2.2) (fun v s=>DZ A8 AR A9 queue v.1 v.2.1 v.2.2 s) (Gz A8 AR A9 queue) ?_ h hM;clear h hM s v r;intro v s o hM h;obtain⟨out1,queue1,XJ⟩:=v;dsimp only at h hM;unfold EI at h;unfold DZ at hM;obtain⟨m0,m1,m2,m3,m4,m5,m6⟩:=hM;unfold mf;rcases iS h with⟨e7,h⟩|⟨e7,h⟩
 ·obtain⟨e8,e9,h⟩:=GX h;rcases iS h with⟨e10,h⟩|⟨e10,h⟩
  ·obtain⟨e11,e12,h⟩:=GX h
   obtain rfl:=Option.some.inj h
   simp (maxDischargeDepth:=9) only [↓AL,AO,↓reduceIte,Nat.reduceEqDiff,Nat.reduceLT,Nat.reduceLeDiff,Nat.reduceAdd,Nat.reduceBEq,m0,m1,m2,m3,m4,m5,m6,e7,e8.1,e8.2,e9.1,e9.2,e10,e11.1,e11.2,e12,DZ,En]
  ·obtain rfl:=Option.some.inj h
   simp (maxDischargeDepth:=9) only [↓AL,AO,↓reduceIte,Nat.reduceEqDiff,Nat.reduceLT,Nat.reduceAdd,m0,m1,m2,m3,m4,m5,m6,e7,e8.1,e8.2,e9.1,e9.2,e10,DZ,En]
 ·obtain rfl:=Option.some.inj h
  simp (maxDischargeDepth:=9) only [↓AL,AO,↓reduceIte,Nat.reduceEqDiff,Nat.reduceLT,m0,m1,m2,m5,m6,e7,DZ,Gz,K3]
def EK(A8:List (List (Int×Int)))(AR:AB)(A9:AB)(out:AB)(queue:AB)(s:St):Prop:=s.v 2=D.box [D.sl 79 (AQ (fun x=>D.sl 87 (Au .i64 .i64 x)) A8),D.sl 3 (AQ (D.int .i64) AR),D.sl 3 (AQ (D.int .i64) A9)]∧s.v 5=D.own 3 (AQ (D.int .i64) out)∧s.v 6=D.own 3 (AQ (D.int .i64) queue)
def H5(A8:List (List (Int×Int)))(AR:AB)(A9:AB)(r:AB)(ex:Ex)(s:St):Prop:=ex= .exit 0∧s.v 5=D.own 3 (AQ (D.int .i64) r)
theorem SV(A8:List (List (Int×Int)))(AR:AB)(A9:AB){v:AB×AB}{s:St}{r:AB}(h:J6 A8 AR A9 v=some r)(hM:EK A8 AR A9 v.1 v.2 s):Br Y.env A2Q (H5 A8 AR A9 r) s:=by
 unfold J6 at h;refine BH (c:=mg) (fun v=>EJ A8 AR A9 v.1 v.2) (fun v s=>EK A8 AR A9 v.1 v.2 s) (H5 A8 AR A9) ?_ h hM;clear h hM s v r;intro v s o hM h;obtain⟨out,queue⟩:=v;dsimp only at h hM;unfold EJ at h;unfold EK at hM;obtain⟨m0,m1,m2⟩:=hM;unfold mg;rcases iS h with⟨e3,h⟩|⟨e3,h⟩
 ·obtain⟨e4,e5,e6,h⟩:=Q3 h;obtain⟨Aa,hl8,h⟩:=Ak h;try dsimp only at h
  simp (maxDischargeDepth:=9) only [↓AL,AO,↓reduceIte,Nat.reduceEqDiff,Nat.reduceLT,Int.reduceLE,Int.reduceToNat,m0,m2,e3,e4,e5,e6.1,e6.2];refine Aw (SS A8 AR A9 queue hl8 ?_) ?_
  ·simp (maxDischargeDepth:=9) only [BZ,↓reduceIte,Nat.reduceEqDiff,m0,m1,DZ]
  ·intro ex8 s8 hX8;unfold Gz at hX8;obtain⟨rfl,n8_0,n8_1,n8_2⟩:=hX8
   obtain rfl:=Option.some.inj h
   simp (maxDischargeDepth:=9) only [↓AL,AO,↓reduceIte,n8_0,n8_1,n8_2,EK,En]
 ·obtain rfl:=Option.some.inj h
  simp (maxDischargeDepth:=9) only [↓AL,AO,↓reduceIte,Nat.reduceEqDiff,Nat.reduceLT,m1,m2,e3,EK,H5,K3]
theorem TZ(A8:List (List (Int×Int)))(AR:AB)(A9:AB)(v_:Int){r:AB}(h:JI A8 AR A9 v_=some r):Y.call 87 [D.agg [D.sl 79 (AQ (fun x=>D.sl 87 (Au .i64 .i64 x)) A8),D.sl 3 (AQ (D.int .i64) AR),D.sl 3 (AQ (D.int .i64) A9)],D.int .i64 v_] []=some (D.own 3 (AQ (D.int .i64) r),[]):=by
 refine c87 ?_ rfl;unfold k87;unfold JI at h;obtain⟨Uv,hl1,h⟩:=Ak h;try dsimp only at h
 have c1:=FC [(-1)] (A8.length:Int) hl1;simp only [KW,Vm]at c1;obtain⟨e2,h⟩:=ES h;obtain⟨BA,hl4,h⟩:=Ak h;try dsimp only at h
 simp (maxDischargeDepth:=9) only [↓AL,AO,↓reduceIte,Nat.reduceEqDiff,Nat.reduceLT,Nat.reduceLeDiff,Nat.reduceAdd,Int.reduceNeg,c1,e2.1,e2.2];refine Aw (SV A8 AR A9 hl4 ?_) ?_
 ·simp (maxDischargeDepth:=9) only [BZ,↓reduceIte,Nat.reduceEqDiff,Int.reduceNeg,EK]<;>(repeat' apply A7)<;>first|rfl|exact⟨_,rfl⟩|exact⟨_,_,rfl⟩|simp [AQ,CR]
 ·intro ex4 s4 hX4;unfold H5 at hX4;obtain⟨rfl,n4_0⟩:=hX4
  obtain rfl:=Option.some.inj h
  simp (maxDischargeDepth:=9) only [↓AL,AO,↓reduceIte,Nat.reduceEqDiff,Nat.reduceLT,n4_0]
noncomputable def Jl(A8:List (List (Int×Int)))(v_:Int)(out:AB)(Bu:Int):Option ((AB×Int)⊕(AB)):= if Bu<((A8.getD v_.toNat default).length:Int)then ck (0≤Bu∧Bu.toNat<(A8.getD v_.toNat default).length)<| ck (out.length+1<1099511627776)<| some (Sum.inl ((out++[(BP (A8.getD v_.toNat default) Bu.toNat)]),IntKind.i64.wrap (Bu+1))) else some (Sum.inr out)
noncomputable def QR(A8:List (List (Int×Int)))(v_:Int)(v:AB×Int):Option (AB):=Fb (fun v=>Jl A8 v_ v.1 v.2) v
noncomputable def Ta(A8:List (List (Int×Int)))(AR:AB)(A9:AB)(v_:Int):Option (AB):= ck (0≤v_∧v_.toNat<A8.length)<| (QR A8 v_ ([],0)).bind fun Aa=> some Aa
def bZ:SC:= .seq (.ops [oB 15 .lss 3 (tK 14) (tK 13) 3 0]) (.seq (.cond (tK 15) .skip (.exit 0)) (.seq (.block 1 (.seq (.ops [oI 16 79 12 14,oL 17 87 16 87,oX 7 (.alloc 87) 0,oS 87 7 17]) (.ops [oM 18 5 26,oF 19 87 7 0,oL 20 3 19 3,oX 21 (.buildSlice 26 1 #[(0,(tK 20))]) 26,oX 22 (.call ⟨(.builtin .append), #[(tK 18),(tK 21)], #[26,26]⟩) 26,oA 5 22 26]))) (.ops [oB 23 .add 3 (tK 14) (iK 1) 3 3,oM 14 23 3])))
def xX:SC:= .loop bZ
def AAt:SC:= .seq (.ops [oX 2 (.box 38 (tK 0)) 0,oX 4 KL 26]) (.seq (.ops [oX 5 KL 26]) (.seq (.seq (.ops [oF 8 38 2 0,oL 9 36 8 36,oM 10 1 3,oI 11 36 9 10,oL 12 79 11 79,oN 13 12 79,oX 14 (.move (iK 0)) 3]) (.block 0 xX)) (.seq (.ops [oM 24 5 26,oA 4 24 26]) .ret)))
theorem A4f:Tryz.f154.body.map (BX lends)=some AAt:=by kernel_rfl
theorem AI4:Bj Tryz.f154 2=true:=by kernel_rfl
theorem AOL{a l:List D}{r:D×List D}(h:Br Y.env AAt (fin Ap l.length [ResultVar.tmp 4] r) (entry a l))(ha:a.length=2):Y.call 154 a l=some r:=
 AZ (Y:=Y) rfl Tryz.func154 (ha▸AI4) A4f h
def Jm(A8:List (List (Int×Int)))(v_:Int)(out:AB)(Bu:Int)(s:St):Prop:=s.v 5=D.own 3 (AQ (D.int .i64) out)∧s.v 12=D.sl 87 (Au .i64 .i64 (A8.getD v_.toNat default))∧s.v 13=D.int .i64 ((A8.getD v_.toNat default).length:Int)∧s.v 14=D.int .i64 Bu
def NU(A8:List (List (Int×Int)))(v_:Int)(r:AB)(ex:Ex)(s:St):Prop:=ex= .exit 0∧s.v 5=D.own 3 (AQ (D.int .i64) r)
theorem bf(A8:List (List (Int×Int)))(v_:Int){v:AB×Int}{s:St}{r:AB}(h:QR A8 v_ v=some r)(hM:Jm A8 v_ v.1 v.2 s):Br Y.env xX (NU A8 v_ r) s:=by
 unfold QR at h;refine BH (c:=bZ) (fun v=>Jl A8 v_ v.1 v.2) (fun v s=>Jm A8 v_ v.1 v.2 s) (NU A8 v_) ?_ h hM;clear h hM s v r;intro v s o hM h;obtain⟨out,Bu⟩:=v;dsimp only at h hM;unfold Jl at h;unfold Jm at hM;obtain⟨m0,m1,m2,m3⟩:=hM;unfold bZ;rcases iS h with⟨e2,h⟩|⟨e2,h⟩
 ·obtain⟨e3,e4,h⟩:=GX h
  obtain rfl:=Option.some.inj h
  simp (maxDischargeDepth:=9) only [↓AL,AO,↓reduceIte,Nat.reduceEqDiff,Nat.reduceLT,Nat.reduceLeDiff,Nat.reduceAdd,m0,m1,m2,m3,e2,e3.1,e3.2,e4,Jm,En]
 ·obtain rfl:=Option.some.inj h
  simp (maxDischargeDepth:=9) only [↓AL,AO,↓reduceIte,Nat.reduceEqDiff,Nat.reduceLT,m0,m2,m3,e2,Jm,NU,K3]
theorem iB(A8:List (List (Int×Int)))(AR:AB)(A9:AB)(v_:Int){r:AB}(h:Ta A8 AR A9 v_=some r):Y.call 154 [D.agg [D.sl 79 (AQ (fun x=>D.sl 87 (Au .i64 .i64 x)) A8),D.sl 3 (AQ (D.int .i64) AR),D.sl 3 (AQ (D.int .i64) A9)],D.int .i64 v_] []=some (D.own 3 (AQ (D.int .i64) r),[]):=by
 refine AOL ?_ rfl;unfold AAt;unfold Ta at h;obtain⟨e1,h⟩:=ES h;obtain⟨Aa,hl3,h⟩:=Ak h;try dsimp only at h
 simp (maxDischargeDepth:=9) only [↓AL,AO,↓reduceIte,Nat.reduceEqDiff,Nat.reduceLT,Nat.reduceAdd,e1.1,e1.2];refine Aw (bf A8 v_ hl3 ?_) ?_
 ·simp (maxDischargeDepth:=9) only [BZ,↓reduceIte,Nat.reduceEqDiff,Jm]<;>(repeat' apply A7)<;>first|rfl|exact⟨_,rfl⟩|exact⟨_,_,rfl⟩|simp [AQ,CR]
 ·intro ex3 s3 hX3;unfold NU at hX3;obtain⟨rfl,n3_0⟩:=hX3
  obtain rfl:=Option.some.inj h
  simp (maxDischargeDepth:=9) only [↓AL,AO,↓reduceIte,Nat.reduceEqDiff,Nat.reduceLT,n3_0]
noncomputable def Ew(AA:List (List (Int×Int)))(Ac:AB)(AC:AB)(BM:Int)(oG:AB)(rX:Int):Option ((AB×Int)⊕(AB)):= if rX<((List.replicate AA.length (0:Int)).length:Int)then ck (0≤rX∧rX.toNat<oG.length)<| some (Sum.inl ((oG.set rX.toNat (-1)),IntKind.i64.wrap (rX+1))) else some (Sum.inr oG)
noncomputable def O1(AA:List (List (Int×Int)))(Ac:AB)(AC:AB)(BM:Int)(v:AB×Int):Option (AB):=Fb (fun v=>Ew AA Ac AC BM v.1 v.2) v
noncomputable def Jn(AA:List (List (Int×Int)))(Ac:AB)(AC:AB)(Iq:Int)(Od:AB)(t5_1:AB)(t7_1:AB)(XK:Int):Option ((AB×AB×Int)⊕(AB×AB)):= if XK<(Od.length:Int)then ck (0≤XK∧XK.toNat<Od.length)<| ck (0≤(Od.getD XK.toNat default)∧(Od.getD XK.toNat default).toNat<t5_1.length)<| if(t5_1.getD ((Od.getD XK.toNat default).toNat) default)<0 then ck (0≤Iq∧Iq.toNat<t7_1.length)<| ck (0≤(t7_1.getD Iq.toNat default)∧(t7_1.getD Iq.toNat default).toNat<t5_1.length)<| ck (t7_1.length+1<1099511627776)<| some (Sum.inl ((t5_1.set ((Od.getD XK.toNat default).toNat) (IntKind.i64.wrap ((t5_1.getD ((t7_1.getD Iq.toNat default).toNat) default)+1))),(t7_1++[(Od.getD XK.toNat default)]),IntKind.i64.wrap (XK+1))) else some (Sum.inl (t5_1,t7_1,IntKind.i64.wrap (XK+1))) else some (Sum.inr (t5_1,t7_1))
noncomputable def QS(AA:List (List (Int×Int)))(Ac:AB)(AC:AB)(Iq:Int)(Od:AB)(v:AB×AB×Int):Option (AB×AB):=Fb (fun v=>Jn AA Ac AC Iq Od v.1 v.2.1 v.2.2) v
noncomputable def Ey(AA:List (List (Int×Int)))(Ac:AB)(AC:AB)(oG:AB)(Oe:AB)(Iq:Int):Option ((AB×AB×Int)⊕(AB)):= if Iq<(Oe.length:Int)then ck (0≤Iq∧Iq.toNat<Oe.length)<| (Ta AA Ac AC (Oe.getD Iq.toNat default)).bind fun Od=> (QS AA Ac AC Iq Od (oG,Oe,0)).bind fun BA=> some (Sum.inl (BA.1,BA.2,IntKind.i64.wrap (Iq+1))) else some (Sum.inr oG)
noncomputable def O3(AA:List (List (Int×Int)))(Ac:AB)(AC:AB)(v:AB×AB×Int):Option (AB):=Fb (fun v=>Ey AA Ac AC v.1 v.2.1 v.2.2) v
noncomputable def O4(AA:List (List (Int×Int)))(Ac:AB)(AC:AB)(BM:Int):Option (AB):= ck (0≤(AA.length:Int)∧(AA.length:Int)<1099511627776)<| (O1 AA Ac AC BM ((List.replicate AA.length 0),0)).bind fun Aa=> ck (0≤BM∧BM.toNat<Aa.length)<| (O3 AA Ac AC ((Aa.set BM.toNat 0),[BM],0)).bind fun Dq=> some Dq
def bg:SC:= .seq (.ops [oB 18 .lss 3 (tK 17) (tK 16) 3 0]) (.seq (.cond (tK 18) .skip (.exit 0)) (.seq (.block 1 (.seq (.ops [oM 19 17 3,oA 6 19 3]) (.ops [oM 20 5 26,oM 21 6 3,oI 22 26 20 21,⟨none,(.store 3 (tK 22) vH),0,none⟩]))) (.ops [oB 23 .add 3 (tK 17) (iK 1) 3 3,oM 17 23 3])))
def xY:SC:= .loop bg
def bi:SC:= .seq (.ops [oB 43 .lss 3 (tK 42) (tK 41) 3 0]) (.seq (.cond (tK 43) .skip (.exit 4)) (.seq (.block 5 (.seq (.ops [oI 44 26 40 42,oL 45 3 44 3,oA 10 45 3]) (.seq (.ops [oM 46 5 26,oM 47 10 3,oI 48 26 46 47,oL 49 3 48 3,oB 50 .lss 3 (tK 49) (iK 0) 3 4]) (.cond (tK 50) (.seq (.ops [oM 51 5 26,oM 52 10 3,oM 53 5 26,oM 54 7 26,oM 55 8 3,oI 56 26 54 55,oL 57 3 56 3,oI 58 26 53 57,oL 59 3 58 3,oB 60 .add 3 (tK 59) (iK 1) 3 3,oI 61 26 51 52,oS 3 61 60]) (.ops [oM 62 7 26,oM 63 10 3,oX 64 (.buildSlice 26 1 #[(0,(tK 63))]) 26,oX 65 (.call ⟨(.builtin .append), #[(tK 62),(tK 64)], #[26,26]⟩) 26,oA 7 65 26])) .skip)))) (.ops [oB 66 .add 3 (tK 42) (iK 1) 3 3,oM 42 66 3])))
def xZ:SC:= .loop bi
abbrev rY:List Nat:=[35,36,37,38,39,40,41,42]
def bn:SC:= .seq (.seq (.ops [oM 29 8 3,oM 30 7 26,oN 31 30 26,oB 32 .lss 3 (tK 29) (tK 31) 3 4]) (.cond (tK 32) .skip (.exit 2))) (.seq (.block 3 (.seq (.draws [(⟨[35,2,2],rY,[35]⟩,oL 35 38 2 38),(⟨[36,7,7],rY,[36]⟩,oM 36 7 26),(⟨[37,8,8],rY,[37]⟩,oM 37 8 3),(⟨[38,36,37,7,8],rY,[38]⟩,oI 38 26 36 37),(⟨[39,38,7],rY,[39]⟩,oL 39 3 38 3),(⟨[40,35,39,2,7],rY,[40]⟩,oC 40 154 [(tK 35),(tK 39)] [38,3] 26),(⟨[41,40,40],rY,[41]⟩,oN 41 40 26),(⟨[42],rY,[42]⟩,oX 42 (.move (iK 0)) 3)]) (.block 4 xZ))) (.ops [oM 33 8 3,oB 34 .add 3 (tK 33) (iK 1) 3 3,oA 8 34 3]))
def xc:SC:= .loop bn
def AAu:SC:= .seq (.ops [oX 2 (.box 38 (tK 0)) 0,oX 4 KL 26]) (.seq (.ops [oF 11 38 2 0,oL 12 36 11 36,oN 13 12 36,oX 14 (.makeSlice 26 (tK 13) (tK 13)) 26,oA 5 14 26]) (.seq (.seq (.ops [oM 15 5 26,oN 16 15 26,oX 17 (.move (iK 0)) 3]) (.block 0 xY)) (.seq (.ops [oM 24 5 26,oM 25 1 3,oI 26 26 24 25,⟨none,(.store 3 (tK 26) (iK 0)),0,none⟩]) (.seq (.ops [oM 27 1 3,oX 28 (.buildSlice 26 1 #[(0,(tK 27))]) 26,oA 7 28 26]) (.seq (.seq (.ops [oX 8 (.assign (iK 0)) 3]) (.block 2 xc)) (.seq (.ops [oM 67 5 26,oA 4 67 26]) .ret))))))
theorem A4g:Tryz.f134.body.map (BX lends)=some AAu:=by kernel_rfl
theorem AI5:Bj Tryz.f134 2=true:=by kernel_rfl
theorem AOM{a l:List D}{r:D×List D}(h:Br Y.env AAu (fin Ap l.length [ResultVar.tmp 4] r) (entry a l))(ha:a.length=2):Y.call 134 a l=some r:=
 AZ (Y:=Y) rfl Tryz.func134 (ha▸AI5) A4g h
def Jo(AA:List (List (Int×Int)))(Ac:AB)(AC:AB)(BM:Int)(oG:AB)(rX:Int)(s:St):Prop:=s.v 1=D.int .i64 BM∧s.v 2=D.box [D.sl 79 (AQ (fun x=>D.sl 87 (Au .i64 .i64 x)) AA),D.sl 3 (AQ (D.int .i64) Ac),D.sl 3 (AQ (D.int .i64) AC)]∧s.v 5=D.own 3 (AQ (D.int .i64) oG)∧s.v 16=D.int .i64 ((List.replicate AA.length (0:Int)).length:Int)∧s.v 17=D.int .i64 rX
def NV(AA:List (List (Int×Int)))(Ac:AB)(AC:AB)(BM:Int)(r:AB)(ex:Ex)(s:St):Prop:=ex= .exit 0∧s.v 1=D.int .i64 BM∧s.v 2=D.box [D.sl 79 (AQ (fun x=>D.sl 87 (Au .i64 .i64 x)) AA),D.sl 3 (AQ (D.int .i64) Ac),D.sl 3 (AQ (D.int .i64) AC)]∧s.v 5=D.own 3 (AQ (D.int .i64) r)
theorem bq(AA:List (List (Int×Int)))(Ac:AB)(AC:AB)(BM:Int){v:AB×Int}{s:St}{r:AB}(h:O1 AA Ac AC BM v=some r)(hM:Jo AA Ac AC BM v.1 v.2 s):Br Y.env xY (NV AA Ac AC BM r) s:=by
 unfold O1 at h;refine BH (c:=bg) (fun v=>Ew AA Ac AC BM v.1 v.2) (fun v s=>Jo AA Ac AC BM v.1 v.2 s) (NV AA Ac AC BM) ?_ h hM;clear h hM s v r;intro v s o hM h;obtain⟨oG,rX⟩:=v;dsimp only at h hM;unfold Ew at h;unfold Jo at hM;obtain⟨m0,m1,m2,m3,m4⟩:=hM;unfold bg;rcases iS h with⟨e2,h⟩|⟨e2,h⟩
 ·obtain⟨e3,h⟩:=ES h
  obtain rfl:=Option.some.inj h
  simp (maxDischargeDepth:=9) only [↓AL,AO,↓reduceIte,Nat.reduceEqDiff,Nat.reduceLT,Int.reduceNeg,m0,m1,m2,m3,m4,e2,e3.1,e3.2,Jo,En]
 ·obtain rfl:=Option.some.inj h
  simp (maxDischargeDepth:=9) only [↓AL,AO,↓reduceIte,Nat.reduceEqDiff,Nat.reduceLT,Int.reduceNeg,m0,m1,m2,m3,m4,e2,Jo,NV,K3]
def Hl(AA:List (List (Int×Int)))(Ac:AB)(AC:AB)(Iq:Int)(Od:AB)(t5_1:AB)(t7_1:AB)(XK:Int)(s:St):Prop:=s.v 2=D.box [D.sl 79 (AQ (fun x=>D.sl 87 (Au .i64 .i64 x)) AA),D.sl 3 (AQ (D.int .i64) Ac),D.sl 3 (AQ (D.int .i64) AC)]∧s.v 5=D.own 3 (AQ (D.int .i64) t5_1)∧s.v 7=D.own 3 (AQ (D.int .i64) t7_1)∧s.v 8=D.int .i64 Iq∧s.v 40=D.own 3 (AQ (D.int .i64) Od)∧s.v 41=D.int .i64 (Od.length:Int)∧s.v 42=D.int .i64 XK
def NW(AA:List (List (Int×Int)))(Ac:AB)(AC:AB)(Iq:Int)(Od:AB)(r:AB×AB)(ex:Ex)(s:St):Prop:=ex= .exit 4∧s.v 2=D.box [D.sl 79 (AQ (fun x=>D.sl 87 (Au .i64 .i64 x)) AA),D.sl 3 (AQ (D.int .i64) Ac),D.sl 3 (AQ (D.int .i64) AC)]∧s.v 5=D.own 3 (AQ (D.int .i64) r.1)∧s.v 7=D.own 3 (AQ (D.int .i64) r.2)∧s.v 8=D.int .i64 Iq
theorem bu(AA:List (List (Int×Int)))(Ac:AB)(AC:AB)(Iq:Int)(Od:AB){v:AB×AB×Int}{s:St}{r:AB×AB}(h:QS AA Ac AC Iq Od v=some r)(hM:Hl AA Ac AC Iq Od v.1 v.2.1 v.2.2 s):Br Y.env xZ (NW AA Ac AC Iq Od r) s:=by
 unfold QS at h;refine BH (c:=bi) (fun v=>Jn AA Ac AC Iq Od v.1 v.2.1 v.2.2) (fun v s=>Hl AA Ac AC Iq Od v.1 v.2.1 v.2.2 s) (NW AA Ac AC Iq Od) ?_ h hM;clear h hM s v r;intro v s o hM h;obtain⟨t5_1,t7_1,XK⟩:=v;dsimp only at h hM;unfold Jn at h;unfold Hl at hM;obtain⟨m0,m1,m2,m3,m4,m5,m6⟩:=hM;unfold bi;rcases iS h with⟨e8,h⟩|⟨e8,h⟩
 ·obtain⟨e9,e10,h⟩:=GX h;rcases iS h with⟨e11,h⟩|⟨e11,h⟩
  ·obtain⟨e12,e13,e14,h⟩:=Q3 h
   obtain rfl:=Option.some.inj h
   simp (maxDischargeDepth:=9) only [↓AL,AO,↓reduceIte,Nat.reduceEqDiff,Nat.reduceLT,Nat.reduceLeDiff,Nat.reduceAdd,m0,m1,m2,m3,m4,m5,m6,e8,e9.1,e9.2,e10.1,e10.2,e11,e12.1,e12.2,e13.1,e13.2,e14,Hl,En]
  ·obtain rfl:=Option.some.inj h
   simp (maxDischargeDepth:=9) only [↓AL,AO,↓reduceIte,Nat.reduceEqDiff,Nat.reduceLT,m0,m1,m2,m3,m4,m5,m6,e8,e9.1,e9.2,e10.1,e10.2,e11,Hl,En]
 ·obtain rfl:=Option.some.inj h
  simp (maxDischargeDepth:=9) only [↓AL,AO,↓reduceIte,Nat.reduceEqDiff,Nat.reduceLT,m0,m1,m2,m3,m5,m6,e8,Hl,NW,K3]
def Jp(AA:List (List (Int×Int)))(Ac:AB)(AC:AB)(oG:AB)(Oe:AB)(Iq:Int)(s:St):Prop:=s.v 2=D.box [D.sl 79 (AQ (fun x=>D.sl 87 (Au .i64 .i64 x)) AA),D.sl 3 (AQ (D.int .i64) Ac),D.sl 3 (AQ (D.int .i64) AC)]∧s.v 5=D.own 3 (AQ (D.int .i64) oG)∧s.v 7=D.own 3 (AQ (D.int .i64) Oe)∧s.v 8=D.int .i64 Iq
def NY(AA:List (List (Int×Int)))(Ac:AB)(AC:AB)(r:AB)(ex:Ex)(s:St):Prop:=ex= .exit 2∧s.v 5=D.own 3 (AQ (D.int .i64) r)
theorem bv(AA:List (List (Int×Int)))(Ac:AB)(AC:AB){v:AB×AB×Int}{s:St}{r:AB}(h:O3 AA Ac AC v=some r)(hM:Jp AA Ac AC v.1 v.2.1 v.2.2 s):Br Y.env xc (NY AA Ac AC r) s:=by
 unfold O3 at h;refine BH (c:=bn) (fun v=>Ey AA Ac AC v.1 v.2.1 v.2.2) (fun v s=>Jp AA Ac AC v.1 v.2.1 v.2.2 s) (NY AA Ac AC) ?_ h hM;clear h hM s v r;intro v s o hM h;obtain⟨oG,Oe,Iq⟩:=v;dsimp only at h hM;unfold Ey at h;unfold Jp at hM;obtain⟨m0,m1,m2,m3⟩:=hM;unfold bn;rcases iS h with⟨e5,h⟩|⟨e5,h⟩
 ·obtain⟨e6,h⟩:=ES h;obtain⟨Od,hl7,h⟩:=Ak h;have c7:=iB AA Ac AC (Oe.getD Iq.toNat default) hl7;obtain⟨BA,hl9,h⟩:=Ak h;try dsimp only at h
  simp (maxDischargeDepth:=9) only [↓AL,AO,↓reduceIte,Nat.reduceEqDiff,Nat.reduceLT,Nat.reduceAdd,Nat.reduceBEq,m0,m2,m3,e5,e6.1,e6.2,c7];refine Aw (bu AA Ac AC Iq Od hl9 ?_) ?_
  ·simp (maxDischargeDepth:=9) only [BZ,↓reduceIte,Nat.reduceEqDiff,m0,m1,m2,m3,Hl]
  ·intro ex9 s9 hX9;unfold NW at hX9;obtain⟨rfl,n9_0,n9_1,n9_2,n9_3⟩:=hX9
   obtain rfl:=Option.some.inj h
   simp (maxDischargeDepth:=9) only [↓AL,AO,↓reduceIte,Nat.reduceEqDiff,Nat.reduceLT,n9_0,n9_1,n9_2,n9_3,Jp,En]
 ·obtain rfl:=Option.some.inj h
  simp (maxDischargeDepth:=9) only [↓AL,AO,↓reduceIte,Nat.reduceEqDiff,Nat.reduceLT,m1,m2,m3,e5,Jp,NY,K3]
theorem Ua(AA:List (List (Int×Int)))(Ac:AB)(AC:AB)(BM:Int){r:AB}(h:O4 AA Ac AC BM=some r):Y.call 134 [D.agg [D.sl 79 (AQ (fun x=>D.sl 87 (Au .i64 .i64 x)) AA),D.sl 3 (AQ (D.int .i64) Ac),D.sl 3 (AQ (D.int .i64) AC)],D.int .i64 BM] []=some (D.own 3 (AQ (D.int .i64) r),[]):=by
 refine AOM ?_ rfl;unfold AAu;unfold O4 at h;obtain⟨e1,h⟩:=ES h;obtain⟨Aa,hl3,h⟩:=Ak h;try dsimp only at h
 simp (maxDischargeDepth:=9) only [↓AL,AO,↓reduceIte,Nat.reduceEqDiff,Nat.reduceLT,Nat.reduceLeDiff,Nat.reduceAdd,e1.1,e1.2];refine Aw (bq AA Ac AC BM hl3 ?_) ?_
 ·simp (maxDischargeDepth:=9) only [BZ,Ei,↓reduceIte,Nat.reduceEqDiff,Nat.reduceLT,Jo]
 ·intro ex3 s3 hX3;unfold NV at hX3;obtain⟨rfl,n3_0,n3_1,n3_2⟩:=hX3;obtain⟨e4,h⟩:=ES h;obtain⟨Dq,hl6,h⟩:=Ak h;try dsimp only at h
  simp (maxDischargeDepth:=9) only [↓AL,AO,↓reduceIte,Nat.reduceEqDiff,Nat.reduceLT,Nat.reduceLeDiff,Nat.reduceAdd,n3_0,n3_2,e4.1,e4.2];refine Aw (bv AA Ac AC hl6 ?_) ?_
  ·simp (maxDischargeDepth:=9) only [BZ,↓reduceIte,Nat.reduceEqDiff,n3_1,n3_2,Jp]<;>(repeat' apply A7)<;>first|rfl|exact⟨_,rfl⟩|exact⟨_,_,rfl⟩|simp [AQ,CR]
  ·intro ex6 s6 hX6;unfold NY at hX6;obtain⟨rfl,n6_0⟩:=hX6
   obtain rfl:=Option.some.inj h
   simp (maxDischargeDepth:=9) only [↓AL,AO,↓reduceIte,Nat.reduceEqDiff,Nat.reduceLT,n6_0]
end Go.Proofs.YtiehjihckndgkaaGreat
