/- What the two steps of an elimination share: lifted. Conditions: none. -/
import Derived.Test.YtjhjkfoabhplfaaGreatL6
import Derived.Test.YtjhjkfoabhplfaaGreatIsP
import Derived.Test.YtjhjkfoabhplfaaGreatCon
import Derived.Test.YtjhjkfoabhplfaaGreatSrt
import Derived.Test.YtjhjkfoabhplfaaGreatHas
import Derived.Test.YtjhjkfoabhplfaaGreatEdg
import Derived.Test.YtjhjkfoabhplfaaGreatZob
namespace Go.Proofs.YtjhjkfoabhplfaaGreat
open Go Dv
set_option linter.unusedSimpArgs false
set_option linter.unusedVariables false
set_option maxRecDepth 100000
set_option maxHeartbeats 4000000
noncomputable def CJ(slices:AO)(size:Int)(Ca:Int):Option ((Int×Int)⊕(Int)):= if Ca<(slices.length:Int)then ck (0≤Ca∧Ca.toNat<slices.length)<| if(IntKind.i64.wrap (size+((slices.getD Ca.toNat default).length:Int)))<0 then none else some (Sum.inl (IntKind.i64.wrap (size+((slices.getD Ca.toNat default).length:Int)),IntKind.i64.wrap (Ca+1))) else some (Sum.inr size)
noncomputable def D8(slices:AO)(v:Int×Int):Option (Int):=Hu (fun v=>CJ slices v.1 v.2) v
noncomputable def CK(slices:AO)(newslice:AL)(R3:Int):Option ((AL×Int)⊕(AL)):= if R3<(slices.length:Int)then ck (0≤R3∧R3.toNat<slices.length)<| ck (newslice.length+(slices.getD R3.toNat default).length<1099511627776)<| some (Sum.inl ((newslice++(slices.getD R3.toNat default)),IntKind.i64.wrap (R3+1))) else some (Sum.inr newslice)
noncomputable def D9(slices:AO)(v:AL×Int):Option (AL):=Hu (fun v=>CK slices v.1 v.2) v
noncomputable def Dq(slices:AO):Option (AL):= (D8 slices (0,0)).bind fun AC=> ck (0≤AC∧AC<1099511627776)<| (D9 slices ([],0)).bind fun Ao=> some Ao
def gY:SC:= .seq (.ops [oB 12 .lss 3 (tK 11) (tK 10) 3 0]) (.seq (.cond (tK 12) .skip (.exit 0)) (.seq (.block 1 (.seq (.ops [oI 13 22 9 11,oL 14 27 13 27,oA 5 14 27]) (.seq (.ops [oM 15 3 3,oM 16 5 27,oN 17 16 27,oB 18 .add 3 (tK 15) (tK 17) 3 3,oA 3 18 3]) (.seq (.ops [oM 19 3 3,oB 20 .lss 3 (tK 19) (iK 0) 3 4]) (.cond (tK 20) (.ops [oX 21 (.makeInterface 9 (.const (.string {data:= #[108,101,110,32,111,117,116,32,111,102,32,114,97,110,103,101]}))) 20,⟨none,(.panic (tK 21)),0,none⟩]) .skip))))) (.ops [oB 22 .add 3 (tK 11) (iK 1) 3 3,oM 11 22 3])))
def yu:SC:= .loop gY
def gZ:SC:= .seq (.ops [oB 28 .lss 3 (tK 27) (tK 26) 3 0]) (.seq (.cond (tK 28) .skip (.exit 2)) (.seq (.block 3 (.seq (.ops [oI 29 22 25 27,oL 30 27 29 27,oA 8 30 27]) (.ops [oM 31 6 27,oM 32 8 27,oX 33 (.call ⟨(.builtin .append), #[(tK 31),(tK 32)], #[27,27]⟩) 27,oA 6 33 27]))) (.ops [oB 34 .add 3 (tK 27) (iK 1) 3 3,oM 27 34 3])))
def yw:SC:= .loop gZ
def k67:SC:= .seq (.ops [oX 2 Ev 27]) (.seq (.ops [oX 3 (.assign (iK 0)) 3]) (.seq (.seq (.ops [oM 9 0 22,oN 10 9 22,oX 11 (.move (iK 0)) 3]) (.block 0 yu)) (.seq (.ops [oM 23 3 3,oC 24 98 [(.const (.slice none 0 0)),(tK 23)] [27,3] 900013,oA 6 24 27]) (.seq (.seq (.ops [oM 25 0 22,oN 26 25 22,oX 27 (.move (iK 0)) 3]) (.block 2 yw)) (.seq (.ops [oM 35 6 27,oA 2 35 27]) .ret)))))
theorem A69:Tryz.f67.body.map (Bw lends)=some k67:=by kernel_rfl
theorem AIZ:CP Tryz.f67 1=true:=by kernel_rfl
theorem c67{a l:List D}{r:D×List D}(h:CG Y.env k67 (FX Ah l.length [ResultVar.tmp 2] r) (entry a l))(ha:a.length=1):Y.call 67 a l=some r:=
 AZ (Y:=Y) rfl Tryz.func67 (ha▸AIZ) A69 h
def CL(slices:AO)(size:Int)(Ca:Int)(s:St):Prop:=s.v 0=D.sl 27 (AV Aw slices)∧s.v 3=D.int .i64 size∧s.v 9=D.sl 27 (AV Aw slices)∧s.v 10=D.int .i64 (slices.length:Int)∧s.v 11=D.int .i64 Ca
def Dk(slices:AO)(r:Int)(ex:Ex)(s:St):Prop:=ex= .exit 0∧s.v 0=D.sl 27 (AV Aw slices)∧s.v 3=D.int .i64 r
theorem N9(slices:AO){v:Int×Int}{s:St}{r:Int}(h:D8 slices v=some r)(hM:CL slices v.1 v.2 s):CG Y.env yu (Dk slices r) s:=by
 unfold D8 at h;refine BD (c:=gY) (fun v=>CJ slices v.1 v.2) (fun v s=>CL slices v.1 v.2 s) (Dk slices) ?_ h hM;clear h hM s v r;intro v s o hM h;obtain⟨size,Ca⟩:=v;dsimp only at h hM;unfold CJ at h;unfold CL at hM;obtain⟨m0,m1,m2,m3,m4⟩:=hM;unfold gY;rcases iS h with⟨e1,h⟩|⟨e1,h⟩
 ·obtain⟨e2,h⟩:=EQ h;rcases iS h with⟨e3,h⟩|⟨e3,h⟩
  ·cases h
  ·obtain rfl:=Option.some.inj h
   simp (maxDischargeDepth:=9) only [↓AR,AU,↓reduceIte,Nat.reduceEqDiff,Nat.reduceLT,m0,m1,m2,m3,m4,e1,e2.1,e2.2,e3,CL,FV]
 ·obtain rfl:=Option.some.inj h
  simp (maxDischargeDepth:=9) only [↓AR,AU,↓reduceIte,Nat.reduceEqDiff,Nat.reduceLT,m0,m1,m3,m4,e1,CL,Dk,KF]
def CO(slices:AO)(newslice:AL)(R3:Int)(s:St):Prop:=s.v 6=D.own 3 (AV (D.int .i64) newslice)∧s.v 25=D.sl 27 (AV Aw slices)∧s.v 26=D.int .i64 (slices.length:Int)∧s.v 27=D.int .i64 R3
def Dl(slices:AO)(r:AL)(ex:Ex)(s:St):Prop:=ex= .exit 2∧s.v 6=D.own 3 (AV (D.int .i64) r)
theorem NA(slices:AO){v:AL×Int}{s:St}{r:AL}(h:D9 slices v=some r)(hM:CO slices v.1 v.2 s):CG Y.env yw (Dl slices r) s:=by
 unfold D9 at h;refine BD (c:=gZ) (fun v=>CK slices v.1 v.2) (fun v s=>CO slices v.1 v.2 s) (Dl slices) ?_ h hM;clear h hM s v r;intro v s o hM h;obtain⟨newslice,R3⟩:=v;dsimp only at h hM;unfold CK at h;unfold CO at hM;obtain⟨m0,m1,m2,m3⟩:=hM;unfold gZ;rcases iS h with⟨e5,h⟩|⟨e5,h⟩
 ·obtain⟨e6,e7,h⟩:=Hw h
  obtain rfl:=Option.some.inj h
  simp (maxDischargeDepth:=9) only [↓AR,AU,↓reduceIte,Nat.reduceEqDiff,Nat.reduceLT,Nat.reduceLeDiff,m0,m1,m2,m3,e5,e6.1,e6.2,e7,CO,FV]
 ·obtain rfl:=Option.some.inj h
  simp (maxDischargeDepth:=9) only [↓AR,AU,↓reduceIte,Nat.reduceEqDiff,Nat.reduceLT,m0,m2,m3,e5,CO,Dl,KF]
theorem Nt(slices:AO){r:AL}(h:Dq slices=some r):Y.call 67 [D.sl 27 (AV Aw slices)] []=some (D.own 3 (AV (D.int .i64) r),[]):=by
 refine c67 ?_ rfl;unfold k67;unfold Dq at h;obtain⟨AC,hl2,h⟩:=Aa h;try dsimp only at h
 simp (maxDischargeDepth:=9) only [↓AR,AU,↓reduceIte,Nat.reduceEqDiff,Nat.reduceLT];refine Ai (N9 slices hl2 ?_) ?_
 ·simp (maxDischargeDepth:=9) only [Bd,Da,↓reduceIte,Nat.reduceEqDiff,Nat.reduceLT,CL]
 ·intro ex2 s2 hX2;unfold Dk at hX2;obtain⟨rfl,n2_0,n2_1⟩:=hX2;obtain⟨e3,h⟩:=EQ h;have c4:=A1B AC e3;obtain⟨Ao,hl6,h⟩:=Aa h;try dsimp only at h
  simp (maxDischargeDepth:=9) only [↓AR,AU,↓reduceIte,Nat.reduceEqDiff,Nat.reduceLT,Nat.reduceAdd,n2_0,n2_1,c4];refine Ai (NA slices hl6 ?_) ?_
  ·simp (maxDischargeDepth:=9) only [Bd,↓reduceIte,Nat.reduceEqDiff,CO]<;>(repeat' apply A7)<;>first|rfl|exact⟨_,rfl⟩|exact⟨_,_,rfl⟩|simp [AV,Ad]
  ·intro ex6 s6 hX6;unfold Dl at hX6;obtain⟨rfl,n6_0⟩:=hX6
   obtain rfl:=Option.some.inj h
   simp (maxDischargeDepth:=9) only [↓AR,AU,↓reduceIte,Nat.reduceEqDiff,Nat.reduceLT,n6_0]
noncomputable def CB(s_:AL)(k:Int)(k1:Int)(k2:Int)(BA:AL):Option ((Int×Int×AL)⊕(Int×AL)):= if k2<(((s_.length-k.toNat):Nat):Int)then ck (0≤k2∧k2.toNat<(s_.length-k.toNat))<| ck (k.toNat+(s_.length-k.toNat)≤BA.length)<| ck (k.toNat+k2.toNat<BA.length)<| ck (0≤IntKind.i64.wrap (k2-1)∧(IntKind.i64.wrap (k2-1)).toNat<(s_.length-k.toNat))<| ck (k.toNat+(IntKind.i64.wrap (k2-1)).toNat<BA.length)<| if(BA.getD (k.toNat+k2.toNat) default)=(BA.getD (k.toNat+(IntKind.i64.wrap (k2-1)).toNat) default)then some (Sum.inl (k1,IntKind.i64.wrap (k2+1),BA)) else ck (0≤k1∧k1.toNat<BA.length)<| some (Sum.inl (IntKind.i64.wrap (k1+1),IntKind.i64.wrap (k2+1),(BA.set k1.toNat (BA.getD (k.toNat+k2.toNat) default)))) else some (Sum.inr (k1,BA))
noncomputable def Dt(s_:AL)(k:Int)(v:Int×Int×AL):Option (Int×AL):=Hu (fun v=>CB s_ k v.1 v.2.1 v.2.2) v
noncomputable def CE(s_:AL)(k:Int):Option ((Int)⊕((AL)⊕Unit)):= if k<(s_.length:Int)then ck (0≤k∧k.toNat<s_.length)<| ck (0≤IntKind.i64.wrap (k-1)∧(IntKind.i64.wrap (k-1)).toNat<s_.length)<| if(s_.getD k.toNat default)=(s_.getD ((IntKind.i64.wrap (k-1)).toNat) default)then ck (0≤k)<| ck (k.toNat≤s_.length)<| (Dt s_ k (k,1,s_)).bind fun AC=> ck (0≤AC.1)<| ck (AC.1.toNat≤AC.2.length)<| ck (AC.1.toNat+(AC.2.length-AC.1.toNat)≤AC.2.length)<| ck (AC.1.toNat≤(pG AC.2 AC.1.toNat (List.replicate (AC.2.length-AC.1.toNat) 0)).length)<| some (Sum.inr (Sum.inl ((pG AC.2 AC.1.toNat (List.replicate (AC.2.length-AC.1.toNat) 0)).take AC.1.toNat))) else some (Sum.inl (IntKind.i64.wrap (k+1))) else some (Sum.inr (Sum.inr ()))
noncomputable def Du(s_:AL)(v:Int):Option ((AL)⊕Unit):=Hu (fun v=>CE s_ v) v
noncomputable def Db(s_:AL):Option (AL):=
 if(s_.length:Int)<2 then
  some s_
 else
  (Du s_ 1).bind fun Ao=>
  match Ao with
  | .inl q1001_=>
   some q1001_
  | .inr q1001_=>
   some s_
abbrev aa:List Nat:=[35,36,37,38,39,40,41,42,43,44]
def gm:SC:= .seq (.seq (.ops [oM 29 5 3,oM 30 4 27,oN 31 30 27,oB 32 .lss 3 (tK 29) (tK 31) 3 4]) (.cond (tK 32) .skip (.exit 2))) (.seq (.block 3 (.seq (.draws [(⟨[35,4,4],aa,[35]⟩,oM 35 4 27),(⟨[36,5,5],aa,[36]⟩,oM 36 5 3),(⟨[37,35,36,4,5],aa,[37]⟩,oI 37 27 35 36),(⟨[38,37,4],aa,[38]⟩,oL 38 3 37 3),(⟨[39,4,4],aa,[39]⟩,oM 39 4 27),(⟨[40,5,5],aa,[40]⟩,oM 40 5 3),(⟨[41,40,5],aa,[41]⟩,oB 41 .sub 3 (tK 40) (iK 1) 3 3),(⟨[42,39,41,4,41],aa,[42]⟩,oI 42 27 39 41),(⟨[43,42,4],aa,[43]⟩,oL 43 3 42 3),(⟨[44,38,43,4,4],aa,[44]⟩,oB 44 .neq 3 (tK 38) (tK 43) 3 4)]) (.cond (tK 44) (.seq (.ops [oM 45 0 27,oM 46 3 3,oM 47 4 27,oM 48 5 3,oI 49 27 47 48,oL 50 3 49 3,oI 51 27 45 46,oS 3 51 50]) (.ops [oM 52 3 3,oB 53 .add 3 (tK 52) (iK 1) 3 3,oA 3 53 3])) .skip))) (.ops [oM 33 5 3,oB 34 .add 3 (tK 33) (iK 1) 3 3,oA 5 34 3]))
def yx:SC:= .loop gm
abbrev ae:List Nat:=[16,17,18,19,20,21,22,23,24,25]
def gp:SC:= .seq (.seq (.ops [oM 10 3 3,oM 11 0 27,oN 12 11 27,oB 13 .lss 3 (tK 10) (tK 12) 3 4]) (.cond (tK 13) .skip (.exit 0))) (.seq (.block 1 (.seq (.draws [(⟨[16,0,0],ae,[16]⟩,oM 16 0 27),(⟨[17,3,3],ae,[17]⟩,oM 17 3 3),(⟨[18,16,17,0,3],ae,[18]⟩,oI 18 27 16 17),(⟨[19,18,0],ae,[19]⟩,oL 19 3 18 3),(⟨[20,0,0],ae,[20]⟩,oM 20 0 27),(⟨[21,3,3],ae,[21]⟩,oM 21 3 3),(⟨[22,21,3],ae,[22]⟩,oB 22 .sub 3 (tK 21) (iK 1) 3 3),(⟨[23,20,22,0,22],ae,[23]⟩,oI 23 27 20 22),(⟨[24,23,0],ae,[24]⟩,oL 24 3 23 3),(⟨[25,19,24,0,0],ae,[25]⟩,oB 25 .eql 3 (tK 19) (tK 24) 3 4)]) (.cond (tK 25) (.seq (.ops [oM 26 0 27,oM 27 3 3,oX 28 (.slice 27 (tK 26) (some (tK 27)) none none) 900001,oA 4 28 27]) (.seq (.seq (.ops [oX 5 (.assign (iK 1)) 3]) (.block 2 yx)) (.seq (.ops [oM 54 0 27,oM 55 3 3,oX 56 (.slice 27 (tK 54) (some (tK 55)) none none) 900001,⟨none,(.call ⟨(.builtin .clear), #[(tK 56)], #[27]⟩),0,none⟩]) (.seq (.ops [oM 57 0 27,oM 58 3 3,oX 59 (.slice 27 (tK 57) none (some (tK 58)) none) 900002,oA 2 59 27]) .ret)))) .skip))) (.ops [oM 14 3 3,oB 15 .add 3 (tK 14) (iK 1) 3 3,oA 3 15 3]))
def yz:SC:= .loop gp
def k69:SC:= .seq (.ops [oX 2 Ev 27]) (.seq (.seq (.ops [oM 6 0 27,oN 7 6 27,oB 8 .lss 3 (tK 7) (iK 2) 3 4]) (.cond (tK 8) (.seq (.ops [oM 9 0 27,oA 2 9 27]) .ret) .skip)) (.seq (.seq (.ops [oX 3 (.assign (iK 1)) 3]) (.block 0 yz)) (.seq (.ops [oM 60 0 27,oA 2 60 27]) .ret)))
theorem A6A:Tryz.f69.body.map (Bw lends)=some k69:=by kernel_rfl
theorem AIb:CP Tryz.f69 1=true:=by kernel_rfl
theorem c69{a l:List D}{r:D×List D}(h:CG Y.env k69 (FX Ah l.length [ResultVar.tmp 2] r) (entry a l))(ha:a.length=1):Y.call 69 a l=some r:=
 AZ (Y:=Y) rfl Tryz.func69 (ha▸AIb) A6A h
def Bg(s_:AL)(k:Int)(k1:Int)(k2:Int)(BA:AL)(s:St):Prop:=(∃w_,s.v 0=D.vw [100000] (s.k 100000) w_)∧s.v 3=D.int .i64 k1∧(∃w_,s.v 4=D.vs 3 [100000] (s.k 100000) w_ k.toNat (s_.length-k.toNat))∧s.v 5=D.int .i64 k2∧s.v 100000=D.own 3 (AV (D.int .i64) BA)
def DW(s_:AL)(k:Int)(r:Int×AL)(ex:Ex)(s:St):Prop:=ex= .exit 2∧(∃w_,s.v 0=D.vw [100000] (s.k 100000) w_)∧s.v 3=D.int .i64 r.1∧s.v 100000=D.own 3 (AV (D.int .i64) r.2)
theorem Mi(s_:AL)(k:Int){v:Int×Int×AL}{s:St}{r:Int×AL}(h:Dt s_ k v=some r)(hM:Bg s_ k v.1 v.2.1 v.2.2 s):CG Y.env yx (DW s_ k r) s:=by
 unfold Dt at h;refine BD (c:=gm) (fun v=>CB s_ k v.1 v.2.1 v.2.2) (fun v s=>Bg s_ k v.1 v.2.1 v.2.2 s) (DW s_ k) ?_ h hM;clear h hM s v r;intro v s o hM h;obtain⟨k1,k2,BA⟩:=v;dsimp only at h hM;unfold CB at h;unfold Bg at hM;obtain⟨⟨w0_,m0⟩,m1,⟨w2_,m2⟩,m3,m4⟩:=hM;unfold gm;rcases iS h with⟨e8,h⟩|⟨e8,h⟩
 ·obtain⟨e9,e10,e11,e12,h⟩:=aH h;obtain⟨e13,h⟩:=EQ h;rcases iS h with⟨e14,h⟩|⟨e14,h⟩
  ·obtain rfl:=Option.some.inj h
   simp (maxDischargeDepth:=9) only [↓AR,AU,↓reduceIte,Nat.reduceEqDiff,Nat.reduceLT,Nat.reduceBEq,m0,m1,m2,m3,m4,e8,e9.1,e9.2,e10,e11,e12.1,e12.2,e13,decide_eq_true e14,Bg,FV]<;>(repeat' apply A7)<;>first|rfl|exact⟨_,rfl⟩|exact⟨_,_,rfl⟩|simp [AV,Ad]
  ·obtain⟨e15,h⟩:=EQ h
   obtain rfl:=Option.some.inj h
   simp (maxDischargeDepth:=9) only [↓AR,AU,↓reduceIte,Nat.reduceEqDiff,Nat.reduceLT,Nat.reduceBEq,m0,m1,m2,m3,m4,e8,e9.1,e9.2,e10,e11,e12.1,e12.2,e13,e14,e15.1,e15.2,Bg,FV]<;>(repeat' apply A7)<;>first|rfl|exact⟨_,rfl⟩|exact⟨_,_,rfl⟩|simp [AV,Ad]
 ·obtain rfl:=Option.some.inj h
  simp (maxDischargeDepth:=9) only [↓AR,AU,↓reduceIte,Nat.reduceEqDiff,Nat.reduceLT,m0,m1,m2,m3,m4,e8,Bg,DW,KF]<;>(repeat' apply A7)<;>first|rfl|exact⟨_,rfl⟩|exact⟨_,_,rfl⟩|simp [AV,Ad]
def Bh(s_:AL)(k:Int)(s:St):Prop:=(∃w_,s.v 0=D.vw [100000] (s.k 100000) w_)∧s.v 3=D.int .i64 k∧s.v 100000=D.own 3 (AV (D.int .i64) s_)
def CF(s_:AL)(r:(AL)⊕Unit)(ex:Ex)(s:St):Prop:=match r with
 | .inl q=>ex= .ret∧s.v 2=D.own 3 (AV (D.int .i64) q)∧s.v 100000=D.undef
 | .inr q=>ex= .exit 0∧(∃w_,s.v 0=D.vw [100000] (s.k 100000) w_)∧s.v 100000=D.own 3 (AV (D.int .i64) s_)
theorem Mj(s_:AL){v:Int}{s:St}{r:(AL)⊕Unit}(h:Du s_ v=some r)(hM:Bh s_ v s):CG Y.env yz (CF s_ r) s:=by
 unfold Du at h;refine BD (c:=gp) (fun v=>CE s_ v) (fun v s=>Bh s_ v s) (CF s_) ?_ h hM;clear h hM s v r;intro k s o hM h;unfold CE at h;unfold Bh at hM;obtain⟨⟨w0_,m0⟩,m1,m2⟩:=hM;unfold gp;rcases iS h with⟨e2,h⟩|⟨e2,h⟩
 ·obtain⟨e3,e4,h⟩:=Hw h;rcases iS h with⟨e5,h⟩|⟨e5,h⟩
  ·obtain⟨e6,e7,h⟩:=Hw h;obtain⟨AC,hl9,h⟩:=Aa h;try dsimp only at h
   simp (maxDischargeDepth:=9) only [↓AR,AU,↓reduceIte,Nat.reduceEqDiff,Nat.reduceLT,Nat.reduceBEq,m0,m1,m2,e2,e3.1,e3.2,e4.1,e4.2,decide_eq_true e5,e7];refine Ai (Mi s_ k hl9 ?_) ?_
   ·simp (maxDischargeDepth:=9) only [Bd,↓reduceIte,Nat.reduceEqDiff,m0,m1,m2,Bg]<;>(repeat' apply A7)<;>first|rfl|exact⟨_,rfl⟩|exact⟨_,_,rfl⟩|simp [AV,Ad]
   ·intro ex9 s9 hX9;unfold DW at hX9;obtain⟨rfl,⟨w0_,n9_0⟩,n9_1,n9_2⟩:=hX9;obtain⟨e10,e11,e12,e13,h⟩:=aH h
    obtain rfl:=Option.some.inj h
    simp (maxDischargeDepth:=9) only [↓AR,AU,↓reduceIte,Nat.reduceEqDiff,Nat.reduceLT,n9_0,n9_1,n9_2,e10,e11,e12,e13,Bh,CF,U2]
  ·obtain rfl:=Option.some.inj h
   simp (maxDischargeDepth:=9) only [↓AR,AU,↓reduceIte,Nat.reduceEqDiff,Nat.reduceLT,Nat.reduceBEq,m0,m1,m2,e2,e3.1,e3.2,e4.1,e4.2,e5,Bh,FV]<;>(repeat' apply A7)<;>first|rfl|exact⟨_,rfl⟩|exact⟨_,_,rfl⟩|simp [AV,Ad]
 ·obtain rfl:=Option.some.inj h
  simp (maxDischargeDepth:=9) only [↓AR,AU,↓reduceIte,Nat.reduceEqDiff,Nat.reduceLT,m0,m1,m2,e2,Bh,CF,KF]<;>(repeat' apply A7)<;>first|rfl|exact⟨_,rfl⟩|exact⟨_,_,rfl⟩|simp [AV,Ad]
theorem NB(s_:AL){r:AL}(h:Db s_=some r):Y.call 69 [D.vw [100000] 0 0] [D.own 3 (AV (D.int .i64) s_)]=some (D.own 3 (AV (D.int .i64) r),[D.undef]):=by
 refine c69 ?_ rfl;unfold k69;unfold Db at h;rcases iS h with⟨e1,h⟩|⟨e1,h⟩
 ·obtain rfl:=Option.some.inj h
  simp (maxDischargeDepth:=9) only [↓AR,AU,↓reduceIte,Nat.reduceEqDiff,Nat.reduceLT,Nat.reduceAdd,Nat.reduceSub,e1]
 ·obtain⟨Ao,hl3,h⟩:=Aa h;try dsimp only at h
  simp (maxDischargeDepth:=9) only [↓AR,AU,↓reduceIte,Nat.reduceEqDiff,Nat.reduceLT,Nat.reduceAdd,Nat.reduceSub,e1];refine Ai (Mj s_ hl3 ?_) ?_
  ·simp (maxDischargeDepth:=9) only [Bd,Da,↓reduceIte,Nat.reduceEqDiff,Nat.reduceLT,Nat.reduceSub,Bh]<;>(repeat' apply A7)<;>first|rfl|exact⟨_,rfl⟩|exact⟨_,_,rfl⟩|simp [AV,Ad]
  ·intro ex3 s3 hX3;rcases Ao with q1001_|q1001_
   ·unfold CF at hX3;dsimp only at hX3 h;obtain⟨rfl,n3_0,n3_1⟩:=hX3
    obtain rfl:=Option.some.inj h
    simp (maxDischargeDepth:=9) only [↓AR,AU,↓reduceIte,Nat.reduceEqDiff,n3_0,n3_1]
   ·unfold CF at hX3;dsimp only at hX3 h;obtain⟨rfl,⟨w0_,n3_0⟩,n3_1⟩:=hX3
    obtain rfl:=Option.some.inj h
    simp (maxDischargeDepth:=9) only [↓AR,AU,↓reduceIte,Nat.reduceEqDiff,Nat.reduceLT,n3_0,n3_1]
noncomputable def GR(x_:Int):Option (Bool):= some false
def A6B:SC:= .seq (.ops [oX 2 Cr 4]) (.seq (.ops [oM 3 0 3,oM 4 0 3,oB 5 .neq 3 (tK 3) (tK 4) 3 4,oA 2 5 4]) .ret)
theorem A1R:Tryz.f101.body.map (Bw lends)=some A6B:=by kernel_rfl
theorem AD4:CP Tryz.f101 1=true:=by kernel_rfl
theorem AIc{a l:List D}{r:D×List D}(h:CG Y.env A6B (FX Ah l.length [ResultVar.tmp 2] r) (entry a l))(ha:a.length=1):Y.call 101 a l=some r:=
 AZ (Y:=Y) rfl Tryz.func101 (ha▸AD4) A1R h
theorem Lx(x_:Int){r:Bool}(h:GR x_=some r):Y.call 101 [D.int .i64 x_] []=some (D.bool r,[]):=by
 refine AIc ?_ rfl;unfold A6B;unfold GR at h
 obtain rfl:=Option.some.inj h
 simp (maxDischargeDepth:=9) only [↓AR,AU,↓reduceIte,Nat.reduceEqDiff,Nat.reduceLT]
noncomputable def Bb(x_:AL)(target:Int)(i:Int)(j:Int):Option ((Int×Int)⊕(Int)):= if i<j then ck (0≤IntKind.i64.wrap ((IntKind.u64.wrap (IntKind.i64.wrap (i+j))).fdiv (2 ^ (min 1 (IntKind.u64.bits))))∧(IntKind.i64.wrap ((IntKind.u64.wrap (IntKind.i64.wrap (i+j))).fdiv (2 ^ (min 1 (IntKind.u64.bits))))).toNat<x_.length)<| (F7 (x_.getD ((IntKind.i64.wrap ((IntKind.u64.wrap (IntKind.i64.wrap (i+j))).fdiv (2 ^ (min 1 (IntKind.u64.bits))))).toNat) default) target).bind fun A6C=> if A6C=true then some (Sum.inl (IntKind.i64.wrap ((IntKind.i64.wrap ((IntKind.u64.wrap (IntKind.i64.wrap (i+j))).fdiv (2 ^ (min 1 (IntKind.u64.bits)))))+1),j)) else some (Sum.inl (i,IntKind.i64.wrap ((IntKind.u64.wrap (IntKind.i64.wrap (i+j))).fdiv (2 ^ (min 1 (IntKind.u64.bits)))))) else some (Sum.inr i)
noncomputable def CQ(x_:AL)(target:Int)(v:Int×Int):Option (Int):=Hu (fun v=>Bb x_ target v.1 v.2) v
noncomputable def Cc(x_:AL)(target:Int):Option (Int×Bool):= (CQ x_ target (0,(x_.length:Int))).bind fun AC=> if AC<(x_.length:Int)then ck (0≤AC∧AC.toNat<x_.length)<| if(x_.getD AC.toNat default)=target then some (AC,true) else (GR (x_.getD AC.toNat default)).bind fun A6D=> if A6D=true then (GR target).bind fun AD5=> some (AC,AD5) else some (AC,false) else some (AC,false)
def gq:SC:= .seq (.seq (.ops [oM 13 7 3,oM 14 8 3,oB 15 .lss 3 (tK 13) (tK 14) 3 4]) (.cond (tK 15) .skip (.exit 0))) (.block 1 (.seq (.ops [oM 16 7 3,oM 17 8 3,oB 18 .add 3 (tK 16) (tK 17) 3 3,oX 19 (.convert 3 91 (tK 18)) 91,oB 20 .shr 91 (tK 19) (.const (.int .u64 1)) 91 91,oX 21 (.convert 91 3 (tK 20)) 3,oA 9 21 3]) (.seq (.ops [oM 22 0 27,oM 23 9 3,oI 24 27 22 23,oL 25 3 24 3,oM 26 1 3,oC 27 93 [(tK 25),(tK 26)] [3,3] 4]) (.cond (tK 27) (.ops [oM 28 9 3,oB 29 .add 3 (tK 28) (iK 1) 3 3,oA 7 29 3]) (.ops [oM 30 9 3,oA 8 30 3])))))
def z8:SC:= .loop gq
def k70:SC:= .seq (.ops [oX 4 (.assign (iK 0)) 3,oX 5 Cr 4]) (.seq (.ops [oM 10 0 27,oN 11 10 27,oA 6 11 3]) (.seq (.ops [oM 12 6 3,oX 7 (.assign (iK 0)) 3,oA 8 12 3]) (.seq (.block 0 z8) (.seq (.ops [oM 31 7 3,oM 32 7 3,oM 33 6 3,oB 34 .lss 3 (tK 32) (tK 33) 3 4,oM 35 34 4,⟨(some 36),(.move (tK 0)),27,(some (some 35,true))⟩,⟨(some 37),(.move (tK 7)),3,(some (some 35,true))⟩,⟨(some 38),(.indexAddr 27 (tK 36) (tK 37)),0,(some (some 35,true))⟩,⟨(some 39),(.load 3 (tK 38)),3,(some (some 35,true))⟩,⟨(some 40),(.move (tK 1)),3,(some (some 35,true))⟩,⟨(some 41),(.binOp .eql 3 (tK 39) (tK 40) 3),4,(some (some 35,true))⟩,⟨(some 42),(.move (tK 41)),4,(some (some 35,true))⟩,⟨(some 43),(.move (tK 0)),27,(some (some 42,false))⟩,⟨(some 44),(.move (tK 7)),3,(some (some 42,false))⟩,⟨(some 45),(.indexAddr 27 (tK 43) (tK 44)),0,(some (some 42,false))⟩,⟨(some 46),(.load 3 (tK 45)),3,(some (some 42,false))⟩,⟨(some 47),(.call ⟨(.value (.func 101)), #[(tK 46)], #[3]⟩),4,(some (some 42,false))⟩,⟨(some 48),(.move (tK 47)),4,(some (some 42,false))⟩,⟨(some 49),(.move (tK 1)),3,(some (some 48,true))⟩,⟨(some 50),(.call ⟨(.value (.func 101)), #[(tK 49)], #[3]⟩),4,(some (some 48,true))⟩,
 ⟨(some 51),(.pick (tK 48) (tK 50) OL),4,(some (some 42,false))⟩,⟨(some 52),(.pick (tK 42) Kv (tK 51)),4,(some (some 35,true))⟩,oX 53 (.pick (tK 35) (tK 52) OL) 4,oA 4 31 3,oA 5 53 4]) .ret))))
theorem A6E:Tryz.f70.body.map (Bw lends)=some k70:=by kernel_rfl
theorem AIe:CP Tryz.f70 2=true:=by kernel_rfl
theorem c70{a l:List D}{r:D×List D}(h:CG Y.env k70 (FX Ah l.length [ResultVar.tmp 4,ResultVar.tmp 5] r) (entry a l))(ha:a.length=2):Y.call 70 a l=some r:=
 AZ (Y:=Y) rfl Tryz.func70 (ha▸AIe) A6E h
def BJ(x_:AL)(target:Int)(i:Int)(j:Int)(s:St):Prop:=s.v 0=D.sl 3 (AV (D.int .i64) x_)∧s.v 1=D.int .i64 target∧s.v 6=D.int .i64 (x_.length:Int)∧s.v 7=D.int .i64 i∧s.v 8=D.int .i64 j
def Cg(x_:AL)(target:Int)(r:Int)(ex:Ex)(s:St):Prop:=ex= .exit 0∧s.v 0=D.sl 3 (AV (D.int .i64) x_)∧s.v 1=D.int .i64 target∧s.v 6=D.int .i64 (x_.length:Int)∧s.v 7=D.int .i64 r
theorem Kw(x_:AL)(target:Int){v:Int×Int}{s:St}{r:Int}(h:CQ x_ target v=some r)(hM:BJ x_ target v.1 v.2 s):CG Y.env z8 (Cg x_ target r) s:=by
 unfold CQ at h;refine BD (c:=gq) (fun v=>Bb x_ target v.1 v.2) (fun v s=>BJ x_ target v.1 v.2 s) (Cg x_ target) ?_ h hM;clear h hM s v r;intro v s o hM h;obtain⟨i,j⟩:=v;dsimp only at h hM;unfold Bb at h;unfold BJ at hM;obtain⟨m0,m1,m2,m3,m4⟩:=hM;unfold gq;rcases iS h with⟨e1,h⟩|⟨e1,h⟩
 ·obtain⟨e2,h⟩:=EQ h;obtain⟨A6C,hl3,h⟩:=Aa h;have c3:=OD (x_.getD ((IntKind.i64.wrap ((IntKind.u64.wrap (IntKind.i64.wrap (i+j))).fdiv (2 ^ (min 1 (IntKind.u64.bits))))).toNat) default) target hl3;rcases iS h with⟨e4,h⟩|⟨e4,h⟩
  ·obtain rfl:=Option.some.inj h
   simp (maxDischargeDepth:=9) only [↓AR,AU,↓reduceIte,Nat.reduceEqDiff,Nat.reduceLT,Nat.reduceAdd,Int.reduceLT,Int.reduceToNat,m0,m1,m2,m3,m4,e1,e2.1,e2.2,c3,e4,BJ,FV]
  ·have e4f:A6C=false:=Ju.mpr e4
   obtain rfl:=Option.some.inj h
   simp (maxDischargeDepth:=9) only [↓AR,AU,↓reduceIte,Nat.reduceEqDiff,Nat.reduceLT,Nat.reduceAdd,Int.reduceLT,Int.reduceToNat,m0,m1,m2,m3,m4,e1,e2.1,e2.2,c3,e4f,BJ,FV]
 ·obtain rfl:=Option.some.inj h
  simp (maxDischargeDepth:=9) only [↓AR,AU,↓reduceIte,Nat.reduceEqDiff,Nat.reduceLT,m0,m1,m2,m3,m4,e1,BJ,Cg,KF]
theorem LF(x_:AL)(target:Int){r:Int×Bool}(h:Cc x_ target=some r):Y.call 70 [D.sl 3 (AV (D.int .i64) x_),D.int .i64 target] []=some (D.tup [D.int .i64 r.1,D.bool r.2],[]):=by
 refine c70 ?_ rfl;unfold k70;unfold Cc at h;obtain⟨AC,hl2,h⟩:=Aa h;try dsimp only at h
 simp (maxDischargeDepth:=9) only [↓AR,AU,↓reduceIte,Nat.reduceEqDiff,Nat.reduceLT];refine Ai (Kw x_ target hl2 ?_) ?_
 ·simp (maxDischargeDepth:=9) only [Bd,Da,↓reduceIte,Nat.reduceEqDiff,Nat.reduceLT,BJ]
 ·intro ex2 s2 hX2;unfold Cg at hX2;obtain⟨rfl,n2_0,n2_1,n2_2,n2_3⟩:=hX2;rcases iS h with⟨e3,h⟩|⟨e3,h⟩
  ·obtain⟨e4,h⟩:=EQ h;rcases iS h with⟨e5,h⟩|⟨e5,h⟩
   ·obtain rfl:=Option.some.inj h
    simp (maxDischargeDepth:=9) only [↓AR,AU,↓reduceIte,Nat.reduceEqDiff,Nat.reduceLT,n2_0,n2_1,n2_2,n2_3,e3,e4.1,e4.2,decide_eq_true e5]
   ·obtain⟨A6D,hl6,h⟩:=Aa h;have c6:=Lx (x_.getD AC.toNat default) hl6;rcases iS h with⟨e7,h⟩|⟨e7,h⟩
    ·obtain⟨AD5,hl8,h⟩:=Aa h;try dsimp only at h
     have c8:=Lx target hl8
     obtain rfl:=Option.some.inj h
     simp (maxDischargeDepth:=9) only [↓AR,AU,↓reduceIte,Nat.reduceEqDiff,Nat.reduceLT,Nat.reduceAdd,n2_0,n2_1,n2_2,n2_3,e3,e4.1,e4.2,e5,c6,e7,c8]
    ·have e7f:A6D=false:=Ju.mpr e7
     obtain rfl:=Option.some.inj h
     simp (maxDischargeDepth:=9) only [↓AR,AU,↓reduceIte,Nat.reduceEqDiff,Nat.reduceLT,Nat.reduceAdd,n2_0,n2_1,n2_2,n2_3,e3,e4.1,e4.2,e5,c6,e7f]
  ·obtain rfl:=Option.some.inj h
   simp (maxDischargeDepth:=9) only [↓AR,AU,↓reduceIte,Nat.reduceEqDiff,Nat.reduceLT,n2_2,n2_3,e3]
noncomputable def Ja(list:AO):Option (AO):= ck (list.length<4611686018427387904)<| ck (∀x∈list,x.length≤9223372036854775807)<| ck ((F6 list).length≤9223372036854775807)<| ck (∀x∈(F6 list),x.length≤9223372036854775807)<| some (dedL (F6 list))
def k71:SC:= .seq (.ops [oX 2 Ev 22]) (.seq (.ops [oM 3 0 22,oC 4 102 [(tK 3),(.func 64)] [22,62] 0]) (.seq (.ops [oM 5 0 22,oC 6 103 [(tK 5),(.func 104)] [22,32] 22,oA 2 6 22]) .ret))
theorem A6F:Tryz.f71.body.map (Bw lends)=some k71:=by kernel_rfl
theorem AIg:CP Tryz.f71 1=true:=by kernel_rfl
theorem c71{a l:List D}{r:D×List D}(h:CG Y.env k71 (FX Ah l.length [ResultVar.tmp 2] r) (entry a l))(ha:a.length=1):Y.call 71 a l=some r:=
 AZ (Y:=Y) rfl Tryz.func71 (ha▸AIg) A6F h
theorem P7(list:AO){r:AO}(h:Ja list=some r):Y.call 71 [D.vw [100000] 0 0] [D.own 27 (AV KQ list)]=some (D.own 27 (AV KQ r),[D.undef]):=by
 refine c71 ?_ rfl;unfold k71;unfold Ja at h;obtain⟨e1,e2,h⟩:=Hw h;have c3:=uh list e1 e2;obtain⟨e4,e5,h⟩:=Hw h;have c6:=uj (F6 list) e4 e5
 obtain rfl:=Option.some.inj h
 simp (maxDischargeDepth:=9) only [↓AR,AU,↓reduceIte,Nat.reduceEqDiff,Nat.reduceLT,Nat.reduceAdd,Nat.reduceSub,c3,c6]
noncomputable def Fg(full:AO)(H7:AL)(out:AO)(JK:Int)(numbers:AL)(R3:Int):Option ((AL×Int)⊕(AL)):= if R3<((full.getD JK.toNat default).length:Int)then ck (0≤R3∧R3.toNat<(full.getD JK.toNat default).length)<| (Cc H7 ((full.getD JK.toNat default).getD R3.toNat default)).bind fun AD6=> ck (numbers.length+1<1099511627776)<| some (Sum.inl ((numbers++[AD6.1]),IntKind.i64.wrap (R3+1))) else some (Sum.inr numbers)
noncomputable def K4(full:AO)(H7:AL)(out:AO)(JK:Int)(v:AL×Int):Option (AL):=Hu (fun v=>Fg full H7 out JK v.1 v.2) v
noncomputable def Fh(full:AO)(H7:AL)(out:AO)(JK:Int):Option ((AO×Int)⊕(AO)):= if JK<(full.length:Int)then ck (0≤JK∧JK.toNat<full.length)<| (K4 full H7 out JK ([],0)).bind fun AC=> ck (AC.length<4611686018427387904)<| ck (out.length+1<1099511627776)<| some (Sum.inl ((out++[(ER AC)]),IntKind.i64.wrap (JK+1))) else some (Sum.inr out)
noncomputable def K5(full:AO)(H7:AL)(v:AO×Int):Option (AO):=Hu (fun v=>Fh full H7 v.1 v.2) v
noncomputable def K6(full:AO):Option (AL×AO):= (Dq full).bind fun fu=> ck (fu.length<4611686018427387904)<| (Db (ER fu)).bind fun H7=> (K5 full H7 ([],0)).bind fun Ao=> (Ja Ao).bind fun UF=> some (H7,UF)
def gu:SC:= .seq (.ops [oB 28 .lss 3 (tK 27) (tK 26) 3 0]) (.seq (.cond (tK 28) .skip (.exit 2)) (.seq (.block 3 (.seq (.ops [oI 29 27 25 27,oL 30 3 29 3,oA 10 30 3]) (.seq (.ops [oM 32 4 27,oM 33 10 3,oC 34 70 [(tK 32),(tK 33)] [27,3] 72,oM 31 34 72,oE 35 31 0 3,oE 36 31 1 4,oA 11 35 3,oA 12 36 4]) (.ops [oM 37 8 27,oM 38 11 3,oX 39 (.buildSlice 27 1 #[(0,(tK 38))]) 27,oX 40 (.call ⟨(.builtin .append), #[(tK 37),(tK 39)], #[27,27]⟩) 27,oA 8 40 27])))) (.ops [oB 41 .add 3 (tK 27) (iK 1) 3 3,oM 27 41 3])))
def zA:SC:= .loop gu
def gy:SC:= .seq (.ops [oB 22 .lss 3 (tK 21) (tK 20) 3 0]) (.seq (.cond (tK 22) .skip (.exit 0)) (.seq (.block 1 (.seq (.ops [oI 23 22 19 21,oL 24 27 23 27,oA 7 24 27]) (.seq (.ops [oX 8 Ev 27]) (.seq (.seq (.ops [oM 25 7 27,oN 26 25 27,oX 27 (.move (iK 0)) 3]) (.block 2 zA)) (.seq (.ops [oM 42 8 27,oC 43 68 [(tK 42)] [27] 0]) (.ops [oM 44 5 22,oM 45 8 27,oX 46 (.buildSlice 22 1 #[(0,(tK 45))]) 22,oX 47 (.call ⟨(.builtin .append), #[(tK 44),(tK 46)], #[22,22]⟩) 22,oA 5 47 22])))))) (.ops [oB 48 .add 3 (tK 21) (iK 1) 3 3,oM 21 48 3])))
def zC:SC:= .loop gy
def k41:SC:= .seq (.ops [oX 2 Ev 27,oX 3 Ev 22]) (.seq (.ops [oM 13 0 22,oC 14 67 [(tK 13)] [22] 27,oA 4 14 27]) (.seq (.ops [oM 15 4 27,oC 16 68 [(tK 15)] [27] 0]) (.seq (.ops [oM 17 4 27,oC 18 69 [(tK 17)] [27] 27,oA 4 18 27]) (.seq (.ops [oX 5 Ev 22]) (.seq (.seq (.ops [oM 19 0 22,oN 20 19 22,oX 21 (.move (iK 0)) 3]) (.block 0 zC)) (.seq (.ops [oM 49 4 27,oM 50 5 22,oC 51 71 [(tK 50)] [22] 22,oA 2 49 27,oA 3 51 22]) .ret))))))
theorem A6G:Tryz.f41.body.map (Bw lends)=some k41:=by kernel_rfl
theorem AIi:CP Tryz.f41 1=true:=by kernel_rfl
theorem c41{a l:List D}{r:D×List D}(h:CG Y.env k41 (FX Ah l.length [ResultVar.tmp 2,ResultVar.tmp 3] r) (entry a l))(ha:a.length=1):Y.call 41 a l=some r:=
 AZ (Y:=Y) rfl Tryz.func41 (ha▸AIi) A6G h
def Fj(full:AO)(H7:AL)(out:AO)(JK:Int)(numbers:AL)(R3:Int)(s:St):Prop:=s.v 4=D.own 3 (AV (D.int .i64) H7)∧s.v 5=D.own 27 (AV KQ out)∧s.v 8=D.own 3 (AV (D.int .i64) numbers)∧s.v 19=D.sl 27 (AV Aw full)∧s.v 20=D.int .i64 (full.length:Int)∧s.v 21=D.int .i64 JK∧s.v 25=D.sl 3 (AV (D.int .i64) (full.getD JK.toNat default))∧s.v 26=D.int .i64 ((full.getD JK.toNat default).length:Int)∧s.v 27=D.int .i64 R3
def KY(full:AO)(H7:AL)(out:AO)(JK:Int)(r:AL)(ex:Ex)(s:St):Prop:=ex= .exit 2∧s.v 4=D.own 3 (AV (D.int .i64) H7)∧s.v 5=D.own 27 (AV KQ out)∧s.v 8=D.own 3 (AV (D.int .i64) r)∧s.v 19=D.sl 27 (AV Aw full)∧s.v 20=D.int .i64 (full.length:Int)∧s.v 21=D.int .i64 JK
theorem VI(full:AO)(H7:AL)(out:AO)(JK:Int){v:AL×Int}{s:St}{r:AL}(h:K4 full H7 out JK v=some r)(hM:Fj full H7 out JK v.1 v.2 s):CG Y.env zA (KY full H7 out JK r) s:=by
 unfold K4 at h;refine BD (c:=gu) (fun v=>Fg full H7 out JK v.1 v.2) (fun v s=>Fj full H7 out JK v.1 v.2 s) (KY full H7 out JK) ?_ h hM;clear h hM s v r;intro v s o hM h;obtain⟨numbers,R3⟩:=v;dsimp only at h hM;unfold Fg at h;unfold Fj at hM;obtain⟨m0,m1,m2,m3,m4,m5,m6,m7,m8⟩:=hM;unfold gu;rcases iS h with⟨e7,h⟩|⟨e7,h⟩
 ·obtain⟨e8,h⟩:=EQ h;obtain⟨AD6,hl9,h⟩:=Aa h;have c9:=LF H7 ((full.getD JK.toNat default).getD R3.toNat default) hl9;obtain⟨e10,h⟩:=EQ h
  obtain rfl:=Option.some.inj h
  simp (maxDischargeDepth:=9) only [↓AR,AU,↓reduceIte,Nat.reduceEqDiff,Nat.reduceLT,Nat.reduceLeDiff,Nat.reduceAdd,m0,m1,m2,m3,m4,m5,m6,m7,m8,e7,e8.1,e8.2,c9,e10,Fj,FV]
 ·obtain rfl:=Option.some.inj h
  simp (maxDischargeDepth:=9) only [↓AR,AU,↓reduceIte,Nat.reduceEqDiff,Nat.reduceLT,m0,m1,m2,m3,m4,m5,m7,m8,e7,Fj,KY,KF]
def Fp(full:AO)(H7:AL)(out:AO)(JK:Int)(s:St):Prop:=s.v 4=D.own 3 (AV (D.int .i64) H7)∧s.v 5=D.own 27 (AV KQ out)∧s.v 19=D.sl 27 (AV Aw full)∧s.v 20=D.int .i64 (full.length:Int)∧s.v 21=D.int .i64 JK
def KZ(full:AO)(H7:AL)(r:AO)(ex:Ex)(s:St):Prop:=ex= .exit 0∧s.v 4=D.own 3 (AV (D.int .i64) H7)∧s.v 5=D.own 27 (AV KQ r)
theorem VJ(full:AO)(H7:AL){v:AO×Int}{s:St}{r:AO}(h:K5 full H7 v=some r)(hM:Fp full H7 v.1 v.2 s):CG Y.env zC (KZ full H7 r) s:=by
 unfold K5 at h;refine BD (c:=gy) (fun v=>Fh full H7 v.1 v.2) (fun v s=>Fp full H7 v.1 v.2 s) (KZ full H7) ?_ h hM;clear h hM s v r;intro v s o hM h;obtain⟨out,JK⟩:=v;dsimp only at h hM;unfold Fh at h;unfold Fp at hM;obtain⟨m0,m1,m2,m3,m4⟩:=hM;unfold gy;rcases iS h with⟨e5,h⟩|⟨e5,h⟩
 ·obtain⟨e6,h⟩:=EQ h;obtain⟨AC,hl8,h⟩:=Aa h;try dsimp only at h
  simp (maxDischargeDepth:=9) only [↓AR,AU,↓reduceIte,Nat.reduceEqDiff,Nat.reduceLT,m2,m3,m4,e5,e6.1,e6.2];refine Ai (VI full H7 out JK hl8 ?_) ?_
  ·simp (maxDischargeDepth:=9) only [Bd,↓reduceIte,Nat.reduceEqDiff,m0,m1,m2,m3,m4,Fj]<;>(repeat' apply A7)<;>first|rfl|exact⟨_,rfl⟩|exact⟨_,_,rfl⟩|simp [AV,Ad]
  ·intro ex8 s8 hX8;unfold KY at hX8;obtain⟨rfl,n8_0,n8_1,n8_2,n8_3,n8_4,n8_5⟩:=hX8;obtain⟨e9,h⟩:=EQ h;have jO:=fI AC e9;obtain⟨e11,h⟩:=EQ h
   obtain rfl:=Option.some.inj h
   simp (maxDischargeDepth:=9) only [↓AR,AU,↓reduceIte,Nat.reduceEqDiff,Nat.reduceLT,Nat.reduceLeDiff,Nat.reduceAdd,n8_0,n8_1,n8_2,n8_3,n8_4,n8_5,jO,e11,Fp,FV]
 ·obtain rfl:=Option.some.inj h
  simp (maxDischargeDepth:=9) only [↓AR,AU,↓reduceIte,Nat.reduceEqDiff,Nat.reduceLT,m0,m1,m3,m4,e5,Fp,KZ,KF]
theorem QZ(full:AO){r:AL×AO}(h:K6 full=some r):Y.call 41 [D.sl 27 (AV Aw full)] []=some (D.tup [D.own 3 (AV (D.int .i64) r.1),D.own 27 (AV KQ r.2)],[]):=by
 refine c41 ?_ rfl;unfold k41;unfold K6 at h;obtain⟨fu,hl1,h⟩:=Aa h;have c1:=Nt full hl1;obtain⟨e2,h⟩:=EQ h;have c3:=fI fu e2;obtain⟨H7,hl4,h⟩:=Aa h;have c4:=NB (ER fu) hl4;obtain⟨Ao,hl6,h⟩:=Aa h;try dsimp only at h
 simp (maxDischargeDepth:=9) only [↓AR,AU,↓reduceIte,Nat.reduceEqDiff,Nat.reduceLT,Nat.reduceAdd,c1,c3,c4];refine Ai (VJ full H7 hl6 ?_) ?_
 ·simp (maxDischargeDepth:=9) only [Bd,↓reduceIte,Nat.reduceEqDiff,Fp]<;>(repeat' apply A7)<;>first|rfl|exact⟨_,rfl⟩|exact⟨_,_,rfl⟩|simp [AV,Ad]
 ·intro ex6 s6 hX6;unfold KZ at hX6;obtain⟨rfl,n6_0,n6_1⟩:=hX6;obtain⟨UF,hl7,h⟩:=Aa h;try dsimp only at h
  have c7:=P7 Ao hl7
  obtain rfl:=Option.some.inj h
  simp (maxDischargeDepth:=9) only [↓AR,AU,↓reduceIte,Nat.reduceEqDiff,Nat.reduceLT,Nat.reduceAdd,n6_0,n6_1,c7]
theorem K7(xs:AL)(h:xs.length<1099511627776):Y.call 106 [.sl 3 (AV (D.int .i64) xs)] []=some (.own 3 (AV (D.int .i64) xs),[]):=by
 refine ul (AV (D.int .i64) xs) (by rw [Co];exact h) (bf _ _ (fun x=>rfl)) (Yf _ _ (fun x=>by first|exact hoI .. |exact A8m .. |exact hoB .. |exact hoS ..)) ?_
 simp (maxDischargeDepth:=9) only [Bd,A5I,Da]
noncomputable def Fq(labels:Int)(size:Int)(out:AO)(EW:Int)(FC:Int)(next1:AO)(a:Int):Option ((AO×Int)⊕(AO)):= if a<labels then ck (FC.toNat<out.length)<| ck ((out.getD FC.toNat default).length<1099511627776)<| ck ((out.getD FC.toNat default).length+1<1099511627776)<| ck (next1.length+1<1099511627776)<| some (Sum.inl ((next1++[((out.getD FC.toNat default)++[a])]),IntKind.i64.wrap (a+1))) else some (Sum.inr next1)
noncomputable def IU(labels:Int)(size:Int)(out:AO)(EW:Int)(FC:Int)(v:AO×Int):Option (AO):=Hu (fun v=>Fq labels size out EW FC v.1 v.2) v
noncomputable def Fv(labels:Int)(size:Int)(out:AO)(EW:Int)(next:AO)(FC:Int):Option ((AO×Int)⊕(AO)):= if FC<(out.length:Int)then ck (0≤FC∧FC.toNat<out.length)<| if 0<((out.getD FC.toNat default).length:Int)then ck (0≤IntKind.i64.wrap (((out.getD FC.toNat default).length:Int)-1)∧(IntKind.i64.wrap (((out.getD FC.toNat default).length:Int)-1)).toNat<(out.getD FC.toNat default).length)<| (IU labels size out EW FC (next,((out.getD FC.toNat default).getD ((IntKind.i64.wrap (((out.getD FC.toNat default).length:Int)-1)).toNat) default))).bind fun AC=> some (Sum.inl (AC,IntKind.i64.wrap (FC+1))) else (IU labels size out EW FC (next,0)).bind fun AC=> some (Sum.inl (AC,IntKind.i64.wrap (FC+1))) else some (Sum.inr next)
noncomputable def K8(labels:Int)(size:Int)(out:AO)(EW:Int)(v:AO×Int):Option (AO):=Hu (fun v=>Fv labels size out EW v.1 v.2) v
noncomputable def Fw(labels:Int)(size:Int)(out:AO)(EW:Int):Option ((AO×Int)⊕(AO)):= if EW<size then (K8 labels size out EW ([],0)).bind fun Ao=> some (Sum.inl (Ao,IntKind.i64.wrap (EW+1))) else some (Sum.inr out)
noncomputable def MS(labels:Int)(size:Int)(v:AO×Int):Option (AO):=Hu (fun v=>Fw labels size v.1 v.2) v
noncomputable def M0(labels:Int)(size:Int):Option (AO):= (MS labels size ([[]],0)).bind fun Lh=> some Lh
def gz:SC:= .seq (.seq (.ops [oM 31 10 3,oM 32 0 3,oB 33 .lss 3 (tK 31) (tK 32) 3 4]) (.cond (tK 33) .skip (.exit 4))) (.seq (.block 5 (.ops [oM 36 6 22,oM 37 8 27,oC 38 106 [(tK 37)] [27] 27,oM 39 10 3,oX 40 (.buildSlice 27 1 #[(0,(tK 39))]) 27,oX 41 (.call ⟨(.builtin .append), #[(tK 38),(tK 40)], #[27,27]⟩) 27,oX 42 (.buildSlice 22 1 #[(0,(tK 41))]) 22,oX 43 (.call ⟨(.builtin .append), #[(tK 36),(tK 42)], #[22,22]⟩) 22,oA 6 43 22])) (.ops [oM 34 10 3,oB 35 .add 3 (tK 34) (iK 1) 3 3,oA 10 35 3]))
def zD:SC:= .loop gz
def iA:SC:= .seq (.ops [oB 18 .lss 3 (tK 17) (tK 16) 3 0]) (.seq (.cond (tK 18) .skip (.exit 2)) (.seq (.block 3 (.seq (.ops [oI 19 22 15 17,oL 20 27 19 27,oA 8 20 27]) (.seq (.ops [oX 9 (.assign (iK 0)) 3]) (.seq (.seq (.ops [oM 21 8 27,oN 22 21 27,oB 23 .gtr 3 (tK 22) (iK 0) 3 4]) (.cond (tK 23) (.ops [oM 24 8 27,oM 25 8 27,oN 26 25 27,oB 27 .sub 3 (tK 26) (iK 1) 3 3,oI 28 27 24 27,oL 29 3 28 3,oA 9 29 3]) .skip)) (.seq (.ops [oM 30 9 3,oA 10 30 3]) (.block 4 zD)))))) (.ops [oB 44 .add 3 (tK 17) (iK 1) 3 3,oM 17 44 3])))
def zF:SC:= .loop iA
def iB:SC:= .seq (.ops [oB 14 .lss 3 (tK 13) (tK 12) 3 4]) (.seq (.cond (tK 14) .skip (.exit 0)) (.seq (.block 1 (.seq (.ops [oX 6 Ev 22]) (.seq (.seq (.ops [oM 15 5 22,oN 16 15 22,oX 17 (.move (iK 0)) 3]) (.block 2 zF)) (.ops [oM 45 6 22,oA 5 45 22])))) (.ops [oB 46 .add 3 (tK 13) (iK 1) 3 3,oM 13 46 3])))
def zG:SC:= .loop iB
def k73:SC:= .seq (.ops [oX 4 Ev 22]) (.seq (.ops [oX 11 (.buildSlice 22 1 #[(0,(.const (.slice none 0 0)))]) 22,oA 5 11 22]) (.seq (.seq (.ops [oM 12 1 3,oX 13 (.move (iK 0)) 3]) (.block 0 zG)) (.seq (.ops [oM 47 5 22,oA 4 47 22]) .ret)))
theorem A6H:Tryz.f73.body.map (Bw lends)=some k73:=by kernel_rfl
theorem AIl:CP Tryz.f73 2=true:=by kernel_rfl
theorem c73{a l:List D}{r:D×List D}(h:CG Y.env k73 (FX Ah l.length [ResultVar.tmp 4] r) (entry a l))(ha:a.length=2):Y.call 73 a l=some r:=
 AZ (Y:=Y) rfl Tryz.func73 (ha▸AIl) A6H h
def Ee(labels:Int)(size:Int)(out:AO)(EW:Int)(FC:Int)(next1:AO)(a:Int)(s:St):Prop:=s.v 0=D.int .i64 labels∧s.v 5=D.own 27 (AV KQ out)∧s.v 6=D.own 27 (AV KQ next1)∧s.v 8=D.vw [5,FC.toNat] (s.k 5) (s.m 5)∧s.v 10=D.int .i64 a∧s.v 12=D.int .i64 size∧s.v 13=D.int .i64 EW∧(∃w_,s.v 15=D.vw [5] (s.k 5) w_)∧s.v 16=D.int .i64 (out.length:Int)∧s.v 17=D.int .i64 FC
def IV(labels:Int)(size:Int)(out:AO)(EW:Int)(FC:Int)(r:AO)(ex:Ex)(s:St):Prop:=ex= .exit 4∧s.v 0=D.int .i64 labels∧s.v 5=D.own 27 (AV KQ out)∧s.v 6=D.own 27 (AV KQ r)∧s.v 12=D.int .i64 size∧s.v 13=D.int .i64 EW∧(∃w_,s.v 15=D.vw [5] (s.k 5) w_)∧s.v 16=D.int .i64 (out.length:Int)∧s.v 17=D.int .i64 FC
theorem Pn(labels:Int)(size:Int)(out:AO)(EW:Int)(FC:Int){v:AO×Int}{s:St}{r:AO}(h:IU labels size out EW FC v=some r)(hM:Ee labels size out EW FC v.1 v.2 s):CG Y.env zD (IV labels size out EW FC r) s:=by
 unfold IU at h;refine BD (c:=gz) (fun v=>Fq labels size out EW FC v.1 v.2) (fun v s=>Ee labels size out EW FC v.1 v.2 s) (IV labels size out EW FC) ?_ h hM;clear h hM s v r;intro v s o hM h;obtain⟨next1,a⟩:=v;dsimp only at h hM;unfold Fq at h;unfold Ee at hM;obtain⟨m0,m1,m2,m3,m4,m5,m6,⟨w7_,m7⟩,m8,m9⟩:=hM;unfold gz;rcases iS h with⟨e6,h⟩|⟨e6,h⟩
 ·obtain⟨e7,e8,h⟩:=Hw h;have c9:=K7 (out.getD FC.toNat default) e8;obtain⟨e10,e11,h⟩:=Hw h
  obtain rfl:=Option.some.inj h
  simp (maxDischargeDepth:=9) only [↓AR,AU,↓reduceIte,Nat.reduceEqDiff,Nat.reduceLT,Nat.reduceLeDiff,Nat.reduceAdd,m0,m1,m2,m3,m4,m5,m6,m7,m8,m9,e6,e7,c9,e10,e11,Ee,FV]<;>(repeat' apply A7)<;>first|rfl|exact⟨_,rfl⟩|exact⟨_,_,rfl⟩|simp [AV,Ad]
 ·obtain rfl:=Option.some.inj h
  simp (maxDischargeDepth:=9) only [↓AR,AU,↓reduceIte,Nat.reduceEqDiff,Nat.reduceLT,m0,m1,m2,m4,m5,m6,m7,m8,m9,e6,Ee,IV,KF]<;>(repeat' apply A7)<;>first|rfl|exact⟨_,rfl⟩|exact⟨_,_,rfl⟩|simp [AV,Ad]
def Ef(labels:Int)(size:Int)(out:AO)(EW:Int)(next:AO)(FC:Int)(s:St):Prop:=s.v 0=D.int .i64 labels∧s.v 5=D.own 27 (AV KQ out)∧s.v 6=D.own 27 (AV KQ next)∧s.v 12=D.int .i64 size∧s.v 13=D.int .i64 EW∧(∃w_,s.v 15=D.vw [5] (s.k 5) w_)∧s.v 16=D.int .i64 (out.length:Int)∧s.v 17=D.int .i64 FC
def Ka(labels:Int)(size:Int)(out:AO)(EW:Int)(r:AO)(ex:Ex)(s:St):Prop:=ex= .exit 2∧s.v 0=D.int .i64 labels∧s.v 6=D.own 27 (AV KQ r)∧s.v 12=D.int .i64 size∧s.v 13=D.int .i64 EW
theorem VK(labels:Int)(size:Int)(out:AO)(EW:Int){v:AO×Int}{s:St}{r:AO}(h:K8 labels size out EW v=some r)(hM:Ef labels size out EW v.1 v.2 s):CG Y.env zF (Ka labels size out EW r) s:=by
 unfold K8 at h;refine BD (c:=iA) (fun v=>Fv labels size out EW v.1 v.2) (fun v s=>Ef labels size out EW v.1 v.2 s) (Ka labels size out EW) ?_ h hM;clear h hM s v r;intro v s o hM h;obtain⟨next,FC⟩:=v;dsimp only at h hM;unfold Fv at h;unfold Ef at hM;obtain⟨m0,m1,m2,m3,m4,⟨w5_,m5⟩,m6,m7⟩:=hM;unfold iA;rcases iS h with⟨e2,h⟩|⟨e2,h⟩
 ·obtain⟨e3,h⟩:=EQ h;rcases iS h with⟨e4,h⟩|⟨e4,h⟩
  ·obtain⟨e5,h⟩:=EQ h;obtain⟨AC,hl7,h⟩:=Aa h;try dsimp only at h
   simp (maxDischargeDepth:=9) only [↓AR,AU,↓reduceIte,Nat.reduceEqDiff,Nat.reduceLT,m1,m5,m6,m7,e2,e3.1,e3.2,e4,e5.1,e5.2];refine Ai (Pn labels size out EW FC hl7 ?_) ?_
   ·simp (maxDischargeDepth:=9) only [Bd,↓reduceIte,Nat.reduceEqDiff,m0,m1,m2,m3,m4,m5,m6,m7,Ee]<;>(repeat' apply A7)<;>first|rfl|exact⟨_,rfl⟩|exact⟨_,_,rfl⟩|simp [AV,Ad]
   ·intro ex7 s7 hX7;unfold IV at hX7;obtain⟨rfl,n7_0,n7_1,n7_2,n7_3,n7_4,⟨w5_,n7_5⟩,n7_6,n7_7⟩:=hX7
    obtain rfl:=Option.some.inj h
    simp (maxDischargeDepth:=9) only [↓AR,AU,↓reduceIte,Nat.reduceEqDiff,Nat.reduceLT,n7_0,n7_1,n7_2,n7_3,n7_4,n7_5,n7_6,n7_7,Ef,FV]<;>(repeat' apply A7)<;>first|rfl|exact⟨_,rfl⟩|exact⟨_,_,rfl⟩|simp [AV,Ad]
  ·obtain⟨AC,hl6,h⟩:=Aa h;try dsimp only at h
   simp (maxDischargeDepth:=9) only [↓AR,AU,↓reduceIte,Nat.reduceEqDiff,Nat.reduceLT,m1,m5,m6,m7,e2,e3.1,e3.2,e4];refine Ai (Pn labels size out EW FC hl6 ?_) ?_
   ·simp (maxDischargeDepth:=9) only [Bd,↓reduceIte,Nat.reduceEqDiff,m0,m1,m2,m3,m4,m5,m6,m7,Ee]<;>(repeat' apply A7)<;>first|rfl|exact⟨_,rfl⟩|exact⟨_,_,rfl⟩|simp [AV,Ad]
   ·intro ex6 s6 hX6;unfold IV at hX6;obtain⟨rfl,n6_0,n6_1,n6_2,n6_3,n6_4,⟨w5_,n6_5⟩,n6_6,n6_7⟩:=hX6
    obtain rfl:=Option.some.inj h
    simp (maxDischargeDepth:=9) only [↓AR,AU,↓reduceIte,Nat.reduceEqDiff,Nat.reduceLT,n6_0,n6_1,n6_2,n6_3,n6_4,n6_5,n6_6,n6_7,Ef,FV]<;>(repeat' apply A7)<;>first|rfl|exact⟨_,rfl⟩|exact⟨_,_,rfl⟩|simp [AV,Ad]
 ·obtain rfl:=Option.some.inj h
  simp (maxDischargeDepth:=9) only [↓AR,AU,↓reduceIte,Nat.reduceEqDiff,Nat.reduceLT,m0,m2,m3,m4,m6,m7,e2,Ef,Ka,KF]
def Fx(labels:Int)(size:Int)(out:AO)(EW:Int)(s:St):Prop:=s.v 0=D.int .i64 labels∧s.v 5=D.own 27 (AV KQ out)∧s.v 12=D.int .i64 size∧s.v 13=D.int .i64 EW
def Kb(labels:Int)(size:Int)(r:AO)(ex:Ex)(s:St):Prop:=ex= .exit 0∧s.v 5=D.own 27 (AV KQ r)
theorem VL(labels:Int)(size:Int){v:AO×Int}{s:St}{r:AO}(h:MS labels size v=some r)(hM:Fx labels size v.1 v.2 s):CG Y.env zG (Kb labels size r) s:=by
 unfold MS at h;refine BD (c:=iB) (fun v=>Fw labels size v.1 v.2) (fun v s=>Fx labels size v.1 v.2 s) (Kb labels size) ?_ h hM;clear h hM s v r;intro v s o hM h;obtain⟨out,EW⟩:=v;dsimp only at h hM;unfold Fw at h;unfold Fx at hM;obtain⟨m0,m1,m2,m3⟩:=hM;unfold iB;rcases iS h with⟨e1,h⟩|⟨e1,h⟩
 ·obtain⟨Ao,hl3,h⟩:=Aa h;try dsimp only at h
  simp (maxDischargeDepth:=9) only [↓AR,AU,↓reduceIte,Nat.reduceEqDiff,Nat.reduceLT,m1,m2,m3,e1];refine Ai (VK labels size out EW hl3 ?_) ?_
  ·simp (maxDischargeDepth:=9) only [Bd,↓reduceIte,Nat.reduceEqDiff,m0,m1,m2,m3,Ef]<;>(repeat' apply A7)<;>first|rfl|exact⟨_,rfl⟩|exact⟨_,_,rfl⟩|simp [AV,Ad]
  ·intro ex3 s3 hX3;unfold Ka at hX3;obtain⟨rfl,n3_0,n3_1,n3_2,n3_3⟩:=hX3
   obtain rfl:=Option.some.inj h
   simp (maxDischargeDepth:=9) only [↓AR,AU,↓reduceIte,Nat.reduceEqDiff,Nat.reduceLT,n3_0,n3_1,n3_2,n3_3,Fx,FV]
 ·obtain rfl:=Option.some.inj h
  simp (maxDischargeDepth:=9) only [↓AR,AU,↓reduceIte,Nat.reduceEqDiff,Nat.reduceLT,m1,m2,m3,e1,Fx,Kb,KF]
theorem Qa(labels:Int)(size:Int){r:AO}(h:M0 labels size=some r):Y.call 73 [D.int .i64 labels,D.int .i64 size] []=some (D.own 27 (AV KQ r),[]):=by
 refine c73 ?_ rfl;unfold k73;unfold M0 at h;obtain⟨Lh,hl2,h⟩:=Aa h;try dsimp only at h
 simp (maxDischargeDepth:=9) only [↓AR,AU,↓reduceIte,Nat.reduceEqDiff,Nat.reduceLT,Nat.reduceLeDiff,Nat.reduceAdd];refine Ai (VL labels size hl2 ?_) ?_
 ·simp (maxDischargeDepth:=9) only [Bd,Da,↓reduceIte,Nat.reduceEqDiff,Nat.reduceLT,Fx]<;>(repeat' apply A7)<;>first|rfl|exact⟨_,rfl⟩|exact⟨_,_,rfl⟩|simp [AV,Ad]
 ·intro ex2 s2 hX2;unfold Kb at hX2;obtain⟨rfl,n2_0⟩:=hX2
  obtain rfl:=Option.some.inj h
  simp (maxDischargeDepth:=9) only [↓AR,AU,↓reduceIte,Nat.reduceEqDiff,Nat.reduceLT,n2_0]
noncomputable def Aq(s_:AO)(f:AL→Option Bool)(O8:Int):Option ((Int)⊕(Int⊕Unit)):= if O8<(s_.length:Int)then ck (0≤O8∧O8.toNat<s_.length)<| (f (s_.getD O8.toNat default)).bind fun aT=> if aT=true then some (Sum.inr (Sum.inl O8)) else some (Sum.inl (IntKind.i64.wrap (O8+1))) else some (Sum.inr (Sum.inr ()))
noncomputable def CW(s_:AO)(f:AL→Option Bool)(v:Int):Option (Int⊕Unit):=Hu (fun v=>Aq s_ f v) v
noncomputable def Bo(s_:AO)(f:AL→Option Bool):Option (Int):=
 (CW s_ f 0).bind fun AC=>
 match AC with
 | .inl q1000_=>
  some q1000_
 | .inr q1000_=>
  some (-1)
def ZH:SC:= .seq (.ops [oB 9 .lss 3 (tK 8) (tK 7) 3 0]) (.seq (.cond (tK 9) .skip (.exit 0)) (.seq (.block 1 (.seq (.ops [oM 10 8 3,oA 5 10 3]) (.seq (.ops [oM 11 1 52,oM 12 0 22,oM 13 5 3,oI 14 22 12 13,oL 15 27 14 27,oX 16 (.call ⟨(.value (tK 11)), #[(tK 15)], #[27]⟩) 4]) (.cond (tK 16) (.seq (.ops [oM 17 5 3,oA 4 17 3]) .ret) .skip)))) (.ops [oB 18 .add 3 (tK 8) (iK 1) 3 3,oM 8 18 3])))
def rM:SC:= .loop ZH
def A6I:SC:= .seq (.ops [oX 4 (.assign (iK 0)) 3]) (.seq (.seq (.ops [oM 6 0 22,oN 7 6 22,oX 8 (.move (iK 0)) 3]) (.block 0 rM)) (.seq (.ops [oX 4 U6 3]) .ret))
theorem A1S:Tryz.f105.body.map (Bw lends)=some A6I:=by kernel_rfl
theorem AD7:CP Tryz.f105 2=true:=by kernel_rfl
theorem AIm{a l:List D}{r:D×List D}(h:CG Y.env A6I (FX Ah l.length [ResultVar.tmp 4] r) (entry a l))(ha:a.length=2):Y.call 105 a l=some r:=
 AZ (Y:=Y) rfl Tryz.func105 (ha▸AD7) A1S h
def BL(s_:AO)(f:AL→Option Bool)(f_f:FuncId)(f_c:List D)(O8:Int)(s:St):Prop:=s.v 0=D.sl 27 (AV Aw s_)∧s.v 1=D.clo f_f f_c∧s.v 7=D.int .i64 (s_.length:Int)∧s.v 8=D.int .i64 O8
def Bi(s_:AO)(f:AL→Option Bool)(f_f:FuncId)(f_c:List D)(r:Int⊕Unit)(ex:Ex)(s:St):Prop:=match r with
 | .inl q=>ex= .ret∧s.v 4=D.int .i64 q
 | .inr q=>ex= .exit 0
theorem LG(s_:AO)(f:AL→Option Bool)(f_f:FuncId)(f_c:List D)(f_h: ∀(a0:AL) (r:Bool),f a0=some r→Y.call f_f (D.sl 3 (AV (D.int .i64) a0)::f_c) []=some (D.bool r,[]))(f_l:lends f_f=false){v:Int}{s:St}{r:Int⊕Unit}(h:CW s_ f v=some r)(hM:BL s_ f f_f f_c v s):CG Y.env rM (Bi s_ f f_f f_c r) s:=by
 unfold CW at h;refine BD (c:=ZH) (fun v=>Aq s_ f v) (fun v s=>BL s_ f f_f f_c v s) (Bi s_ f f_f f_c) ?_ h hM;clear h hM s v r;intro O8 s o hM h;unfold Aq at h;unfold BL at hM;obtain⟨m0,m1,m2,m3⟩:=hM;unfold ZH;rcases iS h with⟨e1,h⟩|⟨e1,h⟩
 ·obtain⟨e2,h⟩:=EQ h;obtain⟨aT,hl3,h⟩:=Aa h;have c3:=f_h _ _ hl3;rcases iS h with⟨e4,h⟩|⟨e4,h⟩
  ·obtain rfl:=Option.some.inj h
   simp (maxDischargeDepth:=9) only [↓AR,AU,↓reduceIte,Nat.reduceEqDiff,Nat.reduceLT,Nat.reduceAdd,m0,m1,m2,m3,f_l,e1,e2.1,e2.2,c3,e4,BL,Bi,U2]
  ·have e4f:aT=false:=Ju.mpr e4
   obtain rfl:=Option.some.inj h
   simp (maxDischargeDepth:=9) only [↓AR,AU,↓reduceIte,Nat.reduceEqDiff,Nat.reduceLT,Nat.reduceAdd,m0,m1,m2,m3,f_l,e1,e2.1,e2.2,c3,e4f,BL,FV]
 ·obtain rfl:=Option.some.inj h
  simp (maxDischargeDepth:=9) only [↓AR,AU,↓reduceIte,Nat.reduceLT,m2,m3,e1,BL,Bi,KF]
theorem Li(s_:AO)(f:AL→Option Bool)(f_f:FuncId)(f_c:List D)(f_h: ∀(a0:AL) (r:Bool),f a0=some r→Y.call f_f (D.sl 3 (AV (D.int .i64) a0)::f_c) []=some (D.bool r,[]))(f_l:lends f_f=false){r:Int}(h:Bo s_ f=some r):Y.call 105 [D.sl 27 (AV Aw s_),D.clo f_f f_c] []=some (D.int .i64 r,[]):=by
 refine AIm ?_ rfl;unfold A6I;unfold Bo at h;obtain⟨AC,hl2,h⟩:=Aa h;try dsimp only at h
 simp (maxDischargeDepth:=9) only [↓AR,AU,↓reduceIte,Nat.reduceEqDiff,Nat.reduceLT,Int.reduceNeg];refine Ai (LG s_ f f_f f_c f_h f_l hl2 ?_) ?_
 ·simp (maxDischargeDepth:=9) only [Bd,Da,↓reduceIte,Nat.reduceEqDiff,Nat.reduceLT,BL]
 ·intro ex2 s2 hX2;rcases AC with q1000_|q1000_
  ·unfold Bi at hX2;dsimp only at hX2 h;obtain⟨rfl,n2_0⟩:=hX2
   obtain rfl:=Option.some.inj h
   simp (maxDischargeDepth:=9) only [↓AR,AU,↓reduceIte,n2_0]
  ·unfold Bi at hX2;dsimp only at hX2 h
   obtain rfl:=hX2
   obtain rfl:=Option.some.inj h
   simp (maxDischargeDepth:=9) only [↓AR,AU,↓reduceIte,Nat.reduceEqDiff,Nat.reduceLT,Int.reduceNeg]
noncomputable def Bc(del:AL→Option Bool)(i:Int)(j:Int)(BA:List (Option AL)):Option ((Int×Int×(List (Option AL)))⊕(Int×(List (Option AL)))):= if j<(BA.length:Int)then ck (0≤j∧j.toNat<BA.length)<| ck ((BA.getD j.toNat default).isSome=true)<| (del ((BA.getD j.toNat default).getD default)).bind fun OT=> if OT=true then some (Sum.inl (i,IntKind.i64.wrap (j+1),BA)) else ck (0≤i∧i.toNat<BA.length)<| some (Sum.inl (IntKind.i64.wrap (i+1),IntKind.i64.wrap (j+1),((BA.set j.toNat none).set i.toNat (some ((BA.getD j.toNat default).getD default))))) else some (Sum.inr (i,BA))
noncomputable def Cz(del:AL→Option Bool)(v:Int×Int×(List (Option AL))):Option (Int×(List (Option AL))):=Hu (fun v=>Bc del v.1 v.2.1 v.2.2) v
noncomputable def Ce(s_:AO)(del:AL→Option Bool):Option (AO):= (Bo s_ del).bind fun Mg=> if Mg=(-1)then some s_ else (Cz del (Mg,IntKind.i64.wrap (Mg+1),(s_.map some))).bind fun AC=> ck (0≤AC.1)<| ck (AC.1.toNat≤AC.2.length)<| ck (AC.1.toNat+(AC.2.length-AC.1.toNat)≤AC.2.length)<| ck (AC.1.toNat≤(pG AC.2 AC.1.toNat ((List.replicate (AC.2.length-AC.1.toNat) ([]:AL)).map some)).length)<| ck ((((pG AC.2 AC.1.toNat ((List.replicate (AC.2.length-AC.1.toNat) ([]:AL)).map some)).take AC.1.toNat).all Option.isSome)=true)<| some (((pG AC.2 AC.1.toNat ((List.replicate (AC.2.length-AC.1.toNat) ([]:AL)).map some)).take AC.1.toNat).map fun o=>o.getD default)
def iC:SC:= .seq (.seq (.ops [oM 16 6 3,oM 17 0 22,oN 18 17 22,oB 19 .lss 3 (tK 16) (tK 18) 3 4]) (.cond (tK 19) .skip (.exit 0))) (.seq (.block 1 (.seq (.ops [oM 22 0 22,oM 23 6 3,oI 24 22 22 23,oL 25 27 24 27,oA 7 25 27]) (.seq (.ops [oM 26 1 52,oM 27 7 27,oX 28 (.call ⟨(.value (tK 26)), #[(tK 27)], #[27]⟩) 4,oX 29 (.unOp .not 4 (tK 28)) 4]) (.cond (tK 29) (.seq (.ops [oM 30 0 22,oM 31 5 3,oM 32 7 27,oI 33 22 30 31,⟨none,(.store 27 (tK 33) (tK 32)),900007,none⟩]) (.ops [oM 34 5 3,oB 35 .add 3 (tK 34) (iK 1) 3 3,oA 5 35 3])) .skip)))) (.ops [oM 20 6 3,oB 21 .add 3 (tK 20) (iK 1) 3 3,oA 6 21 3]))
def zH:SC:= .loop iC
def k72:SC:= .seq (.ops [oX 4 Ev 22]) (.seq (.ops [oM 8 0 22,oM 9 1 52,oC 10 105 [(tK 8),(tK 9)] [22,52] 3,oA 5 10 3]) (.seq (.seq (.ops [oM 11 5 3,oX 12 (.binOp .eql 3 (tK 11) (.const (.int .i64 (-1))) 3) 4]) (.cond (tK 12) (.seq (.ops [oM 13 0 22,oA 4 13 22]) .ret) .skip)) (.seq (.seq (.ops [oM 14 5 3,oB 15 .add 3 (tK 14) (iK 1) 3 3,oA 6 15 3]) (.block 0 zH)) (.seq (.ops [oM 36 0 22,oM 37 5 3,oX 38 (.slice 22 (tK 36) (some (tK 37)) none none) 900001,⟨none,(.call ⟨(.builtin .clear), #[(tK 38)], #[22]⟩),0,none⟩]) (.seq (.ops [oM 39 0 22,oM 40 5 3,oX 41 (.slice 22 (tK 39) none (some (tK 40)) none) 900002,oA 4 41 22]) .ret)))))
theorem A6J:Tryz.f72.body.map (Bw lends)=some k72:=by kernel_rfl
theorem AIo:CP Tryz.f72 2=true:=by kernel_rfl
theorem c72{a l:List D}{r:D×List D}(h:CG Y.env k72 (FX Ah l.length [ResultVar.tmp 4] r) (entry a l))(ha:a.length=2):Y.call 72 a l=some r:=
 AZ (Y:=Y) rfl Tryz.func72 (ha▸AIo) A6J h
def BK(del:AL→Option Bool)(del_f:FuncId)(del_c:List D)(i:Int)(j:Int)(BA:List (Option AL))(s:St):Prop:=(∃w_,s.v 0=D.vw [100000] (s.k 100000) w_)∧s.v 1=D.clo del_f del_c∧s.v 5=D.int .i64 i∧s.v 6=D.int .i64 j∧s.v 100000=D.own 27 (AV (QQ KQ) BA)
def Ch(del:AL→Option Bool)(del_f:FuncId)(del_c:List D)(r:Int×(List (Option AL)))(ex:Ex)(s:St):Prop:=ex= .exit 0∧(∃w_,s.v 0=D.vw [100000] (s.k 100000) w_)∧s.v 5=D.int .i64 r.1∧s.v 100000=D.own 27 (AV (QQ KQ) r.2)
theorem Ky(del:AL→Option Bool)(del_f:FuncId)(del_c:List D)(del_h: ∀(a0:AL) (r:Bool),del a0=some r→Y.call del_f (D.sl 3 (AV (D.int .i64) a0)::del_c) []=some (D.bool r,[]))(del_l:lends del_f=false){v:Int×Int×(List (Option AL))}{s:St}{r:Int×(List (Option AL))}(h:Cz del v=some r)(hM:BK del del_f del_c v.1 v.2.1 v.2.2 s):CG Y.env zH (Ch del del_f del_c r) s:=by
 unfold Cz at h;refine BD (c:=iC) (fun v=>Bc del v.1 v.2.1 v.2.2) (fun v s=>BK del del_f del_c v.1 v.2.1 v.2.2 s) (Ch del del_f del_c) ?_ h hM;clear h hM s v r;intro v s o hM h;obtain⟨i,j,BA⟩:=v;dsimp only at h hM;unfold Bc at h;unfold BK at hM;obtain⟨⟨w0_,m0⟩,m1,m2,m3,m4⟩:=hM;unfold iC;rcases iS h with⟨e3,h⟩|⟨e3,h⟩
 ·obtain⟨e4,e5,h⟩:=Hw h;obtain⟨OT,hl6,h⟩:=Aa h;have c6:=del_h _ _ hl6;rcases iS h with⟨e7,h⟩|⟨e7,h⟩
  ·obtain rfl:=Option.some.inj h
   simp (maxDischargeDepth:=9) only [↓AR,AU,↓reduceIte,Nat.reduceEqDiff,Nat.reduceLT,Nat.reduceAdd,m0,m1,m2,m3,m4,del_l,e3,e4.1,e4.2,e5,c6,e7,BK,FV]<;>(repeat' apply A7)<;>first|rfl|exact⟨_,rfl⟩|exact⟨_,_,rfl⟩|simp [AV,Ad]
  ·have e7f:OT=false:=Ju.mpr e7;obtain⟨e8,h⟩:=EQ h
   obtain rfl:=Option.some.inj h
   simp (maxDischargeDepth:=9) only [↓AR,AU,↓reduceIte,Nat.reduceEqDiff,Nat.reduceLT,Nat.reduceAdd,m0,m1,m2,m3,m4,del_l,e3,e4.1,e4.2,e5,c6,e7f,e8.1,e8.2,BK,FV]<;>(repeat' apply A7)<;>first|rfl|exact⟨_,rfl⟩|exact⟨_,_,rfl⟩|simp [AV,Ad]
 ·obtain rfl:=Option.some.inj h
  simp (maxDischargeDepth:=9) only [↓AR,AU,↓reduceIte,Nat.reduceEqDiff,Nat.reduceLT,m0,m2,m3,m4,e3,BK,Ch,KF]<;>(repeat' apply A7)<;>first|rfl|exact⟨_,rfl⟩|exact⟨_,_,rfl⟩|simp [AV,Ad]
theorem LH(s_:AO)(del:AL→Option Bool)(del_f:FuncId)(del_c:List D)(del_h: ∀(a0:AL) (r:Bool),del a0=some r→Y.call del_f (D.sl 3 (AV (D.int .i64) a0)::del_c) []=some (D.bool r,[]))(del_l:lends del_f=false){r:AO}(h:Ce s_ del=some r):Y.call 72 [D.vw [100000] 0 0,D.clo del_f del_c] [D.own 27 (AV KQ s_)]=some (D.own 27 (AV KQ r),[D.undef]):=by
 refine c72 ?_ rfl;unfold k72;unfold Ce at h;obtain⟨Mg,hl1,h⟩:=Aa h;have c1:=Li s_ del del_f del_c del_h del_l hl1;rcases iS h with⟨e2,h⟩|⟨e2,h⟩
 ·obtain rfl:=Option.some.inj h
  simp (maxDischargeDepth:=9) only [↓AR,AU,↓reduceIte,Nat.reduceEqDiff,Nat.reduceLT,Nat.reduceAdd,Nat.reduceSub,Int.reduceNeg,c1,decide_eq_true e2]
 ·obtain⟨AC,hl4,h⟩:=Aa h;try dsimp only at h
  simp (maxDischargeDepth:=9) only [↓AR,AU,↓reduceIte,Nat.reduceEqDiff,Nat.reduceLT,Nat.reduceAdd,Nat.reduceSub,Int.reduceNeg,c1,e2];refine Ai (Ky del del_f del_c del_h del_l hl4 ?_) ?_
  ·simp (maxDischargeDepth:=9) only [Bd,A5I,Da,↓reduceIte,Nat.reduceEqDiff,Nat.reduceLT,Nat.reduceSub,BK]<;>(repeat' apply A7)<;>first|rfl|exact⟨_,rfl⟩|exact⟨_,_,rfl⟩|simp [AV,Ad]
  ·intro ex4 s4 hX4;unfold Ch at hX4;obtain⟨rfl,⟨w0_,n4_0⟩,n4_1,n4_2⟩:=hX4;obtain⟨e5,e6,e7,e8,h⟩:=aH h;obtain⟨e9,h⟩:=EQ h
   obtain rfl:=Option.some.inj h
   simp (maxDischargeDepth:=9) only [↓AR,AU,↓reduceIte,Nat.reduceEqDiff,Nat.reduceLT,n4_0,n4_1,n4_2,e5,e6,e7,e8,e9]
noncomputable def LJ(c_:AL)(c0_:AL→Option Bool):Option (Bool):= (c0_ c_).bind fun r6_=> some (!r6_)
def k74:SC:= .seq (.ops [oX 3 Cr 4]) (.seq (.ops [oL 4 52 1 52,oM 5 0 27,oX 6 (.call ⟨(.value (tK 4)), #[(tK 5)], #[27]⟩) 4,oX 7 (.unOp .not 4 (tK 6)) 4,oA 3 7 4]) .ret)
theorem A6K:Tryz.f74.body.map (Bw lends)=some k74:=by kernel_rfl
theorem AIq:CP Tryz.f74 2=true:=by kernel_rfl
theorem c74{a l:List D}{r:D×List D}(h:CG Y.env k74 (FX Ah l.length [ResultVar.tmp 3] r) (entry a l))(ha:a.length=2):Y.call 74 a l=some r:=
 AZ (Y:=Y) rfl Tryz.func74 (ha▸AIq) A6K h
theorem UG(c_:AL)(c0_:AL→Option Bool)(c0__f:FuncId)(c0__c:List D)(c0__h: ∀(a0:AL) (r:Bool),c0_ a0=some r→Y.call c0__f (D.sl 3 (AV (D.int .i64) a0)::c0__c) []=some (D.bool r,[]))(c0__l:lends c0__f=false){r:Bool}(h:LJ c_ c0_=some r):Y.call 74 [D.sl 3 (AV (D.int .i64) c_),D.cptr [D.clo c0__f c0__c]] []=some (D.bool r,[]):=by
 refine c74 ?_ rfl;unfold k74;unfold LJ at h;obtain⟨r6_,hl1,h⟩:=Aa h;try dsimp only at h
 have c1:=c0__h _ _ hl1
 obtain rfl:=Option.some.inj h
 simp (maxDischargeDepth:=9) only [↓AR,AU,↓reduceIte,Nat.reduceEqDiff,Nat.reduceLT,Nat.reduceAdd,c0__l,c1]
noncomputable def Im(labels:Int)(size:Int)(good:AL→Option Bool):Option (AO):= (M0 labels size).bind fun r9_=> (Ce r9_ (fun a0=>LJ a0 good)).bind fun af=> some af
def k42:SC:= .seq (.ops [oX 5 (.box 52 (tK 2)) 0,oX 6 Ev 22]) (.seq (.ops [oM 7 0 3,oM 8 1 3,oC 9 73 [(tK 7),(tK 8)] [3,3] 22,oX 10 (.makeFunc (Fn.func 74) #[] #[(tK 5)]) 52,oC 11 72 [(tK 9),(tK 10)] [22,52] 22,oA 6 11 22]) .ret)
theorem A6L:Tryz.f42.body.map (Bw lends)=some k42:=by kernel_rfl
theorem AIs:CP Tryz.f42 3=true:=by kernel_rfl
theorem c42{a l:List D}{r:D×List D}(h:CG Y.env k42 (FX Ah l.length [ResultVar.tmp 6] r) (entry a l))(ha:a.length=3):Y.call 42 a l=some r:=
 AZ (Y:=Y) rfl Tryz.func42 (ha▸AIs) A6L h
theorem Qb(labels:Int)(size:Int)(good:AL→Option Bool)(good_f:FuncId)(good_c:List D)(good_h: ∀(a0:AL) (r:Bool),good a0=some r→Y.call good_f (D.sl 3 (AV (D.int .i64) a0)::good_c) []=some (D.bool r,[]))(good_l:lends good_f=false){r:AO}(h:Im labels size good=some r):Y.call 42 [D.int .i64 labels,D.int .i64 size,D.clo good_f good_c] []=some (D.own 27 (AV KQ r),[]):=by
 refine c42 ?_ rfl;unfold k42;unfold Im at h;obtain⟨r9_,hl1,h⟩:=Aa h;have c1:=Qa labels size hl1;obtain⟨af,hl2,h⟩:=Aa h;try dsimp only at h
 have c2:=LH r9_ (fun a0=>LJ a0 good) 74 [D.cptr [D.clo good_f good_c]] (fun a0 _ hh=>UG a0 good good_f good_c good_h good_l hh) A5N hl2
 obtain rfl:=Option.some.inj h
 simp (maxDischargeDepth:=9) only [↓AR,AU,↓reduceIte,Nat.reduceEqDiff,Nat.reduceLT,Nat.reduceAdd,c1,c2]
noncomputable def FD(rec_:Int→AL→AO→Option (Bool×AL))(k:Int)(c0_:AO)(JK:Int)(t100000_0:AL):Option ((Int×AL)⊕((AL)⊕(AL))):= if JK<((c0_.getD k.toNat default).length:Int)then ck (0≤JK∧JK.toNat<(c0_.getD k.toNat default).length)<| ck (0≤k∧k.toNat<t100000_0.length)<| (rec_ (IntKind.i64.wrap (k+1)) (t100000_0.set k.toNat ((c0_.getD k.toNat default).getD JK.toNat default)) c0_).bind fun R4=> if R4.1=true then some (Sum.inr (Sum.inl R4.2)) else some (Sum.inl (IntKind.i64.wrap (JK+1),R4.2)) else some (Sum.inr (Sum.inr t100000_0))
noncomputable def J6(rec_:Int→AL→AO→Option (Bool×AL))(k:Int)(c0_:AO)(v:Int×AL):Option ((AL)⊕(AL)):=Hu (fun v=>FD rec_ k c0_ v.1 v.2) v
noncomputable def EI(rec_:Int→AL→AO→Option (Bool×AL))(k:Int)(o0_:AL)(c0_:AO)(c1_:AL→Option Bool):Option (Bool×AL):=
 if k=(c0_.length:Int)then
  (c1_ o0_).bind fun M7=>
  some (M7,o0_)
 else
  ck (0≤k∧k.toNat<c0_.length)<|
  (J6 rec_ k c0_ (0,o0_)).bind fun AC=>
  match AC with
  | .inl q1000_=>
   some (true,q1000_)
  | .inr q1000_=>
   some (false,q1000_)
noncomputable def CX(c1_:AL→Option Bool):Nat→Int→AL→AO→Option (Bool×AL) |0=>fun _ _ _=>none |n+1=>fun k o0_ c0_=>EI (CX c1_ n) k o0_ c0_ c1_
noncomputable def OA(k:Int)(o0_:AL)(c0_:AO)(c1_:AL→Option Bool):Option (Bool×AL):=CX c1_ 1000000 k o0_ c0_
def ZI:SC:= .seq (.ops [oB 22 .lss 3 (tK 21) (tK 20) 3 0]) (.seq (.cond (tK 22) .skip (.exit 0)) (.seq (.block 1 (.seq (.ops [oI 23 27 19 21,oL 24 3 23 3,oA 8 24 3]) (.seq (.ops [oL 25 27 3 27,oM 26 0 3,oM 27 8 3,oI 28 27 25 26,oS 3 28 27]) (.seq (.ops [oL 29 87 4 87,oM 30 0 3,oB 31 .add 3 (tK 30) (iK 1) 3 3,oX 32 (.call ⟨(.value (tK 29)), #[(tK 31)], #[3]⟩) 4]) (.cond (tK 32) (.seq (.ops [oX 6 (.assign Kv) 4]) .ret) .skip))))) (.ops [oB 33 .add 3 (tK 21) (iK 1) 3 3,oM 21 33 3])))
def rO:SC:= .loop ZI
def A6M:SC:= .seq (.ops [oX 6 Cr 4]) (.seq (.seq (.ops [oM 9 0 3,oL 10 22 1 22,oN 11 10 22,oB 12 .eql 3 (tK 9) (tK 11) 3 4]) (.cond (tK 12) (.seq (.ops [oL 13 52 2 52,oL 14 27 3 27,oX 15 (.call ⟨(.value (tK 13)), #[(tK 14)], #[27]⟩) 4,oA 6 15 4]) .ret) .skip)) (.seq (.seq (.ops [oL 16 22 1 22,oM 17 0 3,oI 18 22 16 17,oL 19 27 18 27,oN 20 19 27,oX 21 (.move (iK 0)) 3]) (.block 0 rO)) (.seq (.ops [oX 6 Cr 4]) .ret)))
theorem A1T:Tryz.f107.body.map (Bw lends)=some A6M:=by kernel_rfl
theorem AD8:CP Tryz.f107 5=true:=by kernel_rfl
theorem AIu{a l:List D}{r:D×List D}(h:CG Y.env A6M (FX Ah l.length [ResultVar.tmp 6] r) (entry a l))(ha:a.length=5):Y.call 107 a l=some r:=
 AZ (Y:=Y) rfl Tryz.func107 (ha▸AD8) A1T h
def DN(rec_:Int→AL→AO→Option (Bool×AL))(k:Int)(c0_:AO)(c1__f:FuncId)(c1__c:List D)(JK:Int)(t100000_0:AL)(s:St):Prop:=s.v 0=D.int .i64 k∧(∃w_,s.v 3=D.vw [100000] (s.k 100000) w_)∧(∃w_,s.v 4=D.ocl true 107 [D.cptr [D.sl 27 (AV Aw c0_)],D.cptr [D.clo c1__f c1__c],D.vw [100000] (s.k 100000) w_,D.undef])∧s.v 19=D.sl 3 (AV (D.int .i64) (c0_.getD k.toNat default))∧s.v 20=D.int .i64 ((c0_.getD k.toNat default).length:Int)∧s.v 21=D.int .i64 JK∧s.v 100000=D.box [D.own 3 (AV (D.int .i64) t100000_0)]
def E8(rec_:Int→AL→AO→Option (Bool×AL))(k:Int)(c0_:AO)(c1__f:FuncId)(c1__c:List D)(r:(AL)⊕(AL))(ex:Ex)(s:St):Prop:=match r with
 | .inl q=>ex= .ret∧s.v 6=D.bool true∧s.v 100000=D.box [D.own 3 (AV (D.int .i64) q)]
 | .inr q=>ex= .exit 0∧s.v 100000=D.box [D.own 3 (AV (D.int .i64) q)]
theorem RY(rec_:Int→AL→AO→Option (Bool×AL))(k:Int)(c0_:AO)(c1__f:FuncId)(c1__c:List D)(rec_h: ∀(k:Int) (o0_:AL) (c0_:AO) (r:Bool×AL),rec_ k o0_ c0_=some r→Y.call 107 [D.int .i64 k,D.cptr [D.sl 27 (AV Aw c0_)],D.cptr [D.clo c1__f c1__c],D.vw [100000] 0 0,D.ocl true 107 [D.cptr [D.sl 27 (AV Aw c0_)],D.cptr [D.clo c1__f c1__c],D.vw [100000] 0 0,D.undef]] [D.box [D.own 3 (AV (D.int .i64) o0_)]]=some (D.bool r.1,[D.box [D.own 3 (AV (D.int .i64) r.2)]])){v:Int×AL}{s:St}{r:(AL)⊕(AL)}(h:J6 rec_ k c0_ v=some r)(hM:DN rec_ k c0_ c1__f c1__c v.1 v.2 s):CG Y.env rO (E8 rec_ k c0_ c1__f c1__c r) s:=by
 unfold J6 at h;refine BD (c:=ZI) (fun v=>FD rec_ k c0_ v.1 v.2) (fun v s=>DN rec_ k c0_ c1__f c1__c v.1 v.2 s) (E8 rec_ k c0_ c1__f c1__c) ?_ h hM;clear h hM s v r;intro v s o hM h;obtain⟨JK,t100000_0⟩:=v;dsimp only at h hM;unfold FD at h;unfold DN at hM;obtain⟨m0,⟨w1_,m1⟩,⟨w2_,m2⟩,m3,m4,m5,m6⟩:=hM;unfold ZI;rcases iS h with⟨e3,h⟩|⟨e3,h⟩
 ·obtain⟨e4,e5,h⟩:=Hw h;obtain⟨R4,hl6,h⟩:=Aa h;have c6:=rec_h _ _ _ _ hl6;rcases iS h with⟨e7,h⟩|⟨e7,h⟩
  ·obtain rfl:=Option.some.inj h
   simp (maxDischargeDepth:=9) only [↓AR,AU,↓reduceIte,Nat.reduceEqDiff,Nat.reduceLT,Nat.reduceAdd,m0,m1,m2,m3,m4,m5,m6,e3,e4.1,e4.2,e5.1,e5.2,c6,e7,DN,E8,U2]
  ·have e7f:R4.1=false:=Ju.mpr e7
   obtain rfl:=Option.some.inj h
   simp (maxDischargeDepth:=9) only [↓AR,AU,↓reduceIte,Nat.reduceEqDiff,Nat.reduceLT,Nat.reduceAdd,m0,m1,m2,m3,m4,m5,m6,e3,e4.1,e4.2,e5.1,e5.2,c6,e7f,DN,FV]<;>(repeat' apply A7)<;>first|rfl|exact⟨_,rfl⟩|exact⟨_,_,rfl⟩|simp [AV,Ad]
 ·obtain rfl:=Option.some.inj h
  simp (maxDischargeDepth:=9) only [↓AR,AU,↓reduceIte,Nat.reduceEqDiff,Nat.reduceLT,m4,m5,m6,e3,DN,E8,KF]
theorem R5(rec_:Int→AL→AO→Option (Bool×AL))(k:Int)(o0_:AL)(c0_:AO)(c1_:AL→Option Bool)(c1__f:FuncId)(c1__c:List D)(rec_h: ∀(k:Int) (o0_:AL) (c0_:AO) (r:Bool×AL),rec_ k o0_ c0_=some r→Y.call 107 [D.int .i64 k,D.cptr [D.sl 27 (AV Aw c0_)],D.cptr [D.clo c1__f c1__c],D.vw [100000] 0 0,D.ocl true 107 [D.cptr [D.sl 27 (AV Aw c0_)],D.cptr [D.clo c1__f c1__c],D.vw [100000] 0 0,D.undef]] [D.box [D.own 3 (AV (D.int .i64) o0_)]]=some (D.bool r.1,[D.box [D.own 3 (AV (D.int .i64) r.2)]]))(c1__h: ∀(a0:AL) (r:Bool),c1_ a0=some r→Y.call c1__f (D.sl 3 (AV (D.int .i64) a0)::c1__c) []=some (D.bool r,[]))(c1__l:lends c1__f=false){r:Bool×AL}(h:EI rec_ k o0_ c0_ c1_=some r):Y.call 107 [D.int .i64 k,D.cptr [D.sl 27 (AV Aw c0_)],D.cptr [D.clo c1__f c1__c],D.vw [100000] 0 0,D.ocl true 107 [D.cptr [D.sl 27 (AV Aw c0_)],D.cptr [D.clo c1__f c1__c],D.vw [100000] 0 0,D.undef]] [D.box [D.own 3 (AV (D.int .i64) o0_)]]=some (D.bool r.1,[D.box [D.own 3 (AV (D.int .i64) r.2)]]):=by
 refine AIu ?_ rfl;unfold A6M;unfold EI at h;rcases iS h with⟨e1,h⟩|⟨e1,h⟩
 ·obtain⟨M7,hl2,h⟩:=Aa h;try dsimp only at h
  have c2:=c1__h _ _ hl2
  obtain rfl:=Option.some.inj h
  simp (maxDischargeDepth:=9) only [↓AR,AU,↓reduceIte,Nat.reduceEqDiff,Nat.reduceLT,Nat.reduceAdd,Nat.reduceSub,c1__l,decide_eq_true e1,c2]
 ·obtain⟨e2,h⟩:=EQ h;obtain⟨AC,hl4,h⟩:=Aa h;try dsimp only at h
  simp (maxDischargeDepth:=9) only [↓AR,AU,↓reduceIte,Nat.reduceEqDiff,Nat.reduceLT,Nat.reduceAdd,e1,e2.1,e2.2];refine Ai (RY rec_ k c0_ c1__f c1__c rec_h hl4 ?_) ?_
  ·simp (maxDischargeDepth:=9) only [Bd,Da,↓reduceIte,Nat.reduceEqDiff,Nat.reduceLT,Nat.reduceSub,DN]<;>(repeat' apply A7)<;>first|rfl|exact⟨_,rfl⟩|exact⟨_,_,rfl⟩|simp [AV,Ad]
  ·intro ex4 s4 hX4;rcases AC with q1000_|q1000_
   ·unfold E8 at hX4;dsimp only at hX4 h;obtain⟨rfl,n4_0,n4_1⟩:=hX4
    obtain rfl:=Option.some.inj h
    simp (maxDischargeDepth:=9) only [↓AR,AU,↓reduceIte,n4_0,n4_1]
   ·unfold E8 at hX4;dsimp only at hX4 h;obtain⟨rfl,n4_0⟩:=hX4
    obtain rfl:=Option.some.inj h
    simp (maxDischargeDepth:=9) only [↓AR,AU,↓reduceIte,Nat.reduceEqDiff,Nat.reduceLT,n4_0]
theorem R6(c1_:AL→Option Bool)(c1__f:FuncId)(c1__c:List D)(c1__h: ∀(a0:AL) (r:Bool),c1_ a0=some r→Y.call c1__f (D.sl 3 (AV (D.int .i64) a0)::c1__c) []=some (D.bool r,[]))(c1__l:lends c1__f=false)(n:Nat): ∀(k:Int) (o0_:AL) (c0_:AO) (r:Bool×AL),CX c1_ n k o0_ c0_=some r→Y.call 107 [D.int .i64 k,D.cptr [D.sl 27 (AV Aw c0_)],D.cptr [D.clo c1__f c1__c],D.vw [100000] 0 0,D.ocl true 107 [D.cptr [D.sl 27 (AV Aw c0_)],D.cptr [D.clo c1__f c1__c],D.vw [100000] 0 0,D.undef]] [D.box [D.own 3 (AV (D.int .i64) o0_)]]=some (D.bool r.1,[D.box [D.own 3 (AV (D.int .i64) r.2)]]):=by
 induction n with
 |zero=>intro k o0_ c0_ r h;exact absurd h (by rw [CX];exact fun e=>by cases e)
 |succ n ih=>intro k o0_ c0_ r h;rw [CX]at h;exact R5 (CX c1_ n) k o0_ c0_ c1_ c1__f c1__c ih c1__h c1__l h
theorem SQ(k:Int)(o0_:AL)(c0_:AO)(c1_:AL→Option Bool)(c1__f:FuncId)(c1__c:List D)(c1__h: ∀(a0:AL) (r:Bool),c1_ a0=some r→Y.call c1__f (D.sl 3 (AV (D.int .i64) a0)::c1__c) []=some (D.bool r,[]))(c1__l:lends c1__f=false){r:Bool×AL}(h:OA k o0_ c0_ c1_=some r):Y.call 107 [D.int .i64 k,D.cptr [D.sl 27 (AV Aw c0_)],D.cptr [D.clo c1__f c1__c],D.vw [100000] 0 0,D.ocl true 107 [D.cptr [D.sl 27 (AV Aw c0_)],D.cptr [D.clo c1__f c1__c],D.vw [100000] 0 0,D.undef]] [D.box [D.own 3 (AV (D.int .i64) o0_)]]=some (D.bool r.1,[D.box [D.own 3 (AV (D.int .i64) r.2)]]):=R6 c1_ c1__f c1__c c1__h c1__l 1000000 k o0_ c0_ r h
noncomputable def LK(lists:AO)(good:AL→Option Bool):Option (AL×Bool):= ck (0≤(lists.length:Int)∧(lists.length:Int)<1099511627776)<| (OA (0:Int) (List.replicate lists.length 0) lists good).bind fun A1U=> if A1U.1=true then some (A1U.2,true) else some ([],false)
def k75:SC:= .seq (.ops [oX 2 (.box 22 (tK 0)) 0,oX 3 (.box 52 (tK 1)) 0,oX 4 Ev 27,oX 5 Cr 4]) (.seq (.ops [oL 8 22 2 22,oN 9 8 22,oX 10 (.makeSlice 27 (tK 9) (tK 9)) 27,oX 6 (.alloc 27) 0,oS 27 6 10]) (.seq (.ops [oX 7 (.alloc 87) 0]) (.seq (.ops [oX 11 (.makeFunc (Fn.func 107) #[] #[(tK 2),(tK 3),(tK 6),(tK 7)]) 3000012,⟨none,(.store 87 (tK 7) (tK 11)),900010,none⟩]) (.seq (.seq (.ops [oL 12 87 7 87,oX 13 (.call ⟨(.value (tK 12)), #[(iK 0)], #[3]⟩) 4,oX 14 (.unOp .not 4 (tK 13)) 4]) (.cond (tK 14) (.seq (.ops [oX 4 Ev 27,oX 5 Cr 4]) .ret) .skip)) (.seq (.ops [oL 15 27 6 27,oA 4 15 27,oX 5 (.assign Kv) 4]) .ret)))))
theorem A6N:Tryz.f75.body.map (Bw lends)=some k75:=by kernel_rfl
theorem AIw:CP Tryz.f75 2=true:=by kernel_rfl
theorem c75{a l:List D}{r:D×List D}(h:CG Y.env k75 (FX Ah l.length [ResultVar.tmp 4,ResultVar.tmp 5] r) (entry a l))(ha:a.length=2):Y.call 75 a l=some r:=
 AZ (Y:=Y) rfl Tryz.func75 (ha▸AIw) A6N h
theorem UH(lists:AO)(good:AL→Option Bool)(good_f:FuncId)(good_c:List D)(good_h: ∀(a0:AL) (r:Bool),good a0=some r→Y.call good_f (D.sl 3 (AV (D.int .i64) a0)::good_c) []=some (D.bool r,[]))(good_l:lends good_f=false){r:AL×Bool}(h:LK lists good=some r):Y.call 75 [D.sl 27 (AV Aw lists),D.clo good_f good_c] []=some (D.tup [D.own 3 (AV (D.int .i64) r.1),D.bool r.2],[]):=by
 refine c75 ?_ rfl;unfold k75;unfold LK at h;obtain⟨e1,h⟩:=EQ h;obtain⟨A1U,hl2,h⟩:=Aa h;have c2:=SQ (0:Int) (List.replicate lists.length 0) lists good good_f good_c good_h good_l hl2;rcases iS h with⟨e3,h⟩|⟨e3,h⟩
 ·obtain rfl:=Option.some.inj h
  simp (maxDischargeDepth:=9) only [↓AR,AU,↓reduceIte,Nat.reduceEqDiff,Nat.reduceLT,Nat.reduceLeDiff,Nat.reduceAdd,Nat.reduceMod,Nat.reduceDiv,Nat.reducePow,Nat.reduceSub,e1.1,e1.2,c2,e3]
 ·have e3f:A1U.1=false:=Ju.mpr e3
  obtain rfl:=Option.some.inj h
  simp (maxDischargeDepth:=9) only [↓AR,AU,↓reduceIte,Nat.reduceEqDiff,Nat.reduceLT,Nat.reduceLeDiff,Nat.reduceAdd,Nat.reduceMod,Nat.reduceDiv,Nat.reducePow,Nat.reduceSub,e1.1,e1.2,c2,e3f]<;>(repeat' apply A7)<;>first|rfl|exact⟨_,rfl⟩|exact⟨_,_,rfl⟩|simp [AV,Ad]
noncomputable def IW(sets:AL)(numbers:AL)(out:AO)(Ij:Int):Option ((AO×Int)⊕(AO)):= if Ij<(numbers.length:Int)then ck (0≤Ij∧Ij.toNat<numbers.length)<| ck (0≤(numbers.getD Ij.toNat default)∧(numbers.getD Ij.toNat default).toNat<sets.length)<| (P6 (sets.getD ((numbers.getD Ij.toNat default).toNat) default)).bind fun Nu=> ck (out.length+1<1099511627776)<| some (Sum.inl ((out++[Nu]),IntKind.i64.wrap (Ij+1))) else some (Sum.inr out)
noncomputable def OU(sets:AL)(numbers:AL)(v:AO×Int):Option (AO):=Hu (fun v=>IW sets numbers v.1 v.2) v
noncomputable def Qc(sets:AL)(numbers:AL):Option (AO):= (OU sets numbers ([],0)).bind fun AC=> some AC
def iD:SC:= .seq (.ops [oB 11 .lss 3 (tK 10) (tK 9) 3 0]) (.seq (.cond (tK 11) .skip (.exit 0)) (.seq (.block 1 (.seq (.ops [oI 12 27 8 10,oL 13 3 12 3,oA 7 13 3]) (.ops [oM 14 5 22,oM 15 0 27,oM 16 7 3,oI 17 27 15 16,oL 18 3 17 3,oC 19 66 [(tK 18)] [3] 27,oX 20 (.buildSlice 22 1 #[(0,(tK 19))]) 22,oX 21 (.call ⟨(.builtin .append), #[(tK 14),(tK 20)], #[22,22]⟩) 22,oA 5 21 22]))) (.ops [oB 22 .add 3 (tK 10) (iK 1) 3 3,oM 10 22 3])))
def zI:SC:= .loop iD
def k45:SC:= .seq (.ops [oX 4 Ev 22]) (.seq (.ops [oX 5 Ev 22]) (.seq (.seq (.ops [oM 8 1 27,oN 9 8 27,oX 10 (.move (iK 0)) 3]) (.block 0 zI)) (.seq (.ops [oM 23 5 22,oA 4 23 22]) .ret)))
theorem A6O:Tryz.f45.body.map (Bw lends)=some k45:=by kernel_rfl
theorem AIy:CP Tryz.f45 2=true:=by kernel_rfl
theorem c45{a l:List D}{r:D×List D}(h:CG Y.env k45 (FX Ah l.length [ResultVar.tmp 4] r) (entry a l))(ha:a.length=2):Y.call 45 a l=some r:=
 AZ (Y:=Y) rfl Tryz.func45 (ha▸AIy) A6O h
def IX(sets:AL)(numbers:AL)(out:AO)(Ij:Int)(s:St):Prop:=s.v 0=D.sl 3 (AV (D.int .i64) sets)∧s.v 5=D.own 27 (AV KQ out)∧s.v 8=D.sl 3 (AV (D.int .i64) numbers)∧s.v 9=D.int .i64 (numbers.length:Int)∧s.v 10=D.int .i64 Ij
def MU(sets:AL)(numbers:AL)(r:AO)(ex:Ex)(s:St):Prop:=ex= .exit 0∧s.v 5=D.own 27 (AV KQ r)
theorem XR(sets:AL)(numbers:AL){v:AO×Int}{s:St}{r:AO}(h:OU sets numbers v=some r)(hM:IX sets numbers v.1 v.2 s):CG Y.env zI (MU sets numbers r) s:=by
 unfold OU at h;refine BD (c:=iD) (fun v=>IW sets numbers v.1 v.2) (fun v s=>IX sets numbers v.1 v.2 s) (MU sets numbers) ?_ h hM;clear h hM s v r;intro v s o hM h;obtain⟨out,Ij⟩:=v;dsimp only at h hM;unfold IW at h;unfold IX at hM;obtain⟨m0,m1,m2,m3,m4⟩:=hM;unfold iD;rcases iS h with⟨e1,h⟩|⟨e1,h⟩
 ·obtain⟨e2,e3,h⟩:=Hw h;obtain⟨Nu,hl4,h⟩:=Aa h;have c4:=XQ (sets.getD ((numbers.getD Ij.toNat default).toNat) default) hl4;obtain⟨e5,h⟩:=EQ h
  obtain rfl:=Option.some.inj h
  simp (maxDischargeDepth:=9) only [↓AR,AU,↓reduceIte,Nat.reduceEqDiff,Nat.reduceLT,Nat.reduceLeDiff,Nat.reduceAdd,m0,m1,m2,m3,m4,e1,e2.1,e2.2,e3.1,e3.2,c4,e5,IX,FV]
 ·obtain rfl:=Option.some.inj h
  simp (maxDischargeDepth:=9) only [↓AR,AU,↓reduceIte,Nat.reduceEqDiff,Nat.reduceLT,m1,m3,m4,e1,IX,MU,KF]
theorem ZJ(sets:AL)(numbers:AL){r:AO}(h:Qc sets numbers=some r):Y.call 45 [D.sl 3 (AV (D.int .i64) sets),D.sl 3 (AV (D.int .i64) numbers)] []=some (D.own 27 (AV KQ r),[]):=by
 refine c45 ?_ rfl;unfold k45;unfold Qc at h;obtain⟨AC,hl2,h⟩:=Aa h;try dsimp only at h
 simp (maxDischargeDepth:=9) only [↓AR,AU,↓reduceIte,Nat.reduceEqDiff,Nat.reduceLT];refine Ai (XR sets numbers hl2 ?_) ?_
 ·simp (maxDischargeDepth:=9) only [Bd,Da,↓reduceIte,Nat.reduceEqDiff,Nat.reduceLT,IX]<;>(repeat' apply A7)<;>first|rfl|exact⟨_,rfl⟩|exact⟨_,_,rfl⟩|simp [AV,Ad]
 ·intro ex2 s2 hX2;unfold MU at hX2;obtain⟨rfl,n2_0⟩:=hX2
  obtain rfl:=Option.some.inj h
  simp (maxDischargeDepth:=9) only [↓AR,AU,↓reduceIte,Nat.reduceEqDiff,Nat.reduceLT,n2_0]
noncomputable def Kc(l:AL)(n_:Int)(k:Int):Option ((Int)⊕(Int)):= if k<(l.length:Int)then ck (0≤k∧k.toNat<l.length)<| if(l.getD k.toNat default)<n_ then some (Sum.inl (IntKind.i64.wrap (k+1))) else some (Sum.inr k) else some (Sum.inr k)
noncomputable def P8(l:AL)(n_:Int)(v:Int):Option (Int):=Hu (fun v=>Kc l n_ v) v
noncomputable def TD(l:AL)(n_:Int):Option ((AL)⊕(AL)):= (P8 l n_ 0).bind fun AC=> if AC<(l.length:Int)then ck (0≤AC∧AC.toNat<l.length)<| if(l.getD AC.toNat default)=n_ then some (Sum.inl l) else ck (0≤AC)<| ck (AC.toNat≤l.length)<| ck (0+((l.take AC.toNat).drop 0).length<1099511627776)<| ck (((l.take AC.toNat).drop 0).length+1<1099511627776)<| ck ((((l.take AC.toNat).drop 0)++[n_]).length+((l.take l.length).drop AC.toNat).length<1099511627776)<| some (Sum.inr ((((l.take AC.toNat).drop 0)++[n_])++((l.take l.length).drop AC.toNat))) else ck (0≤AC)<| ck (AC.toNat≤l.length)<| ck (0+((l.take AC.toNat).drop 0).length<1099511627776)<| ck (((l.take AC.toNat).drop 0).length+1<1099511627776)<| ck ((((l.take AC.toNat).drop 0)++[n_]).length+((l.take l.length).drop AC.toNat).length<1099511627776)<| some (Sum.inr ((((l.take AC.toNat).drop 0)++[n_])++((l.take l.length).drop AC.toNat)))
def iF:SC:= .seq (.seq (.ops [oM 7 5 3,oM 8 0 27,oN 9 8 27,oB 10 .lss 3 (tK 7) (tK 9) 3 4,oM 11 10 4,⟨(some 12),(.move (tK 0)),27,(some (some 11,true))⟩,⟨(some 13),(.move (tK 5)),3,(some (some 11,true))⟩,⟨(some 14),(.indexAddr 27 (tK 12) (tK 13)),0,(some (some 11,true))⟩,⟨(some 15),(.load 3 (tK 14)),3,(some (some 11,true))⟩,⟨(some 16),(.move (tK 1)),3,(some (some 11,true))⟩,⟨(some 17),(.binOp .lss 3 (tK 15) (tK 16) 3),4,(some (some 11,true))⟩,oX 18 (.pick (tK 11) (tK 17) OL) 4]) (.cond (tK 18) .skip (.exit 0))) (.block 1 (.ops [oM 19 5 3,oB 20 .add 3 (tK 19) (iK 1) 3 3,oA 5 20 3]))
def zJ:SC:= .loop iF
def k58:SC:= .seq (.ops [oX 4 Ev 27]) (.seq (.ops [oX 5 (.assign (iK 0)) 3]) (.seq (.block 0 zJ) (.seq (.seq (.ops [oM 21 5 3,oM 22 0 27,oN 23 22 27,oB 24 .lss 3 (tK 21) (tK 23) 3 4,oM 25 24 4,⟨(some 26),(.move (tK 0)),27,(some (some 25,true))⟩,⟨(some 27),(.move (tK 5)),3,(some (some 25,true))⟩,⟨(some 28),(.indexAddr 27 (tK 26) (tK 27)),0,(some (some 25,true))⟩,⟨(some 29),(.load 3 (tK 28)),3,(some (some 25,true))⟩,⟨(some 30),(.move (tK 1)),3,(some (some 25,true))⟩,⟨(some 31),(.binOp .eql 3 (tK 29) (tK 30) 3),4,(some (some 25,true))⟩,oX 32 (.pick (tK 25) (tK 31) OL) 4]) (.cond (tK 32) (.seq (.ops [oM 33 0 27,oA 4 33 27]) .ret) .skip)) (.seq (.ops [oX 34 (.buildSlice 27 0 #[]) 27,oM 35 0 27,oM 36 5 3,oX 37 (.slice 27 (tK 35) none (some (tK 36)) none) 27,oX 38 (.call ⟨(.builtin .append), #[(tK 34),(tK 37)], #[27,27]⟩) 27,oA 6 38 27]) (.seq (.ops [oM 39 6 27,oM 40 1 3,oX 41 (.buildSlice 27 1 #[(0,(tK 40))]) 27,oX 42 (.call ⟨(.builtin .append), #[(tK 39),(tK 41)], #[27,27]⟩) 27,oA 6 42 27]) (.seq (.ops [oM 43 6 27,oM 44 0 27,oM 45 5 3,oX 46 (.slice 27 (tK 44) (some (tK 45)) none none) 27,oX 47 (.call ⟨(.builtin .append), #[(tK 43),(tK 46)], #[27,27]⟩) 27,oA 4 47 27])
 .ret))))))
theorem A6P:Tryz.f58.body.map (Bw lends)=some k58:=by kernel_rfl
theorem AJ0:CP Tryz.f58 2=true:=by kernel_rfl
theorem c58{a l:List D}{r:D×List D}(h:CG Y.env k58 (FX Ah l.length [ResultVar.tmp 4] r) (entry a l))(ha:a.length=2):Y.call 58 a l=some r:=
 AZ (Y:=Y) rfl Tryz.func58 (ha▸AJ0) A6P h
def J7(l:AL)(n_:Int)(k:Int)(s:St):Prop:=s.v 0=D.sl 3 (AV (D.int .i64) l)∧s.v 1=D.int .i64 n_∧s.v 5=D.int .i64 k
def MV(l:AL)(n_:Int)(r:Int)(ex:Ex)(s:St):Prop:=ex= .exit 0∧s.v 0=D.sl 3 (AV (D.int .i64) l)∧s.v 1=D.int .i64 n_∧s.v 5=D.int .i64 r
theorem ah(l:AL)(n_:Int){v:Int}{s:St}{r:Int}(h:P8 l n_ v=some r)(hM:J7 l n_ v s):CG Y.env zJ (MV l n_ r) s:=by
 unfold P8 at h;refine BD (c:=iF) (fun v=>Kc l n_ v) (fun v s=>J7 l n_ v s) (MV l n_) ?_ h hM;clear h hM s v r;intro k s o hM h;unfold Kc at h;unfold J7 at hM;obtain⟨m0,m1,m2⟩:=hM;unfold iF;rcases iS h with⟨e1,h⟩|⟨e1,h⟩
 ·obtain⟨e2,h⟩:=EQ h;rcases iS h with⟨e3,h⟩|⟨e3,h⟩
  ·obtain rfl:=Option.some.inj h
   simp (maxDischargeDepth:=9) only [↓AR,AU,↓reduceIte,Nat.reduceEqDiff,Nat.reduceLT,m0,m1,m2,e1,e2.1,e2.2,e3,J7,FV]
  ·obtain rfl:=Option.some.inj h
   simp (maxDischargeDepth:=9) only [↓AR,AU,↓reduceIte,Nat.reduceEqDiff,Nat.reduceLT,m0,m1,m2,e1,e2.1,e2.2,e3,J7,MV,KF]
 ·obtain rfl:=Option.some.inj h
  simp (maxDischargeDepth:=9) only [↓AR,AU,↓reduceIte,Nat.reduceEqDiff,Nat.reduceLT,m0,m1,m2,e1,J7,MV,KF]
theorem iG(l:AL)(n_:Int){r:(AL)⊕(AL)}(h:TD l n_=some r):Y.call 58 [D.sl 3 (AV (D.int .i64) l),D.int .i64 n_] []=some (match (generalizing:=false) r with| .inl q=>(D.sl 3 (AV (D.int .i64) q),[])| .inr q=>(D.own 3 (AV (D.int .i64) q),[])):=by
 refine c58 ?_ rfl;unfold k58;unfold TD at h;obtain⟨AC,hl2,h⟩:=Aa h;try dsimp only at h
 simp (maxDischargeDepth:=9) only [↓AR,AU,↓reduceIte,Nat.reduceEqDiff,Nat.reduceLT];refine Ai (ah l n_ hl2 ?_) ?_
 ·simp (maxDischargeDepth:=9) only [Bd,Da,↓reduceIte,Nat.reduceEqDiff,Nat.reduceLT,J7]
 ·intro ex2 s2 hX2;unfold MV at hX2;obtain⟨rfl,n2_0,n2_1,n2_2⟩:=hX2;rcases iS h with⟨e3,h⟩|⟨e3,h⟩
  ·obtain⟨e4,h⟩:=EQ h;rcases iS h with⟨e5,h⟩|⟨e5,h⟩
   ·obtain rfl:=Option.some.inj h
    simp (maxDischargeDepth:=9) only [↓AR,AU,↓reduceIte,Nat.reduceEqDiff,Nat.reduceLT,n2_0,n2_1,n2_2,e3,e4.1,e4.2,decide_eq_true e5]
   ·obtain⟨e6,e7,e8,e9,h⟩:=aH h;obtain⟨e10,h⟩:=EQ h
    obtain rfl:=Option.some.inj h
    simp (maxDischargeDepth:=9) only [↓AR,AU,↓reduceIte,Nat.reduceEqDiff,Nat.reduceLT,Nat.reduceLeDiff,Nat.reduceAdd,n2_0,n2_1,n2_2,e3,e4.1,e4.2,e5,e7,e8,e9,e10]
  ·obtain⟨e4,e5,e6,e7,h⟩:=aH h;obtain⟨e8,h⟩:=EQ h
   obtain rfl:=Option.some.inj h
   simp (maxDischargeDepth:=9) only [↓AR,AU,↓reduceIte,Nat.reduceEqDiff,Nat.reduceLT,Nat.reduceLeDiff,Nat.reduceAdd,n2_0,n2_1,n2_2,e3,e4,e5,e6,e7,e8]
noncomputable def Fy(sets:AL)(x_:AL)(D7:Int)(out1:AL)(ai:Int):Option ((AL×Int)⊕(AL)):= if ai<(sets.length:Int)then ck (0≤ai∧ai.toNat<sets.length)<| if(x_.getD D7.toNat default)=(sets.getD ai.toNat default)then ck (out1.length+1<1099511627776)<| some (Sum.inl ((out1++[ai]),IntKind.i64.wrap (ai+1))) else some (Sum.inl (out1,IntKind.i64.wrap (ai+1))) else some (Sum.inr out1)
noncomputable def K9(sets:AL)(x_:AL)(D7:Int)(v:AL×Int):Option (AL):=Hu (fun v=>Fy sets x_ D7 v.1 v.2) v
noncomputable def Fz(sets:AL)(x_:AL)(out:AL)(D7:Int):Option ((AL×Int)⊕(AL)):= if D7<(x_.length:Int)then ck (0≤D7∧D7.toNat<x_.length)<| (K9 sets x_ D7 (out,0)).bind fun AC=> some (Sum.inl (AC,IntKind.i64.wrap (D7+1))) else some (Sum.inr out)
noncomputable def MW(sets:AL)(x_:AL)(v:AL×Int):Option (AL):=Hu (fun v=>Fz sets x_ v.1 v.2) v
noncomputable def Nw(sets:AL)(x_:AL):Option (AL):= (MW sets x_ ([],0)).bind fun Ao=> ck (Ao.length<1099511627776)<| some (CY Ao)
def iH:SC:= .seq (.ops [oB 19 .lss 3 (tK 18) (tK 17) 3 0]) (.seq (.cond (tK 19) .skip (.exit 2)) (.seq (.block 3 (.seq (.ops [oM 20 18 3,oI 21 27 16 18,oL 22 3 21 3,oA 8 20 3,oA 9 22 3]) (.seq (.ops [oM 23 7 3,oM 24 9 3,oB 25 .eql 3 (tK 23) (tK 24) 3 4]) (.cond (tK 25) (.ops [oM 26 5 27,oM 27 8 3,oX 28 (.buildSlice 27 1 #[(0,(tK 27))]) 27,oX 29 (.call ⟨(.builtin .append), #[(tK 26),(tK 28)], #[27,27]⟩) 27,oA 5 29 27]) .skip)))) (.ops [oB 30 .add 3 (tK 18) (iK 1) 3 3,oM 18 30 3])))
def zK:SC:= .loop iH
def iI:SC:= .seq (.ops [oB 13 .lss 3 (tK 12) (tK 11) 3 0]) (.seq (.cond (tK 13) .skip (.exit 0)) (.seq (.block 1 (.seq (.ops [oI 14 27 10 12,oL 15 3 14 3,oA 7 15 3]) (.seq (.ops [oM 16 0 27,oN 17 16 27,oX 18 (.move (iK 0)) 3]) (.block 2 zK)))) (.ops [oB 31 .add 3 (tK 12) (iK 1) 3 3,oM 12 31 3])))
def zL:SC:= .loop iI
def k60:SC:= .seq (.ops [oX 4 Ev 27]) (.seq (.ops [oX 5 Ev 27]) (.seq (.seq (.ops [oM 10 1 27,oN 11 10 27,oX 12 (.move (iK 0)) 3]) (.block 0 zL)) (.seq (.ops [oM 32 5 27,oC 33 90 [(tK 32)] [27] 27,oA 4 33 27]) .ret)))
theorem A6Q:Tryz.f60.body.map (Bw lends)=some k60:=by kernel_rfl
theorem AJ2:CP Tryz.f60 2=true:=by kernel_rfl
theorem c60{a l:List D}{r:D×List D}(h:CG Y.env k60 (FX Ah l.length [ResultVar.tmp 4] r) (entry a l))(ha:a.length=2):Y.call 60 a l=some r:=
 AZ (Y:=Y) rfl Tryz.func60 (ha▸AJ2) A6Q h
def Eg(sets:AL)(x_:AL)(D7:Int)(out1:AL)(ai:Int)(s:St):Prop:=s.v 0=D.sl 3 (AV (D.int .i64) sets)∧s.v 5=D.own 3 (AV (D.int .i64) out1)∧s.v 7=D.int .i64 (x_.getD D7.toNat default)∧s.v 10=D.sl 3 (AV (D.int .i64) x_)∧s.v 11=D.int .i64 (x_.length:Int)∧s.v 12=D.int .i64 D7∧s.v 16=D.sl 3 (AV (D.int .i64) sets)∧s.v 17=D.int .i64 (sets.length:Int)∧s.v 18=D.int .i64 ai
def Ke(sets:AL)(x_:AL)(D7:Int)(r:AL)(ex:Ex)(s:St):Prop:=ex= .exit 2∧s.v 0=D.sl 3 (AV (D.int .i64) sets)∧s.v 5=D.own 3 (AV (D.int .i64) r)∧s.v 10=D.sl 3 (AV (D.int .i64) x_)∧s.v 11=D.int .i64 (x_.length:Int)∧s.v 12=D.int .i64 D7
theorem VM(sets:AL)(x_:AL)(D7:Int){v:AL×Int}{s:St}{r:AL}(h:K9 sets x_ D7 v=some r)(hM:Eg sets x_ D7 v.1 v.2 s):CG Y.env zK (Ke sets x_ D7 r) s:=by
 unfold K9 at h;refine BD (c:=iH) (fun v=>Fy sets x_ D7 v.1 v.2) (fun v s=>Eg sets x_ D7 v.1 v.2 s) (Ke sets x_ D7) ?_ h hM;clear h hM s v r;intro v s o hM h;obtain⟨out1,ai⟩:=v;dsimp only at h hM;unfold Fy at h;unfold Eg at hM;obtain⟨m0,m1,m2,m3,m4,m5,m6,m7,m8⟩:=hM;unfold iH;rcases iS h with⟨e3,h⟩|⟨e3,h⟩
 ·obtain⟨e4,h⟩:=EQ h;rcases iS h with⟨e5,h⟩|⟨e5,h⟩
  ·obtain⟨e6,h⟩:=EQ h
   obtain rfl:=Option.some.inj h
   simp (maxDischargeDepth:=9) only [↓AR,AU,↓reduceIte,Nat.reduceEqDiff,Nat.reduceLT,Nat.reduceLeDiff,Nat.reduceAdd,m0,m1,m2,m3,m4,m5,m6,m7,m8,e3,e4.1,e4.2,decide_eq_true e5,e6,Eg,FV]
  ·obtain rfl:=Option.some.inj h
   simp (maxDischargeDepth:=9) only [↓AR,AU,↓reduceIte,Nat.reduceEqDiff,Nat.reduceLT,m0,m1,m2,m3,m4,m5,m6,m7,m8,e3,e4.1,e4.2,e5,Eg,FV]
 ·obtain rfl:=Option.some.inj h
  simp (maxDischargeDepth:=9) only [↓AR,AU,↓reduceIte,Nat.reduceEqDiff,Nat.reduceLT,m0,m1,m3,m4,m5,m7,m8,e3,Eg,Ke,KF]
def G5(sets:AL)(x_:AL)(out:AL)(D7:Int)(s:St):Prop:=s.v 0=D.sl 3 (AV (D.int .i64) sets)∧s.v 5=D.own 3 (AV (D.int .i64) out)∧s.v 10=D.sl 3 (AV (D.int .i64) x_)∧s.v 11=D.int .i64 (x_.length:Int)∧s.v 12=D.int .i64 D7
def Kg(sets:AL)(x_:AL)(r:AL)(ex:Ex)(s:St):Prop:=ex= .exit 0∧s.v 5=D.own 3 (AV (D.int .i64) r)
theorem VN(sets:AL)(x_:AL){v:AL×Int}{s:St}{r:AL}(h:MW sets x_ v=some r)(hM:G5 sets x_ v.1 v.2 s):CG Y.env zL (Kg sets x_ r) s:=by
 unfold MW at h;refine BD (c:=iI) (fun v=>Fz sets x_ v.1 v.2) (fun v s=>G5 sets x_ v.1 v.2 s) (Kg sets x_) ?_ h hM;clear h hM s v r;intro v s o hM h;obtain⟨out,D7⟩:=v;dsimp only at h hM;unfold Fz at h;unfold G5 at hM;obtain⟨m0,m1,m2,m3,m4⟩:=hM;unfold iI;rcases iS h with⟨e1,h⟩|⟨e1,h⟩
 ·obtain⟨e2,h⟩:=EQ h;obtain⟨AC,hl4,h⟩:=Aa h;try dsimp only at h
  simp (maxDischargeDepth:=9) only [↓AR,AU,↓reduceIte,Nat.reduceEqDiff,Nat.reduceLT,m0,m2,m3,m4,e1,e2.1,e2.2];refine Ai (VM sets x_ D7 hl4 ?_) ?_
  ·simp (maxDischargeDepth:=9) only [Bd,↓reduceIte,Nat.reduceEqDiff,m0,m1,m2,m3,m4,Eg]
  ·intro ex4 s4 hX4;unfold Ke at hX4;obtain⟨rfl,n4_0,n4_1,n4_2,n4_3,n4_4⟩:=hX4
   obtain rfl:=Option.some.inj h
   simp (maxDischargeDepth:=9) only [↓AR,AU,↓reduceIte,Nat.reduceEqDiff,Nat.reduceLT,n4_0,n4_1,n4_2,n4_3,n4_4,G5,FV]
 ·obtain rfl:=Option.some.inj h
  simp (maxDischargeDepth:=9) only [↓AR,AU,↓reduceIte,Nat.reduceEqDiff,Nat.reduceLT,m1,m3,m4,e1,G5,Kg,KF]
theorem WM(sets:AL)(x_:AL){r:AL}(h:Nw sets x_=some r):Y.call 60 [D.sl 3 (AV (D.int .i64) sets),D.sl 3 (AV (D.int .i64) x_)] []=some (D.own 3 (AV (D.int .i64) r),[]):=by
 refine c60 ?_ rfl;unfold k60;unfold Nw at h;obtain⟨Ao,hl2,h⟩:=Aa h;try dsimp only at h
 simp (maxDischargeDepth:=9) only [↓AR,AU,↓reduceIte,Nat.reduceEqDiff,Nat.reduceLT];refine Ai (VN sets x_ hl2 ?_) ?_
 ·simp (maxDischargeDepth:=9) only [Bd,Da,↓reduceIte,Nat.reduceEqDiff,Nat.reduceLT,G5]<;>(repeat' apply A7)<;>first|rfl|exact⟨_,rfl⟩|exact⟨_,_,rfl⟩|simp [AV,Ad]
 ·intro ex2 s2 hX2;unfold Kg at hX2;obtain⟨rfl,n2_0⟩:=hX2;obtain⟨e3,h⟩:=EQ h;have c4:=Q5 Ao e3
  obtain rfl:=Option.some.inj h
  simp (maxDischargeDepth:=9) only [↓AR,AU,↓reduceIte,Nat.reduceEqDiff,Nat.reduceLT,Nat.reduceAdd,n2_0,c4]
noncomputable def FO(l:AO)(x_:AL)(k:Int):Option ((Int)⊕(Int)):= if k<(l.length:Int)then ck (0≤k∧k.toNat<l.length)<| ck ((l.getD k.toNat default).length<1099511627776)<| ck ((l.getD k.toNat default).length=x_.length)<| ck (J2 (l.getD k.toNat default)=true)<| ck (J2 x_=true)<| if(cmpL (l.getD k.toNat default) x_)<0 then some (Sum.inl (IntKind.i64.wrap (k+1))) else some (Sum.inr k) else some (Sum.inr k)
noncomputable def NV(l:AO)(x_:AL)(v:Int):Option (Int):=Hu (fun v=>FO l x_ v) v
noncomputable def NC(l:AO)(x_:AL):Option ((AO)⊕(AO)):= (NV l x_ 0).bind fun AC=> if AC<(l.length:Int)then ck (0≤AC∧AC.toNat<l.length)<| (QY (l.getD AC.toNat default) x_).bind fun R4=> if R4=true then some (Sum.inl l) else ck (0≤AC)<| ck (AC.toNat≤l.length)<| ck (0+((l.take AC.toNat).drop 0).length<1099511627776)<| ck (((l.take AC.toNat).drop 0).length+1<1099511627776)<| ck ((((l.take AC.toNat).drop 0)++[x_]).length+((l.take l.length).drop AC.toNat).length<1099511627776)<| some (Sum.inr ((((l.take AC.toNat).drop 0)++[x_])++((l.take l.length).drop AC.toNat))) else ck (0≤AC)<| ck (AC.toNat≤l.length)<| ck (0+((l.take AC.toNat).drop 0).length<1099511627776)<| ck (((l.take AC.toNat).drop 0).length+1<1099511627776)<| ck ((((l.take AC.toNat).drop 0)++[x_]).length+((l.take l.length).drop AC.toNat).length<1099511627776)<| some (Sum.inr ((((l.take AC.toNat).drop 0)++[x_])++((l.take l.length).drop AC.toNat)))
def iJ:SC:= .seq (.seq (.ops [oM 7 5 3,oM 8 0 22,oN 9 8 22,oB 10 .lss 3 (tK 7) (tK 9) 3 4,oM 11 10 4,⟨(some 12),(.move (tK 0)),22,(some (some 11,true))⟩,⟨(some 13),(.move (tK 5)),3,(some (some 11,true))⟩,⟨(some 14),(.indexAddr 22 (tK 12) (tK 13)),0,(some (some 11,true))⟩,⟨(some 15),(.load 27 (tK 14)),27,(some (some 11,true))⟩,⟨(some 16),(.move (tK 1)),27,(some (some 11,true))⟩,⟨(some 17),(.call ⟨(.value (.func 55)), #[(tK 15),(tK 16)], #[27,27]⟩),3,(some (some 11,true))⟩,⟨(some 18),(.binOp .lss 3 (tK 17) (iK 0) 3),4,(some (some 11,true))⟩,oX 19 (.pick (tK 11) (tK 18) OL) 4]) (.cond (tK 19) .skip (.exit 0))) (.block 1 (.ops [oM 20 5 3,oB 21 .add 3 (tK 20) (iK 1) 3 3,oA 5 21 3]))
def zM:SC:= .loop iJ
def k59:SC:= .seq (.ops [oX 4 Ev 22]) (.seq (.ops [oX 5 (.assign (iK 0)) 3]) (.seq (.block 0 zM) (.seq (.seq (.ops [oM 22 5 3,oM 23 0 22,oN 24 23 22,oB 25 .lss 3 (tK 22) (tK 24) 3 4,oM 26 25 4,⟨(some 27),(.move (tK 0)),22,(some (some 26,true))⟩,⟨(some 28),(.move (tK 5)),3,(some (some 26,true))⟩,⟨(some 29),(.indexAddr 22 (tK 27) (tK 28)),0,(some (some 26,true))⟩,⟨(some 30),(.load 27 (tK 29)),27,(some (some 26,true))⟩,⟨(some 31),(.move (tK 1)),27,(some (some 26,true))⟩,⟨(some 32),(.call ⟨(.value (.func 89)), #[(tK 30),(tK 31)], #[27,27]⟩),4,(some (some 26,true))⟩,oX 33 (.pick (tK 26) (tK 32) OL) 4]) (.cond (tK 33) (.seq (.ops [oM 34 0 22,oA 4 34 22]) .ret) .skip)) (.seq (.ops [oX 35 (.buildSlice 22 0 #[]) 22,oM 36 0 22,oM 37 5 3,oX 38 (.slice 22 (tK 36) none (some (tK 37)) none) 22,oX 39 (.call ⟨(.builtin .append), #[(tK 35),(tK 38)], #[22,22]⟩) 22,oA 6 39 22]) (.seq (.ops [oM 40 6 22,oM 41 1 27,oX 42 (.buildSlice 22 1 #[(0,(tK 41))]) 22,oX 43 (.call ⟨(.builtin .append), #[(tK 40),(tK 42)], #[22,22]⟩) 22,oA 6 43 22]) (.seq (.ops [oM 44 6 22,oM 45 0 22,oM 46 5 3,oX 47 (.slice 22 (tK 45) (some (tK 46)) none none) 22,oX 48 (.call ⟨(.builtin .append), #[(tK 44),(tK 47)], #[22,22]⟩) 22,
 oA 4 48 22]) .ret))))))
theorem A6R:Tryz.f59.body.map (Bw lends)=some k59:=by kernel_rfl
theorem AJ4:CP Tryz.f59 2=true:=by kernel_rfl
theorem c59{a l:List D}{r:D×List D}(h:CG Y.env k59 (FX Ah l.length [ResultVar.tmp 4] r) (entry a l))(ha:a.length=2):Y.call 59 a l=some r:=
 AZ (Y:=Y) rfl Tryz.func59 (ha▸AJ4) A6R h
def FP(l:AO)(x_:AL)(k:Int)(s:St):Prop:=s.v 0=D.sl 27 (AV Aw l)∧s.v 1=D.sl 3 (AV (D.int .i64) x_)∧s.v 5=D.int .i64 k
def JL(l:AO)(x_:AL)(r:Int)(ex:Ex)(s:St):Prop:=ex= .exit 0∧s.v 0=D.sl 27 (AV Aw l)∧s.v 1=D.sl 3 (AV (D.int .i64) x_)∧s.v 5=D.int .i64 r
theorem WN(l:AO)(x_:AL){v:Int}{s:St}{r:Int}(h:NV l x_ v=some r)(hM:FP l x_ v s):CG Y.env zM (JL l x_ r) s:=by
 unfold NV at h;refine BD (c:=iJ) (fun v=>FO l x_ v) (fun v s=>FP l x_ v s) (JL l x_) ?_ h hM;clear h hM s v r;intro k s o hM h;unfold FO at h;unfold FP at hM;obtain⟨m0,m1,m2⟩:=hM;unfold iJ;rcases iS h with⟨e1,h⟩|⟨e1,h⟩
 ·obtain⟨e2,e3,e4,e5,h⟩:=aH h;obtain⟨e6,h⟩:=EQ h;have c7:=VC (l.getD k.toNat default) x_ e3 e4 e5 e6;rcases iS h with⟨e8,h⟩|⟨e8,h⟩
  ·obtain rfl:=Option.some.inj h
   simp (maxDischargeDepth:=9) only [↓AR,AU,↓reduceIte,Nat.reduceEqDiff,Nat.reduceLT,Nat.reduceAdd,m0,m1,m2,e1,e2.1,e2.2,c7,e8,FP,FV]
  ·obtain rfl:=Option.some.inj h
   simp (maxDischargeDepth:=9) only [↓AR,AU,↓reduceIte,Nat.reduceEqDiff,Nat.reduceLT,Nat.reduceAdd,m0,m1,m2,e1,e2.1,e2.2,c7,e8,FP,JL,KF]
 ·obtain rfl:=Option.some.inj h
  simp (maxDischargeDepth:=9) only [↓AR,AU,↓reduceIte,Nat.reduceEqDiff,Nat.reduceLT,m0,m1,m2,e1,FP,JL,KF]
theorem XT(l:AO)(x_:AL){r:(AO)⊕(AO)}(h:NC l x_=some r):Y.call 59 [D.sl 27 (AV Aw l),D.sl 3 (AV (D.int .i64) x_)] []=some (match (generalizing:=false) r with| .inl q=>(D.sl 27 (AV Aw q),[])| .inr q=>(D.own 27 (AV Aw q),[])):=by
 refine c59 ?_ rfl;unfold k59;unfold NC at h;obtain⟨AC,hl2,h⟩:=Aa h;try dsimp only at h
 simp (maxDischargeDepth:=9) only [↓AR,AU,↓reduceIte,Nat.reduceEqDiff,Nat.reduceLT];refine Ai (WN l x_ hl2 ?_) ?_
 ·simp (maxDischargeDepth:=9) only [Bd,Da,↓reduceIte,Nat.reduceEqDiff,Nat.reduceLT,FP]
 ·intro ex2 s2 hX2;unfold JL at hX2;obtain⟨rfl,n2_0,n2_1,n2_2⟩:=hX2;rcases iS h with⟨e3,h⟩|⟨e3,h⟩
  ·obtain⟨e4,h⟩:=EQ h;obtain⟨R4,hl5,h⟩:=Aa h;have c5:=Tf (l.getD AC.toNat default) x_ hl5;rcases iS h with⟨e6,h⟩|⟨e6,h⟩
   ·obtain rfl:=Option.some.inj h
    simp (maxDischargeDepth:=9) only [↓AR,AU,↓reduceIte,Nat.reduceEqDiff,Nat.reduceLT,Nat.reduceAdd,n2_0,n2_1,n2_2,e3,e4.1,e4.2,c5,e6]
   ·have e6f:R4=false:=Ju.mpr e6;obtain⟨e7,e8,e9,e10,h⟩:=aH h;obtain⟨e11,h⟩:=EQ h
    obtain rfl:=Option.some.inj h
    simp (maxDischargeDepth:=9) only [↓AR,AU,↓reduceIte,Nat.reduceEqDiff,Nat.reduceLT,Nat.reduceLeDiff,Nat.reduceAdd,n2_0,n2_1,n2_2,e3,e4.1,e4.2,c5,e6f,e8,e9,e10,e11]
  ·obtain⟨e4,e5,e6,e7,h⟩:=aH h;obtain⟨e8,h⟩:=EQ h
   obtain rfl:=Option.some.inj h
   simp (maxDischargeDepth:=9) only [↓AR,AU,↓reduceIte,Nat.reduceEqDiff,Nat.reduceLT,Nat.reduceLeDiff,Nat.reduceAdd,n2_0,n2_1,n2_2,e3,e4,e5,e6,e7,e8]
noncomputable def G6(labels:Int)(size:Int)(out:AO)(k:Int)(ED:Int)(next1:AO)(a:Int):Option ((AO×Int)⊕(AO)):= if a<labels then (NS (out.getD ED.toNat default)).bind fun A6S=> ck (A6S.length+1<1099511627776)<| ck (next1.length+1<1099511627776)<| some (Sum.inl ((next1++[(A6S++[a])]),IntKind.i64.wrap (a+1))) else some (Sum.inr next1)
noncomputable def IY(labels:Int)(size:Int)(out:AO)(k:Int)(ED:Int)(v:AO×Int):Option (AO):=Hu (fun v=>G6 labels size out k ED v.1 v.2) v
noncomputable def G7(labels:Int)(size:Int)(out:AO)(k:Int)(next:AO)(ED:Int):Option ((AO×Int)⊕(AO)):= if ED<(out.length:Int)then ck (0≤ED∧ED.toNat<out.length)<| if 0<k then ck (0≤IntKind.i64.wrap (k-1)∧(IntKind.i64.wrap (k-1)).toNat<(out.getD ED.toNat default).length)<| (IY labels size out k ED (next,((out.getD ED.toNat default).getD ((IntKind.i64.wrap (k-1)).toNat) default))).bind fun AC=> some (Sum.inl (AC,IntKind.i64.wrap (ED+1))) else (IY labels size out k ED (next,0)).bind fun AC=> some (Sum.inl (AC,IntKind.i64.wrap (ED+1))) else some (Sum.inr next)
noncomputable def KA(labels:Int)(size:Int)(out:AO)(k:Int)(v:AO×Int):Option (AO):=Hu (fun v=>G7 labels size out k v.1 v.2) v
noncomputable def G8(labels:Int)(size:Int)(out:AO)(k:Int):Option ((AO×Int)⊕(AO)):= if k<size then (KA labels size out k ([],0)).bind fun Ao=> some (Sum.inl (Ao,IntKind.i64.wrap (k+1))) else some (Sum.inr out)
noncomputable def MX(labels:Int)(size:Int)(v:AO×Int):Option (AO):=Hu (fun v=>G8 labels size v.1 v.2) v
noncomputable def Io(labels:Int)(size:Int):Option (AO):= (MX labels size ([[]],0)).bind fun Lh=> some Lh
def iL:SC:= .seq (.seq (.ops [oM 32 11 3,oM 33 0 3,oB 34 .lss 3 (tK 32) (tK 33) 3 4]) (.cond (tK 34) .skip (.exit 4))) (.seq (.block 5 (.ops [oM 37 7 22,oM 38 9 27,oC 39 79 [(tK 38)] [27] 27,oM 40 11 3,oX 41 (.buildSlice 27 1 #[(0,(tK 40))]) 27,oX 42 (.call ⟨(.builtin .append), #[(tK 39),(tK 41)], #[27,27]⟩) 27,oX 43 (.buildSlice 22 1 #[(0,(tK 42))]) 900004,oX 44 (.call ⟨(.builtin .append), #[(tK 37),(tK 43)], #[22,22]⟩) 22,oA 7 44 22])) (.ops [oM 35 11 3,oB 36 .add 3 (tK 35) (iK 1) 3 3,oA 11 36 3]))
def zN:SC:= .loop iL
def iM:SC:= .seq (.ops [oB 21 .lss 3 (tK 20) (tK 19) 3 0]) (.seq (.cond (tK 21) .skip (.exit 2)) (.seq (.block 3 (.seq (.ops [oI 22 22 18 20,oL 23 27 22 27,oA 9 23 27]) (.seq (.ops [oX 10 (.assign (iK 0)) 3]) (.seq (.seq (.ops [oM 24 6 3,oB 25 .gtr 3 (tK 24) (iK 0) 3 4]) (.cond (tK 25) (.ops [oM 26 9 27,oM 27 6 3,oB 28 .sub 3 (tK 27) (iK 1) 3 3,oI 29 27 26 28,oL 30 3 29 3,oA 10 30 3]) .skip)) (.seq (.ops [oM 31 10 3,oA 11 31 3]) (.block 4 zN)))))) (.ops [oB 45 .add 3 (tK 20) (iK 1) 3 3,oM 20 45 3])))
def zO:SC:= .loop iM
def iO:SC:= .seq (.seq (.ops [oM 13 6 3,oM 14 1 3,oB 15 .lss 3 (tK 13) (tK 14) 3 4]) (.cond (tK 15) .skip (.exit 0))) (.seq (.block 1 (.seq (.ops [oX 7 Ev 22]) (.seq (.seq (.ops [oM 18 5 22,oN 19 18 22,oX 20 (.move (iK 0)) 3]) (.block 2 zO)) (.ops [oM 46 7 22,oA 5 46 22])))) (.ops [oM 16 6 3,oB 17 .add 3 (tK 16) (iK 1) 3 3,oA 6 17 3]))
def zP:SC:= .loop iO
def k47:SC:= .seq (.ops [oX 4 Ev 22]) (.seq (.ops [oX 12 (.buildSlice 22 1 #[(0,(.const (.slice none 0 0)))]) 900004,oA 5 12 22]) (.seq (.seq (.ops [oX 6 (.assign (iK 0)) 3]) (.block 0 zP)) (.seq (.ops [oM 47 5 22,oA 4 47 22]) .ret)))
theorem A6T:Tryz.f47.body.map (Bw lends)=some k47:=by kernel_rfl
theorem AJ6:CP Tryz.f47 2=true:=by kernel_rfl
theorem c47{a l:List D}{r:D×List D}(h:CG Y.env k47 (FX Ah l.length [ResultVar.tmp 4] r) (entry a l))(ha:a.length=2):Y.call 47 a l=some r:=
 AZ (Y:=Y) rfl Tryz.func47 (ha▸AJ6) A6T h
def Eh(labels:Int)(size:Int)(out:AO)(k:Int)(ED:Int)(next1:AO)(a:Int)(s:St):Prop:=s.v 0=D.int .i64 labels∧s.v 1=D.int .i64 size∧s.v 5=D.own 27 (AV Aw out)∧s.v 6=D.int .i64 k∧s.v 7=D.own 27 (AV Aw next1)∧s.v 9=D.sl 3 (AV (D.int .i64) (out.getD ED.toNat default))∧s.v 11=D.int .i64 a∧(∃w_,s.v 18=D.vw [5] (s.k 5) w_)∧s.v 19=D.int .i64 (out.length:Int)∧s.v 20=D.int .i64 ED
def IZ(labels:Int)(size:Int)(out:AO)(k:Int)(ED:Int)(r:AO)(ex:Ex)(s:St):Prop:=ex= .exit 4∧s.v 0=D.int .i64 labels∧s.v 1=D.int .i64 size∧s.v 5=D.own 27 (AV Aw out)∧s.v 6=D.int .i64 k∧s.v 7=D.own 27 (AV Aw r)∧(∃w_,s.v 18=D.vw [5] (s.k 5) w_)∧s.v 19=D.int .i64 (out.length:Int)∧s.v 20=D.int .i64 ED
theorem Po(labels:Int)(size:Int)(out:AO)(k:Int)(ED:Int){v:AO×Int}{s:St}{r:AO}(h:IY labels size out k ED v=some r)(hM:Eh labels size out k ED v.1 v.2 s):CG Y.env zN (IZ labels size out k ED r) s:=by
 unfold IY at h;refine BD (c:=iL) (fun v=>G6 labels size out k ED v.1 v.2) (fun v s=>Eh labels size out k ED v.1 v.2 s) (IZ labels size out k ED) ?_ h hM;clear h hM s v r;intro v s o hM h;obtain⟨next1,a⟩:=v;dsimp only at h hM;unfold G6 at h;unfold Eh at hM;obtain⟨m0,m1,m2,m3,m4,m5,m6,⟨w7_,m7⟩,m8,m9⟩:=hM;unfold iL;rcases iS h with⟨e6,h⟩|⟨e6,h⟩
 ·obtain⟨A6S,hl7,h⟩:=Aa h;have c7:=OQ (out.getD ED.toNat default) hl7;obtain⟨e8,e9,h⟩:=Hw h
  obtain rfl:=Option.some.inj h
  simp (maxDischargeDepth:=9) only [↓AR,AU,↓reduceIte,Nat.reduceEqDiff,Nat.reduceLT,Nat.reduceLeDiff,Nat.reduceAdd,m0,m1,m2,m3,m4,m5,m6,m7,m8,m9,e6,c7,e8,e9,Eh,FV]<;>(repeat' apply A7)<;>first|rfl|exact⟨_,rfl⟩|exact⟨_,_,rfl⟩|simp [AV,Ad]
 ·obtain rfl:=Option.some.inj h
  simp (maxDischargeDepth:=9) only [↓AR,AU,↓reduceIte,Nat.reduceEqDiff,Nat.reduceLT,m0,m1,m2,m3,m4,m6,m7,m8,m9,e6,Eh,IZ,KF]<;>(repeat' apply A7)<;>first|rfl|exact⟨_,rfl⟩|exact⟨_,_,rfl⟩|simp [AV,Ad]
def Ei(labels:Int)(size:Int)(out:AO)(k:Int)(next:AO)(ED:Int)(s:St):Prop:=s.v 0=D.int .i64 labels∧s.v 1=D.int .i64 size∧s.v 5=D.own 27 (AV Aw out)∧s.v 6=D.int .i64 k∧s.v 7=D.own 27 (AV Aw next)∧(∃w_,s.v 18=D.vw [5] (s.k 5) w_)∧s.v 19=D.int .i64 (out.length:Int)∧s.v 20=D.int .i64 ED
def Kh(labels:Int)(size:Int)(out:AO)(k:Int)(r:AO)(ex:Ex)(s:St):Prop:=ex= .exit 2∧s.v 0=D.int .i64 labels∧s.v 1=D.int .i64 size∧s.v 6=D.int .i64 k∧s.v 7=D.own 27 (AV Aw r)
theorem VO(labels:Int)(size:Int)(out:AO)(k:Int){v:AO×Int}{s:St}{r:AO}(h:KA labels size out k v=some r)(hM:Ei labels size out k v.1 v.2 s):CG Y.env zO (Kh labels size out k r) s:=by
 unfold KA at h;refine BD (c:=iM) (fun v=>G7 labels size out k v.1 v.2) (fun v s=>Ei labels size out k v.1 v.2 s) (Kh labels size out k) ?_ h hM;clear h hM s v r;intro v s o hM h;obtain⟨next,ED⟩:=v;dsimp only at h hM;unfold G7 at h;unfold Ei at hM;obtain⟨m0,m1,m2,m3,m4,⟨w5_,m5⟩,m6,m7⟩:=hM;unfold iM;rcases iS h with⟨e2,h⟩|⟨e2,h⟩
 ·obtain⟨e3,h⟩:=EQ h;rcases iS h with⟨e4,h⟩|⟨e4,h⟩
  ·obtain⟨e5,h⟩:=EQ h;obtain⟨AC,hl7,h⟩:=Aa h;try dsimp only at h
   simp (maxDischargeDepth:=9) only [↓AR,AU,↓reduceIte,Nat.reduceEqDiff,Nat.reduceLT,m2,m3,m5,m6,m7,e2,e3.1,e3.2,e4,e5.1,e5.2];refine Ai (Po labels size out k ED hl7 ?_) ?_
   ·simp (maxDischargeDepth:=9) only [Bd,↓reduceIte,Nat.reduceEqDiff,m0,m1,m2,m3,m4,m5,m6,m7,Eh]<;>(repeat' apply A7)<;>first|rfl|exact⟨_,rfl⟩|exact⟨_,_,rfl⟩|simp [AV,Ad]
   ·intro ex7 s7 hX7;unfold IZ at hX7;obtain⟨rfl,n7_0,n7_1,n7_2,n7_3,n7_4,⟨w5_,n7_5⟩,n7_6,n7_7⟩:=hX7
    obtain rfl:=Option.some.inj h
    simp (maxDischargeDepth:=9) only [↓AR,AU,↓reduceIte,Nat.reduceEqDiff,Nat.reduceLT,n7_0,n7_1,n7_2,n7_3,n7_4,n7_5,n7_6,n7_7,Ei,FV]<;>(repeat' apply A7)<;>first|rfl|exact⟨_,rfl⟩|exact⟨_,_,rfl⟩|simp [AV,Ad]
  ·obtain⟨AC,hl6,h⟩:=Aa h;try dsimp only at h
   simp (maxDischargeDepth:=9) only [↓AR,AU,↓reduceIte,Nat.reduceEqDiff,Nat.reduceLT,m2,m3,m5,m6,m7,e2,e3.1,e3.2,e4];refine Ai (Po labels size out k ED hl6 ?_) ?_
   ·simp (maxDischargeDepth:=9) only [Bd,↓reduceIte,Nat.reduceEqDiff,m0,m1,m2,m3,m4,m5,m6,m7,Eh]<;>(repeat' apply A7)<;>first|rfl|exact⟨_,rfl⟩|exact⟨_,_,rfl⟩|simp [AV,Ad]
   ·intro ex6 s6 hX6;unfold IZ at hX6;obtain⟨rfl,n6_0,n6_1,n6_2,n6_3,n6_4,⟨w5_,n6_5⟩,n6_6,n6_7⟩:=hX6
    obtain rfl:=Option.some.inj h
    simp (maxDischargeDepth:=9) only [↓AR,AU,↓reduceIte,Nat.reduceEqDiff,Nat.reduceLT,n6_0,n6_1,n6_2,n6_3,n6_4,n6_5,n6_6,n6_7,Ei,FV]<;>(repeat' apply A7)<;>first|rfl|exact⟨_,rfl⟩|exact⟨_,_,rfl⟩|simp [AV,Ad]
 ·obtain rfl:=Option.some.inj h
  simp (maxDischargeDepth:=9) only [↓AR,AU,↓reduceIte,Nat.reduceEqDiff,Nat.reduceLT,m0,m1,m3,m4,m6,m7,e2,Ei,Kh,KF]
def G9(labels:Int)(size:Int)(out:AO)(k:Int)(s:St):Prop:=s.v 0=D.int .i64 labels∧s.v 1=D.int .i64 size∧s.v 5=D.own 27 (AV Aw out)∧s.v 6=D.int .i64 k
def Ki(labels:Int)(size:Int)(r:AO)(ex:Ex)(s:St):Prop:=ex= .exit 0∧s.v 5=D.own 27 (AV Aw r)
theorem VP(labels:Int)(size:Int){v:AO×Int}{s:St}{r:AO}(h:MX labels size v=some r)(hM:G9 labels size v.1 v.2 s):CG Y.env zP (Ki labels size r) s:=by
 unfold MX at h;refine BD (c:=iO) (fun v=>G8 labels size v.1 v.2) (fun v s=>G9 labels size v.1 v.2 s) (Ki labels size) ?_ h hM;clear h hM s v r;intro v s o hM h;obtain⟨out,k⟩:=v;dsimp only at h hM;unfold G8 at h;unfold G9 at hM;obtain⟨m0,m1,m2,m3⟩:=hM;unfold iO;rcases iS h with⟨e1,h⟩|⟨e1,h⟩
 ·obtain⟨Ao,hl3,h⟩:=Aa h;try dsimp only at h
  simp (maxDischargeDepth:=9) only [↓AR,AU,↓reduceIte,Nat.reduceEqDiff,Nat.reduceLT,m1,m2,m3,e1];refine Ai (VO labels size out k hl3 ?_) ?_
  ·simp (maxDischargeDepth:=9) only [Bd,↓reduceIte,Nat.reduceEqDiff,m0,m1,m2,m3,Ei]<;>(repeat' apply A7)<;>first|rfl|exact⟨_,rfl⟩|exact⟨_,_,rfl⟩|simp [AV,Ad]
  ·intro ex3 s3 hX3;unfold Kh at hX3;obtain⟨rfl,n3_0,n3_1,n3_2,n3_3⟩:=hX3
   obtain rfl:=Option.some.inj h
   simp (maxDischargeDepth:=9) only [↓AR,AU,↓reduceIte,Nat.reduceEqDiff,Nat.reduceLT,n3_0,n3_1,n3_2,n3_3,G9,FV]
 ·obtain rfl:=Option.some.inj h
  simp (maxDischargeDepth:=9) only [↓AR,AU,↓reduceIte,Nat.reduceEqDiff,Nat.reduceLT,m1,m2,m3,e1,G9,Ki,KF]
theorem ND(labels:Int)(size:Int){r:AO}(h:Io labels size=some r):Y.call 47 [D.int .i64 labels,D.int .i64 size] []=some (D.own 27 (AV Aw r),[]):=by
 refine c47 ?_ rfl;unfold k47;unfold Io at h;obtain⟨Lh,hl2,h⟩:=Aa h;try dsimp only at h
 simp (maxDischargeDepth:=9) only [↓AR,AU,↓reduceIte,Nat.reduceEqDiff,Nat.reduceLT,Nat.reduceLeDiff,Nat.reduceAdd];refine Ai (VP labels size hl2 ?_) ?_
 ·simp (maxDischargeDepth:=9) only [Bd,Da,↓reduceIte,Nat.reduceEqDiff,Nat.reduceLT,G9]<;>(repeat' apply A7)<;>first|rfl|exact⟨_,rfl⟩|exact⟨_,_,rfl⟩|simp [AV,Ad]
 ·intro ex2 s2 hX2;unfold Ki at hX2;obtain⟨rfl,n2_0⟩:=hX2
  obtain rfl:=Option.some.inj h
  simp (maxDischargeDepth:=9) only [↓AR,AU,↓reduceIte,Nat.reduceEqDiff,Nat.reduceLT,n2_0]
noncomputable def GA(l:AL)(at_:AL)(out:AL)(Ij:Int):Option ((AL×Int)⊕(AL)):= if Ij<(at_.length:Int)then ck (0≤Ij∧Ij.toNat<at_.length)<| ck (0≤(at_.getD Ij.toNat default)∧(at_.getD Ij.toNat default).toNat<l.length)<| ck (out.length+1<1099511627776)<| some (Sum.inl ((out++[(l.getD ((at_.getD Ij.toNat default).toNat) default)]),IntKind.i64.wrap (Ij+1))) else some (Sum.inr out)
noncomputable def MZ(l:AL)(at_:AL)(v:AL×Int):Option (AL):=Hu (fun v=>GA l at_ v.1 v.2) v
noncomputable def Ny(l:AL)(at_:AL):Option (AL):= (MZ l at_ ([],0)).bind fun AC=> some AC
def iP:SC:= .seq (.ops [oB 11 .lss 3 (tK 10) (tK 9) 3 0]) (.seq (.cond (tK 11) .skip (.exit 0)) (.seq (.block 1 (.seq (.ops [oI 12 27 8 10,oL 13 3 12 3,oA 7 13 3]) (.ops [oM 14 5 27,oM 15 0 27,oM 16 7 3,oI 17 27 15 16,oL 18 3 17 3,oX 19 (.buildSlice 27 1 #[(0,(tK 18))]) 27,oX 20 (.call ⟨(.builtin .append), #[(tK 14),(tK 19)], #[27,27]⟩) 27,oA 5 20 27]))) (.ops [oB 21 .add 3 (tK 10) (iK 1) 3 3,oM 10 21 3])))
def zQ:SC:= .loop iP
def k92:SC:= .seq (.ops [oX 4 Ev 27]) (.seq (.ops [oX 5 Ev 27]) (.seq (.seq (.ops [oM 8 1 27,oN 9 8 27,oX 10 (.move (iK 0)) 3]) (.block 0 zQ)) (.seq (.ops [oM 22 5 27,oA 4 22 27]) .ret)))
theorem A6U:Tryz.f92.body.map (Bw lends)=some k92:=by kernel_rfl
theorem AJ8:CP Tryz.f92 2=true:=by kernel_rfl
theorem c92{a l:List D}{r:D×List D}(h:CG Y.env k92 (FX Ah l.length [ResultVar.tmp 4] r) (entry a l))(ha:a.length=2):Y.call 92 a l=some r:=
 AZ (Y:=Y) rfl Tryz.func92 (ha▸AJ8) A6U h
def GD(l:AL)(at_:AL)(out:AL)(Ij:Int)(s:St):Prop:=s.v 0=D.sl 3 (AV (D.int .i64) l)∧s.v 5=D.own 3 (AV (D.int .i64) out)∧s.v 8=D.sl 3 (AV (D.int .i64) at_)∧s.v 9=D.int .i64 (at_.length:Int)∧s.v 10=D.int .i64 Ij
def Kj(l:AL)(at_:AL)(r:AL)(ex:Ex)(s:St):Prop:=ex= .exit 0∧s.v 5=D.own 3 (AV (D.int .i64) r)
theorem VQ(l:AL)(at_:AL){v:AL×Int}{s:St}{r:AL}(h:MZ l at_ v=some r)(hM:GD l at_ v.1 v.2 s):CG Y.env zQ (Kj l at_ r) s:=by
 unfold MZ at h;refine BD (c:=iP) (fun v=>GA l at_ v.1 v.2) (fun v s=>GD l at_ v.1 v.2 s) (Kj l at_) ?_ h hM;clear h hM s v r;intro v s o hM h;obtain⟨out,Ij⟩:=v;dsimp only at h hM;unfold GA at h;unfold GD at hM;obtain⟨m0,m1,m2,m3,m4⟩:=hM;unfold iP;rcases iS h with⟨e1,h⟩|⟨e1,h⟩
 ·obtain⟨e2,e3,e4,h⟩:=XE h
  obtain rfl:=Option.some.inj h
  simp (maxDischargeDepth:=9) only [↓AR,AU,↓reduceIte,Nat.reduceEqDiff,Nat.reduceLT,Nat.reduceLeDiff,Nat.reduceAdd,m0,m1,m2,m3,m4,e1,e2.1,e2.2,e3.1,e3.2,e4,GD,FV]
 ·obtain rfl:=Option.some.inj h
  simp (maxDischargeDepth:=9) only [↓AR,AU,↓reduceIte,Nat.reduceEqDiff,Nat.reduceLT,m1,m3,m4,e1,GD,Kj,KF]
theorem WO(l:AL)(at_:AL){r:AL}(h:Ny l at_=some r):Y.call 92 [D.sl 3 (AV (D.int .i64) l),D.sl 3 (AV (D.int .i64) at_)] []=some (D.own 3 (AV (D.int .i64) r),[]):=by
 refine c92 ?_ rfl;unfold k92;unfold Ny at h;obtain⟨AC,hl2,h⟩:=Aa h;try dsimp only at h
 simp (maxDischargeDepth:=9) only [↓AR,AU,↓reduceIte,Nat.reduceEqDiff,Nat.reduceLT];refine Ai (VQ l at_ hl2 ?_) ?_
 ·simp (maxDischargeDepth:=9) only [Bd,Da,↓reduceIte,Nat.reduceEqDiff,Nat.reduceLT,GD]<;>(repeat' apply A7)<;>first|rfl|exact⟨_,rfl⟩|exact⟨_,_,rfl⟩|simp [AV,Ad]
 ·intro ex2 s2 hX2;unfold Kj at hX2;obtain⟨rfl,n2_0⟩:=hX2
  obtain rfl:=Option.some.inj h
  simp (maxDischargeDepth:=9) only [↓AR,AU,↓reduceIte,Nat.reduceEqDiff,Nat.reduceLT,n2_0]
noncomputable def VS(set_:Int)(a:Int):Option (Bool):= ck (¬a<0)<| some (decide (((set_.fdiv (2 ^ (min a.toNat (IntKind.i64.bits)))).tmod 2)=1))
def k85:SC:= .seq (.ops [oX 4 Cr 4]) (.seq (.ops [oM 5 0 3,oM 6 1 3,oB 7 .shr 3 (tK 5) (tK 6) 3 3,oB 8 .rem 3 (tK 7) (iK 2) 3 3,oB 9 .eql 3 (tK 8) (iK 1) 3 4,oA 4 9 4]) .ret)
theorem A6V:Tryz.f85.body.map (Bw lends)=some k85:=by kernel_rfl
theorem AJA:CP Tryz.f85 2=true:=by kernel_rfl
theorem c85{a l:List D}{r:D×List D}(h:CG Y.env k85 (FX Ah l.length [ResultVar.tmp 4] r) (entry a l))(ha:a.length=2):Y.call 85 a l=some r:=
 AZ (Y:=Y) rfl Tryz.func85 (ha▸AJA) A6V h
theorem iQ(set_:Int)(a:Int){r:Bool}(h:VS set_ a=some r):Y.call 85 [D.int .i64 set_,D.int .i64 a] []=some (D.bool r,[]):=by
 refine c85 ?_ rfl;unfold k85;unfold VS at h;obtain⟨e1,h⟩:=EQ h
 obtain rfl:=Option.some.inj h
 simp (maxDischargeDepth:=9) only [↓AR,AU,↓reduceIte,Nat.reduceEqDiff,Nat.reduceLT,Int.reduceEq,e1]
noncomputable def Gm(set_:Int)(out:AL)(a:Int):Option ((AL×Int)⊕(AL)):= if a<8 then (VS set_ a).bind fun af=> if af=true then ck (out.length+1<1099511627776)<| some (Sum.inl ((out++[a]),IntKind.i64.wrap (a+1))) else some (Sum.inl (out,IntKind.i64.wrap (a+1))) else some (Sum.inr out)
noncomputable def NW(set_:Int)(v:AL×Int):Option (AL):=Hu (fun v=>Gm set_ v.1 v.2) v
noncomputable def NE(set_:Int):Option (AL):= (NW set_ ([],0)).bind fun AC=> some AC
def iR:SC:= .seq (.seq (.ops [oM 5 4 3,oB 6 .lss 3 (tK 5) (iK 8) 3 4]) (.cond (tK 6) .skip (.exit 0))) (.seq (.block 1 (.seq (.ops [oM 9 0 3,oM 10 4 3,oC 11 85 [(tK 9),(tK 10)] [3,3] 4]) (.cond (tK 11) (.ops [oM 12 3 27,oM 13 4 3,oX 14 (.buildSlice 27 1 #[(0,(tK 13))]) 27,oX 15 (.call ⟨(.builtin .append), #[(tK 12),(tK 14)], #[27,27]⟩) 27,oA 3 15 27]) .skip))) (.ops [oM 7 4 3,oB 8 .add 3 (tK 7) (iK 1) 3 3,oA 4 8 3]))
def zR:SC:= .loop iR
def k56:SC:= .seq (.ops [oX 2 Ev 27]) (.seq (.ops [oX 3 Ev 27]) (.seq (.seq (.ops [oX 4 (.assign (iK 0)) 3]) (.block 0 zR)) (.seq (.ops [oM 16 3 27,oA 2 16 27]) .ret)))
theorem A6W:Tryz.f56.body.map (Bw lends)=some k56:=by kernel_rfl
theorem AJC:CP Tryz.f56 1=true:=by kernel_rfl
theorem c56{a l:List D}{r:D×List D}(h:CG Y.env k56 (FX Ah l.length [ResultVar.tmp 2] r) (entry a l))(ha:a.length=1):Y.call 56 a l=some r:=
 AZ (Y:=Y) rfl Tryz.func56 (ha▸AJC) A6W h
def FQ(set_:Int)(out:AL)(a:Int)(s:St):Prop:=s.v 0=D.int .i64 set_∧s.v 3=D.own 3 (AV (D.int .i64) out)∧s.v 4=D.int .i64 a
def Lb(set_:Int)(r:AL)(ex:Ex)(s:St):Prop:=ex= .exit 0∧s.v 3=D.own 3 (AV (D.int .i64) r)
theorem WP(set_:Int){v:AL×Int}{s:St}{r:AL}(h:NW set_ v=some r)(hM:FQ set_ v.1 v.2 s):CG Y.env zR (Lb set_ r) s:=by
 unfold NW at h;refine BD (c:=iR) (fun v=>Gm set_ v.1 v.2) (fun v s=>FQ set_ v.1 v.2 s) (Lb set_) ?_ h hM;clear h hM s v r;intro v s o hM h;obtain⟨out,a⟩:=v;dsimp only at h hM;unfold Gm at h;unfold FQ at hM;obtain⟨m0,m1,m2⟩:=hM;unfold iR;rcases iS h with⟨e1,h⟩|⟨e1,h⟩
 ·obtain⟨af,hl2,h⟩:=Aa h;have c2:=iQ set_ a hl2;rcases iS h with⟨e3,h⟩|⟨e3,h⟩
  ·obtain⟨e4,h⟩:=EQ h
   obtain rfl:=Option.some.inj h
   simp (maxDischargeDepth:=9) only [↓AR,AU,↓reduceIte,Nat.reduceEqDiff,Nat.reduceLT,Nat.reduceLeDiff,Nat.reduceAdd,m0,m1,m2,e1,c2,e3,e4,FQ,FV]
  ·have e3f:af=false:=Ju.mpr e3
   obtain rfl:=Option.some.inj h
   simp (maxDischargeDepth:=9) only [↓AR,AU,↓reduceIte,Nat.reduceEqDiff,Nat.reduceLT,Nat.reduceAdd,m0,m1,m2,e1,c2,e3f,FQ,FV]
 ·obtain rfl:=Option.some.inj h
  simp (maxDischargeDepth:=9) only [↓AR,AU,↓reduceIte,Nat.reduceEqDiff,Nat.reduceLT,m1,m2,e1,FQ,Lb,KF]
theorem RJ(set_:Int){r:AL}(h:NE set_=some r):Y.call 56 [D.int .i64 set_] []=some (D.own 3 (AV (D.int .i64) r),[]):=by
 refine c56 ?_ rfl;unfold k56;unfold NE at h;obtain⟨AC,hl2,h⟩:=Aa h;try dsimp only at h
 simp (maxDischargeDepth:=9) only [↓AR,AU,↓reduceIte,Nat.reduceEqDiff,Nat.reduceLT];refine Ai (WP set_ hl2 ?_) ?_
 ·simp (maxDischargeDepth:=9) only [Bd,Da,↓reduceIte,Nat.reduceEqDiff,Nat.reduceLT,FQ]<;>(repeat' apply A7)<;>first|rfl|exact⟨_,rfl⟩|exact⟨_,_,rfl⟩|simp [AV,Ad]
 ·intro ex2 s2 hX2;unfold Lb at hX2;obtain⟨rfl,n2_0⟩:=hX2
  obtain rfl:=Option.some.inj h
  simp (maxDischargeDepth:=9) only [↓AR,AU,↓reduceIte,Nat.reduceEqDiff,Nat.reduceLT,n2_0]
noncomputable def JM(rec_:AO→AL→AL→Option ((AL×Bool)⊕(AL×Bool)))(good:AO)(sets:AL)(chosen:AL)(OT:AL)(Ej:Int):Option ((Int)⊕((AL)⊕((AL)⊕Unit))):=
 if Ej<(OT.length:Int)then
  ck (0≤Ej∧Ej.toNat<OT.length)<|
  (NS chosen).bind fun A6X=>
  ck (A6X.length+1<1099511627776)<|
  (rec_ good sets (A6X++[(OT.getD Ej.toNat default)])).bind fun A6Y=>
  match A6Y with
  | .inl q42_=>
   if q42_.2=true then
    some (Sum.inr (Sum.inl q42_.1))
   else
    some (Sum.inl (IntKind.i64.wrap (Ej+1)))
  | .inr q42_=>
   if q42_.2=true then
    some (Sum.inr (Sum.inr (Sum.inl q42_.1)))
   else
    some (Sum.inl (IntKind.i64.wrap (Ej+1)))
 else
  some (Sum.inr (Sum.inr (Sum.inr ())))
noncomputable def NY(rec_:AO→AL→AL→Option ((AL×Bool)⊕(AL×Bool)))(good:AO)(sets:AL)(chosen:AL)(OT:AL)(v:Int):Option ((AL)⊕((AL)⊕Unit)):=Hu (fun v=>JM rec_ good sets chosen OT v) v
noncomputable def J8(rec_:AO→AL→AL→Option ((AL×Bool)⊕(AL×Bool)))(good:AO)(sets:AL)(chosen:AL):Option ((AL×Bool)⊕(AL×Bool)):=
 if(chosen.length:Int)=(sets.length:Int)then
  ck (chosen.length<1099511627776)<|
  ck (good.length<1099511627776)<|
  ck ((CY chosen).length<1099511627776)<|
  some (Sum.inl (chosen,(good.contains (CY chosen))))
 else
  ck (0≤(chosen.length:Int)∧chosen.length<sets.length)<|
  (NE (sets.getD chosen.length default)).bind fun OT=>
  (NY rec_ good sets chosen OT 0).bind fun AC=>
  match AC with
  | .inl q1000_=>
   some (Sum.inl (q1000_,true))
  | .inr (.inl q1000_)=>
   some (Sum.inr (q1000_,true))
  | .inr (.inr q1000_)=>
   some (Sum.inr ([],false))
noncomputable def DX:Nat→AO→AL→AL→Option ((AL×Bool)⊕(AL×Bool)) |0=>fun _ _ _=>none |n+1=>fun good sets chosen=>J8 (DX n) good sets chosen
noncomputable def UI(good:AO)(sets:AL)(chosen:AL):Option ((AL×Bool)⊕(AL×Bool)):=DX 1000000 good sets chosen
def iT:SC:= .seq (.ops [oB 31 .lss 3 (tK 30) (tK 29) 3 0]) (.seq (.cond (tK 31) .skip (.exit 0)) (.seq (.block 1 (.seq (.ops [oI 32 27 28 30,oL 33 3 32 3,oA 10 33 3]) (.seq (.ops [oM 35 0 22,oM 36 1 27,oM 37 2 27,oC 38 79 [(tK 37)] [27] 27,oM 39 10 3,oX 40 (.buildSlice 27 1 #[(0,(tK 39))]) 27,oX 41 (.call ⟨(.builtin .append), #[(tK 38),(tK 40)], #[27,27]⟩) 27,oC 42 91 [(tK 35),(tK 36),(tK 41)] [22,27,27] 49,oM 34 42 49,oE 43 34 0 27,oE 44 34 1 4,oA 11 43 27,oA 12 44 4]) (.seq (.ops [oM 45 12 4]) (.cond (tK 45) (.seq (.ops [oM 46 11 27,oA 6 46 27,oX 7 (.assign Kv) 4]) .ret) .skip))))) (.ops [oB 47 .add 3 (tK 30) (iK 1) 3 3,oM 30 47 3])))
def zS:SC:= .loop iT
def k91:SC:= .seq (.ops [oX 6 Ev 27,oX 7 Cr 4]) (.seq (.ops [oM 13 2 27,oN 14 13 27,oA 8 14 3]) (.seq (.seq (.ops [oM 15 8 3,oM 16 1 27,oN 17 16 27,oB 18 .eql 3 (tK 15) (tK 17) 3 4]) (.cond (tK 18) (.seq (.ops [oM 19 2 27,oM 20 0 22,oM 21 2 27,oC 22 90 [(tK 21)] [27] 27,oC 23 86 [(tK 20),(tK 22)] [22,27] 4,oA 6 19 27,oA 7 23 4]) .ret) .skip)) (.seq (.seq (.ops [oM 24 1 27,oM 25 8 3,oI 26 27 24 25,oL 27 3 26 3,oC 28 56 [(tK 27)] [3] 27,oN 29 28 27,oX 30 (.move (iK 0)) 3]) (.block 0 zS)) (.seq (.ops [oX 6 Ev 27,oX 7 Cr 4]) .ret))))
theorem A6Z:Tryz.f91.body.map (Bw lends)=some k91:=by kernel_rfl
theorem AJE:CP Tryz.f91 3=true:=by kernel_rfl
theorem c91{a l:List D}{r:D×List D}(h:CG Y.env k91 (FX Ah l.length [ResultVar.tmp 6,ResultVar.tmp 7] r) (entry a l))(ha:a.length=3):Y.call 91 a l=some r:=
 AZ (Y:=Y) rfl Tryz.func91 (ha▸AJE) A6Z h
def Cx(rec_:AO→AL→AL→Option ((AL×Bool)⊕(AL×Bool)))(good:AO)(sets:AL)(chosen:AL)(OT:AL)(Ej:Int)(s:St):Prop:=s.v 0=D.sl 27 (AV Aw good)∧s.v 1=D.sl 3 (AV (D.int .i64) sets)∧s.v 2=D.sl 3 (AV (D.int .i64) chosen)∧s.v 28=D.own 3 (AV (D.int .i64) OT)∧s.v 29=D.int .i64 (OT.length:Int)∧s.v 30=D.int .i64 Ej
def Dw(rec_:AO→AL→AL→Option ((AL×Bool)⊕(AL×Bool)))(good:AO)(sets:AL)(chosen:AL)(OT:AL)(r:(AL)⊕((AL)⊕Unit))(ex:Ex)(s:St):Prop:=match r with
 | .inl q=>ex= .ret∧s.v 6=D.sl 3 (AV (D.int .i64) q)∧s.v 7=D.bool true
 | .inr (.inl q)=>ex= .ret∧s.v 6=D.own 3 (AV (D.int .i64) q)∧s.v 7=D.bool true
 | .inr (.inr q)=>ex= .exit 0
theorem WQ(rec_:AO→AL→AL→Option ((AL×Bool)⊕(AL×Bool)))(good:AO)(sets:AL)(chosen:AL)(OT:AL)(rec_h: ∀(good:AO) (sets:AL) (chosen:AL) (r:(AL×Bool)⊕(AL×Bool)),rec_ good sets chosen=some r→Y.call 91 [D.sl 27 (AV Aw good),D.sl 3 (AV (D.int .i64) sets),D.sl 3 (AV (D.int .i64) chosen)] []=some (match (generalizing:=false) r with| .inl q=>(D.tup [D.sl 3 (AV (D.int .i64) q.1),D.bool q.2],[])| .inr q=>(D.tup [D.own 3 (AV (D.int .i64) q.1),D.bool q.2],[]))){v:Int}{s:St}{r:(AL)⊕((AL)⊕Unit)}(h:NY rec_ good sets chosen OT v=some r)(hM:Cx rec_ good sets chosen OT v s):CG Y.env zS (Dw rec_ good sets chosen OT r) s:=by
 unfold NY at h;refine BD (c:=iT) (fun v=>JM rec_ good sets chosen OT v) (fun v s=>Cx rec_ good sets chosen OT v s) (Dw rec_ good sets chosen OT) ?_ h hM;clear h hM s v r;intro Ej s o hM h;unfold JM at h;unfold Cx at hM;obtain⟨m0,m1,m2,m3,m4,m5⟩:=hM;unfold iT;rcases iS h with⟨e4,h⟩|⟨e4,h⟩
 ·obtain⟨e5,h⟩:=EQ h;obtain⟨A6X,hl6,h⟩:=Aa h;have c6:=OQ chosen hl6;obtain⟨e7,h⟩:=EQ h;obtain⟨A6Y,hl8,h⟩:=Aa h;try dsimp only at h
  have c8:=rec_h _ _ _ _ hl8;rcases A6Y with q42_|q42_
  ·dsimp only at h c8;by_cases e9:(!q42_.1.isEmpty)=true
   ·skip
    rcases iS h with⟨e10,h⟩|⟨e10,h⟩
    ·obtain rfl:=Option.some.inj h
     simp (maxDischargeDepth:=9) only [↓AR,AU,↓reduceIte,Nat.reduceEqDiff,Nat.reduceLT,Nat.reduceLeDiff,Nat.reduceAdd,m0,m1,m2,m3,m4,m5,e4,e5.1,e5.2,c6,e7,c8,e9,e10,Cx,Dw,U2]
    ·have e10f:q42_.2=false:=Ju.mpr e10
     obtain rfl:=Option.some.inj h
     simp (maxDischargeDepth:=9) only [↓AR,AU,↓reduceIte,Nat.reduceEqDiff,Nat.reduceLT,Nat.reduceLeDiff,Nat.reduceAdd,m0,m1,m2,m3,m4,m5,e4,e5.1,e5.2,c6,e7,c8,e9,e10f,Cx,FV]
   ·skip
    have e9f:(!q42_.1.isEmpty)=false:=Ju.mpr e9;rcases iS h with⟨e10,h⟩|⟨e10,h⟩
    ·obtain rfl:=Option.some.inj h
     simp (maxDischargeDepth:=9) only [↓AR,AU,↓reduceIte,Nat.reduceEqDiff,Nat.reduceLT,Nat.reduceLeDiff,Nat.reduceAdd,m0,m1,m2,m3,m4,m5,e4,e5.1,e5.2,c6,e7,c8,e9f,e10,Cx,Dw,U2]
    ·have e10f:q42_.2=false:=Ju.mpr e10
     obtain rfl:=Option.some.inj h
     simp (maxDischargeDepth:=9) only [↓AR,AU,↓reduceIte,Nat.reduceEqDiff,Nat.reduceLT,Nat.reduceLeDiff,Nat.reduceAdd,m0,m1,m2,m3,m4,m5,e4,e5.1,e5.2,c6,e7,c8,e9f,e10f,Cx,FV]
  ·dsimp only at h c8;rcases iS h with⟨e11,h⟩|⟨e11,h⟩
   ·obtain rfl:=Option.some.inj h
    simp (maxDischargeDepth:=9) only [↓AR,AU,↓reduceIte,Nat.reduceEqDiff,Nat.reduceLT,Nat.reduceLeDiff,Nat.reduceAdd,m0,m1,m2,m3,m4,m5,e4,e5.1,e5.2,c6,e7,c8,e11,Cx,Dw,U2]
   ·have e11f:q42_.2=false:=Ju.mpr e11
    obtain rfl:=Option.some.inj h
    simp (maxDischargeDepth:=9) only [↓AR,AU,↓reduceIte,Nat.reduceEqDiff,Nat.reduceLT,Nat.reduceLeDiff,Nat.reduceAdd,m0,m1,m2,m3,m4,m5,e4,e5.1,e5.2,c6,e7,c8,e11f,Cx,FV]
 ·obtain rfl:=Option.some.inj h
  simp (maxDischargeDepth:=9) only [↓AR,AU,↓reduceIte,Nat.reduceLT,m4,m5,e4,Cx,Dw,KF]
theorem VT(rec_:AO→AL→AL→Option ((AL×Bool)⊕(AL×Bool)))(good:AO)(sets:AL)(chosen:AL)(rec_h: ∀(good:AO) (sets:AL) (chosen:AL) (r:(AL×Bool)⊕(AL×Bool)),rec_ good sets chosen=some r→Y.call 91 [D.sl 27 (AV Aw good),D.sl 3 (AV (D.int .i64) sets),D.sl 3 (AV (D.int .i64) chosen)] []=some (match (generalizing:=false) r with| .inl q=>(D.tup [D.sl 3 (AV (D.int .i64) q.1),D.bool q.2],[])| .inr q=>(D.tup [D.own 3 (AV (D.int .i64) q.1),D.bool q.2],[]))){r:(AL×Bool)⊕(AL×Bool)}(h:J8 rec_ good sets chosen=some r):Y.call 91 [D.sl 27 (AV Aw good),D.sl 3 (AV (D.int .i64) sets),D.sl 3 (AV (D.int .i64) chosen)] []=some (match (generalizing:=false) r with| .inl q=>(D.tup [D.sl 3 (AV (D.int .i64) q.1),D.bool q.2],[])| .inr q=>(D.tup [D.own 3 (AV (D.int .i64) q.1),D.bool q.2],[])):=by
 refine c91 ?_ rfl;unfold k91;unfold J8 at h;rcases iS h with⟨e1,h⟩|⟨e1,h⟩
 ·obtain⟨e2,h⟩:=EQ h;have c3:=Q5 chosen e2;obtain⟨e4,e5,h⟩:=Hw h;have c6:=ZG good (CY chosen) e4 e5
  obtain rfl:=Option.some.inj h
  simp (maxDischargeDepth:=9) only [↓AR,AU,↓reduceIte,Nat.reduceEqDiff,Nat.reduceLT,Nat.reduceAdd,decide_eq_true e1,c3,c6]
 ·obtain⟨e2,h⟩:=EQ h;obtain⟨OT,hl3,h⟩:=Aa h;have c3:=RJ (sets.getD chosen.length default) hl3;obtain⟨AC,hl5,h⟩:=Aa h;try dsimp only at h
  simp (maxDischargeDepth:=9) only [↓AR,AU,↓reduceIte,Nat.reduceEqDiff,Nat.reduceLT,Nat.reduceAdd,e1,e2.1,e2.2,c3];refine Ai (WQ rec_ good sets chosen OT rec_h hl5 ?_) ?_
  ·simp (maxDischargeDepth:=9) only [Bd,Da,↓reduceIte,Nat.reduceEqDiff,Nat.reduceLT,Cx]
  ·intro ex5 s5 hX5;rcases AC with(q1000_|q1000_|q1000_)
   ·unfold Dw at hX5;dsimp only at hX5 h;obtain⟨rfl,n5_0,n5_1⟩:=hX5
    obtain rfl:=Option.some.inj h
    simp (maxDischargeDepth:=9) only [↓AR,AU,↓reduceIte,n5_0,n5_1]
   ·unfold Dw at hX5;dsimp only at hX5 h;obtain⟨rfl,n5_0,n5_1⟩:=hX5
    obtain rfl:=Option.some.inj h
    simp (maxDischargeDepth:=9) only [↓AR,AU,↓reduceIte,Nat.reduceEqDiff,n5_0,n5_1]
   ·unfold Dw at hX5;dsimp only at hX5 h
    obtain rfl:=hX5
    obtain rfl:=Option.some.inj h
    simp (maxDischargeDepth:=9) only [↓AR,AU,↓reduceIte,Nat.reduceEqDiff,Nat.reduceLT]<;>(repeat' apply A7)<;>first|rfl|exact⟨_,rfl⟩|exact⟨_,_,rfl⟩|simp [AV,Ad]
theorem VU(n:Nat): ∀(good:AO) (sets:AL) (chosen:AL) (r:(AL×Bool)⊕(AL×Bool)),DX n good sets chosen=some r→Y.call 91 [D.sl 27 (AV Aw good),D.sl 3 (AV (D.int .i64) sets),D.sl 3 (AV (D.int .i64) chosen)] []=some (match (generalizing:=false) r with| .inl q=>(D.tup [D.sl 3 (AV (D.int .i64) q.1),D.bool q.2],[])| .inr q=>(D.tup [D.own 3 (AV (D.int .i64) q.1),D.bool q.2],[])):=by
 induction n with
 |zero=>intro good sets chosen r h;exact absurd h (by rw [DX];exact fun e=>by cases e)
 |succ n ih=>intro good sets chosen r h;rw [DX]at h;exact VT (DX n) good sets chosen ih h
theorem XU(good:AO)(sets:AL)(chosen:AL){r:(AL×Bool)⊕(AL×Bool)}(h:UI good sets chosen=some r):Y.call 91 [D.sl 27 (AV Aw good),D.sl 3 (AV (D.int .i64) sets),D.sl 3 (AV (D.int .i64) chosen)] []=some (match (generalizing:=false) r with| .inl q=>(D.tup [D.sl 3 (AV (D.int .i64) q.1),D.bool q.2],[])| .inr q=>(D.tup [D.own 3 (AV (D.int .i64) q.1),D.bool q.2],[])):=VU 1000000 good sets chosen r h
noncomputable def Jb(good:AO)(sets:AL)(M7:AO)(out:AO)(FC:Int):Option ((AO×Int)⊕(AO)):=
 if FC<(M7.length:Int)then
  ck (0≤FC∧FC.toNat<M7.length)<|
  (Ny sets (M7.getD FC.toNat default)).bind fun A6a=>
  (UI good A6a []).bind fun WE=>
  match WE with
  | .inl q26_=>
   if q26_.2=true then
    ck (out.length+1<1099511627776)<|
    some (Sum.inl ((out++[(M7.getD FC.toNat default)]),IntKind.i64.wrap (FC+1)))
   else
    some (Sum.inl (out,IntKind.i64.wrap (FC+1)))
  | .inr q26_=>
   if q26_.2=true then
    ck (out.length+1<1099511627776)<|
    some (Sum.inl ((out++[(M7.getD FC.toNat default)]),IntKind.i64.wrap (FC+1)))
   else
    some (Sum.inl (out,IntKind.i64.wrap (FC+1)))
 else
  some (Sum.inr out)
noncomputable def Pp(good:AO)(sets:AL)(M7:AO)(v:AO×Int):Option (AO):=Hu (fun v=>Jb good sets M7 v.1 v.2) v
noncomputable def Qd(good:AO)(sets:AL)(size:Int):Option (AO):= (Io (sets.length:Int) size).bind fun M7=> (Pp good sets M7 ([],0)).bind fun AC=> some AC
def iU:SC:= .seq (.ops [oB 18 .lss 3 (tK 17) (tK 16) 3 0]) (.seq (.cond (tK 18) .skip (.exit 0)) (.seq (.block 1 (.seq (.ops [oI 19 22 15 17,oL 20 27 19 27,oA 9 20 27]) (.seq (.ops [oM 22 0 22,oM 23 1 27,oM 24 9 27,oC 25 92 [(tK 23),(tK 24)] [27,27] 27,oC 26 91 [(tK 22),(tK 25),(.const (.slice none 0 0))] [22,27,27] 49,oM 21 26 49,oE 27 21 0 27,oE 28 21 1 4,oA 10 27 27,oA 11 28 4]) (.seq (.ops [oM 29 11 4]) (.cond (tK 29) (.ops [oM 30 7 22,oM 31 9 27,oX 32 (.buildSlice 22 1 #[(0,(tK 31))]) 22,oX 33 (.call ⟨(.builtin .append), #[(tK 30),(tK 32)], #[22,22]⟩) 22,oA 7 33 22]) .skip))))) (.ops [oB 34 .add 3 (tK 17) (iK 1) 3 3,oM 17 34 3])))
def zT:SC:= .loop iU
def k61:SC:= .seq (.ops [oX 6 Ev 22]) (.seq (.ops [oX 7 Ev 22]) (.seq (.seq (.ops [oM 12 1 27,oN 13 12 27,oM 14 2 3,oC 15 47 [(tK 13),(tK 14)] [3,3] 22,oN 16 15 22,oX 17 (.move (iK 0)) 3]) (.block 0 zT)) (.seq (.ops [oM 35 7 22,oA 6 35 22]) .ret)))
theorem A6b:Tryz.f61.body.map (Bw lends)=some k61:=by kernel_rfl
theorem AJG:CP Tryz.f61 3=true:=by kernel_rfl
theorem c61{a l:List D}{r:D×List D}(h:CG Y.env k61 (FX Ah l.length [ResultVar.tmp 6] r) (entry a l))(ha:a.length=3):Y.call 61 a l=some r:=
 AZ (Y:=Y) rfl Tryz.func61 (ha▸AJG) A6b h
def Dr(good:AO)(sets:AL)(M7:AO)(out:AO)(FC:Int)(s:St):Prop:=s.v 0=D.sl 27 (AV Aw good)∧s.v 1=D.sl 3 (AV (D.int .i64) sets)∧s.v 7=D.own 27 (AV Aw out)∧s.v 15=D.own 27 (AV Aw M7)∧s.v 16=D.int .i64 (M7.length:Int)∧s.v 17=D.int .i64 FC
def NZ(good:AO)(sets:AL)(M7:AO)(r:AO)(ex:Ex)(s:St):Prop:=ex= .exit 0∧s.v 7=D.own 27 (AV Aw r)
theorem ZK(good:AO)(sets:AL)(M7:AO){v:AO×Int}{s:St}{r:AO}(h:Pp good sets M7 v=some r)(hM:Dr good sets M7 v.1 v.2 s):CG Y.env zT (NZ good sets M7 r) s:=by
 unfold Pp at h;refine BD (c:=iU) (fun v=>Jb good sets M7 v.1 v.2) (fun v s=>Dr good sets M7 v.1 v.2 s) (NZ good sets M7) ?_ h hM;clear h hM s v r;intro v s o hM h;obtain⟨out,FC⟩:=v;dsimp only at h hM;unfold Jb at h;unfold Dr at hM;obtain⟨m0,m1,m2,m3,m4,m5⟩:=hM;unfold iU;rcases iS h with⟨e2,h⟩|⟨e2,h⟩
 ·obtain⟨e3,h⟩:=EQ h;obtain⟨A6a,hl4,h⟩:=Aa h;have c4:=WO sets (M7.getD FC.toNat default) hl4;obtain⟨WE,hl5,h⟩:=Aa h;try dsimp only at h
  have c5:=XU good A6a [] hl5;rcases WE with q26_|q26_
  ·dsimp only at h c5;simp only [fC]at c5;by_cases e6:(!q26_.1.isEmpty)=true
   ·skip
    rcases iS h with⟨e7,h⟩|⟨e7,h⟩
    ·obtain⟨e8,h⟩:=EQ h
     obtain rfl:=Option.some.inj h
     simp (maxDischargeDepth:=9) only [↓AR,AU,↓reduceIte,Nat.reduceEqDiff,Nat.reduceLT,Nat.reduceLeDiff,Nat.reduceAdd,m0,m1,m2,m3,m4,m5,e2,e3.1,e3.2,c4,c5,e6,e7,e8,Dr,FV]
    ·have e7f:q26_.2=false:=Ju.mpr e7
     obtain rfl:=Option.some.inj h
     simp (maxDischargeDepth:=9) only [↓AR,AU,↓reduceIte,Nat.reduceEqDiff,Nat.reduceLT,Nat.reduceAdd,m0,m1,m2,m3,m4,m5,e2,e3.1,e3.2,c4,c5,e6,e7f,Dr,FV]
   ·skip
    have e6f:(!q26_.1.isEmpty)=false:=Ju.mpr e6;rcases iS h with⟨e7,h⟩|⟨e7,h⟩
    ·obtain⟨e8,h⟩:=EQ h
     obtain rfl:=Option.some.inj h
     simp (maxDischargeDepth:=9) only [↓AR,AU,↓reduceIte,Nat.reduceEqDiff,Nat.reduceLT,Nat.reduceLeDiff,Nat.reduceAdd,m0,m1,m2,m3,m4,m5,e2,e3.1,e3.2,c4,c5,e6f,e7,e8,Dr,FV]
    ·have e7f:q26_.2=false:=Ju.mpr e7
     obtain rfl:=Option.some.inj h
     simp (maxDischargeDepth:=9) only [↓AR,AU,↓reduceIte,Nat.reduceEqDiff,Nat.reduceLT,Nat.reduceAdd,m0,m1,m2,m3,m4,m5,e2,e3.1,e3.2,c4,c5,e6f,e7f,Dr,FV]
  ·dsimp only at h c5;simp only [fC]at c5;rcases iS h with⟨e8,h⟩|⟨e8,h⟩
   ·obtain⟨e9,h⟩:=EQ h
    obtain rfl:=Option.some.inj h
    simp (maxDischargeDepth:=9) only [↓AR,AU,↓reduceIte,Nat.reduceEqDiff,Nat.reduceLT,Nat.reduceLeDiff,Nat.reduceAdd,m0,m1,m2,m3,m4,m5,e2,e3.1,e3.2,c4,c5,e8,e9,Dr,FV]
   ·have e8f:q26_.2=false:=Ju.mpr e8
    obtain rfl:=Option.some.inj h
    simp (maxDischargeDepth:=9) only [↓AR,AU,↓reduceIte,Nat.reduceEqDiff,Nat.reduceLT,Nat.reduceAdd,m0,m1,m2,m3,m4,m5,e2,e3.1,e3.2,c4,c5,e8f,Dr,FV]
 ·obtain rfl:=Option.some.inj h
  simp (maxDischargeDepth:=9) only [↓AR,AU,↓reduceIte,Nat.reduceEqDiff,Nat.reduceLT,m2,m4,m5,e2,Dr,NZ,KF]
theorem Tg(good:AO)(sets:AL)(size:Int){r:AO}(h:Qd good sets size=some r):Y.call 61 [D.sl 27 (AV Aw good),D.sl 3 (AV (D.int .i64) sets),D.int .i64 size] []=some (D.own 27 (AV Aw r),[]):=by
 refine c61 ?_ rfl;unfold k61;unfold Qd at h;obtain⟨M7,hl1,h⟩:=Aa h;have c1:=ND (sets.length:Int) size hl1;obtain⟨AC,hl3,h⟩:=Aa h;try dsimp only at h
 simp (maxDischargeDepth:=9) only [↓AR,AU,↓reduceIte,Nat.reduceEqDiff,Nat.reduceLT,Nat.reduceAdd,c1];refine Ai (ZK good sets M7 hl3 ?_) ?_
 ·simp (maxDischargeDepth:=9) only [Bd,Da,↓reduceIte,Nat.reduceEqDiff,Nat.reduceLT,Dr]<;>(repeat' apply A7)<;>first|rfl|exact⟨_,rfl⟩|exact⟨_,_,rfl⟩|simp [AV,Ad]
 ·intro ex3 s3 hX3;unfold NZ at hX3;obtain⟨rfl,n3_0⟩:=hX3
  obtain rfl:=Option.some.inj h
  simp (maxDischargeDepth:=9) only [↓AR,AU,↓reduceIte,Nat.reduceEqDiff,Nat.reduceLT,n3_0]
noncomputable def Jc(A9:Int)(A8:Int)(AA:AO)(AB:AO)(EX:AO)(Eb:Bool)(ED:Int)(t9_1:AL)(JN:Int):Option ((AL×Int)⊕(AL)):=
 if JN<((EX.getD ED.toNat default).length:Int)then
  ck (0≤JN∧JN.toNat<(EX.getD ED.toNat default).length)<|
  (TD t9_1 ((EX.getD ED.toNat default).getD JN.toNat default)).bind fun R4=>
  match R4 with
  | .inl q32_=>
   some (Sum.inl (q32_,IntKind.i64.wrap (JN+1)))
  | .inr q32_=>
   some (Sum.inl (q32_,IntKind.i64.wrap (JN+1)))
 else
  some (Sum.inr t9_1)
noncomputable def Nz(A9:Int)(A8:Int)(AA:AO)(AB:AO)(EX:AO)(Eb:Bool)(ED:Int)(v:AL×Int):Option (AL):=Hu (fun v=>Jc A9 A8 AA AB EX Eb ED v.1 v.2) v
noncomputable def Jd(A9:Int)(A8:Int)(AA:AO)(AB:AO)(EX:AO)(Eb:Bool)(PM:AL)(ED:Int):Option ((AL×Int)⊕(AL)):= if ED<(EX.length:Int)then ck (0≤ED∧ED.toNat<EX.length)<| (Nz A9 A8 AA AB EX Eb ED (PM,0)).bind fun AC=> some (Sum.inl (AC,IntKind.i64.wrap (ED+1))) else some (Sum.inr PM)
noncomputable def O0(A9:Int)(A8:Int)(AA:AO)(AB:AO)(EX:AO)(Eb:Bool)(v:AL×Int):Option (AL):=Hu (fun v=>Jd A9 A8 AA AB EX Eb v.1 v.2) v
noncomputable def Hm(A9:Int)(A8:Int)(AA:AO)(AB:AO)(EX:AO)(Eb:Bool)(Ao:AL)(uz:AO)(aj:Int):Option ((AO×Int)⊕(AO)):=
 if aj<(EX.length:Int)then
  ck (0≤aj∧aj.toNat<EX.length)<|
  (Nw Ao (EX.getD aj.toNat default)).bind fun A6c=>
  (NC uz A6c).bind fun A6d=>
  match A6d with
  | .inl q55_=>
   some (Sum.inl (q55_,IntKind.i64.wrap (aj+1)))
  | .inr q55_=>
   some (Sum.inl (q55_,IntKind.i64.wrap (aj+1)))
 else
  some (Sum.inr uz)
noncomputable def O1(A9:Int)(A8:Int)(AA:AO)(AB:AO)(EX:AO)(Eb:Bool)(Ao:AL)(v:AO×Int):Option (AO):=Hu (fun v=>Hm A9 A8 AA AB EX Eb Ao v.1 v.2) v
noncomputable def Qe(A9:Int)(A8:Int)(AA:AO)(AB:AO)(EX:AO)(Eb:Bool):Option ((Int×Int×AO×AO×AL×Bool)⊕((Int×Int×AO×AO×AL×Bool)⊕(Int×Int×AO×AO×AL×Bool))):= (O0 A9 A8 AA AB EX Eb ([],0)).bind fun Ao=> if(PL (Ao.length:Int) (1:Int) (8:Int))=true then (O1 A9 A8 AA AB EX Eb Ao ([],0)).bind fun Lh=> if Eb=true then (Qd AA Ao A8).bind fun zU=> some (Sum.inl ((Ao.length:Int),A8,zU,Lh,Ao,true)) else (Qd AB Ao (2:Int)).bind fun AD9=> some (Sum.inr (Sum.inl ((Ao.length:Int),A8,Lh,AD9,Ao,true))) else some (Sum.inr (Sum.inr (0,0,[],[],[],false)))
def iV:SC:= .seq (.ops [oB 27 .lss 3 (tK 26) (tK 25) 3 0]) (.seq (.cond (tK 27) .skip (.exit 2)) (.seq (.block 3 (.seq (.ops [oI 28 27 24 26,oL 29 3 28 3,oA 13 29 3]) (.ops [oM 30 9 27,oM 31 13 3,oC 32 58 [(tK 30),(tK 31)] [27,3] 27,oA 9 32 900003]))) (.ops [oB 33 .add 3 (tK 26) (iK 1) 3 3,oM 26 33 3])))
def zV:SC:= .loop iV
def iW:SC:= .seq (.ops [oB 21 .lss 3 (tK 20) (tK 19) 3 0]) (.seq (.cond (tK 21) .skip (.exit 0)) (.seq (.block 1 (.seq (.ops [oI 22 22 18 20,oL 23 27 22 27,oA 11 23 27]) (.seq (.ops [oM 24 11 27,oN 25 24 27,oX 26 (.move (iK 0)) 3]) (.block 2 zV)))) (.ops [oB 34 .add 3 (tK 20) (iK 1) 3 3,oM 20 34 3])))
def zW:SC:= .loop iW
def iX:SC:= .seq (.ops [oB 48 .lss 3 (tK 47) (tK 46) 3 0]) (.seq (.cond (tK 48) .skip (.exit 4)) (.seq (.block 5 (.seq (.ops [oI 49 22 45 47,oL 50 27 49 27,oA 17 50 27]) (.ops [oM 51 15 22,oM 52 9 27,oM 53 17 27,oC 54 60 [(tK 52),(tK 53)] [27,27] 27,oC 55 59 [(tK 51),(tK 54)] [22,27] 22,oA 15 55 900003]))) (.ops [oB 56 .add 3 (tK 47) (iK 1) 3 3,oM 47 56 3])))
def zX:SC:= .loop iX
def k36:SC:= .seq (.ops [oX 3 (.box 26 (tK 0)) 0,oX 6 (.alloc 26) 0,oX 7 Ev 27,oX 8 Cr 4]) (.seq (.ops [oX 9 Ev 1000027]) (.seq (.seq (.ops [oM 18 1 22,oN 19 18 22,oX 20 (.move (iK 0)) 3]) (.block 0 zW)) (.seq (.seq (.ops [oM 35 9 27,oN 36 35 27,oC 37 33 [(tK 36),(iK 1),(iK 8)] [3,3,3] 4,oX 38 (.unOp .not 4 (tK 37)) 4]) (.cond (tK 38) (.seq (.ops [oX 39 (.build 26 #[]) 26,oS 26 6 39,oX 7 Ev 27,oX 8 Cr 4]) .ret) .skip)) (.seq (.ops [oM 40 9 27,oN 41 40 27,oF 42 26 3 1,oL 43 3 42 3,oX 44 (.build 26 #[(0,(tK 41)),(1,(tK 43))]) 26,oX 14 (.alloc 26) 0,oS 26 14 44]) (.seq (.ops [oX 15 Ev 1000022]) (.seq (.seq (.ops [oM 45 1 22,oN 46 45 22,oX 47 (.move (iK 0)) 3]) (.block 4 zX)) (.seq (.seq (.ops [oM 57 2 4]) (.cond (tK 57) (.seq (.ops [oM 58 15 22,oF 59 26 14 3,oS 22 59 58]) (.ops [oF 60 26 3 2,oL 61 22 60 22,oM 62 9 27,oF 63 26 3 1,oL 64 3 63 3,oC 65 61 [(tK 61),(tK 62),(tK 64)] [22,27,3] 22,oF 66 26 14 2,oS 22 66 65])) (.seq (.ops [oM 67 15 22,oF 68 26 14 2,oS 22 68 67]) (.ops [oF 69 26 3 3,oL 70 22 69 22,oM 71 9 27,oC 72 61 [(tK 70),(tK 71),(iK 2)] [22,27,3] 22,oF 73 26 14 3,oS 22 73 72])))) (.seq (.ops [oL 74 26 14 26,oM 75 9 27,oS 26 6 74,
 oA 7 75 27,oX 8 (.assign Kv) 4]) .ret))))))))
theorem A6e:Tryz.f36.body.map (Bw lends)=some k36:=by kernel_rfl
theorem AJI:CP Tryz.f36 3=true:=by kernel_rfl
theorem c36{a l:List D}{r:D×List D}(h:CG Y.env k36 (FX Ah l.length [ResultVar.cell 6 26,ResultVar.tmp 7,ResultVar.tmp 8] r) (entry a l))(ha:a.length=3):Y.call 36 a l=some r:=
 AZ (Y:=Y) rfl Tryz.func36 (ha▸AJI) A6e h
def Ho(A9:Int)(A8:Int)(AA:AO)(AB:AO)(EX:AO)(Eb:Bool)(ED:Int)(t9_1:AL)(JN:Int)(s:St):Prop:=s.v 1=D.sl 27 (AV Aw EX)∧s.v 2=D.bool Eb∧s.v 3=D.box [D.int .i64 A9,D.int .i64 A8,D.sl 27 (AV Aw AA),D.sl 27 (AV Aw AB)]∧s.v 6=D.box [D.int .i64 0,D.int .i64 0,D.own 27 [],D.own 27 []]∧s.v 9=D.sl 3 (AV (D.int .i64) t9_1)∧s.v 18=D.sl 27 (AV Aw EX)∧s.v 19=D.int .i64 (EX.length:Int)∧s.v 20=D.int .i64 ED∧s.v 24=D.sl 3 (AV (D.int .i64) (EX.getD ED.toNat default))∧s.v 25=D.int .i64 ((EX.getD ED.toNat default).length:Int)∧s.v 26=D.int .i64 JN
def Na(A9:Int)(A8:Int)(AA:AO)(AB:AO)(EX:AO)(Eb:Bool)(ED:Int)(r:AL)(ex:Ex)(s:St):Prop:=ex= .exit 2∧s.v 1=D.sl 27 (AV Aw EX)∧s.v 2=D.bool Eb∧s.v 3=D.box [D.int .i64 A9,D.int .i64 A8,D.sl 27 (AV Aw AA),D.sl 27 (AV Aw AB)]∧s.v 6=D.box [D.int .i64 0,D.int .i64 0,D.own 27 [],D.own 27 []]∧s.v 9=D.sl 3 (AV (D.int .i64) r)∧s.v 18=D.sl 27 (AV Aw EX)∧s.v 19=D.int .i64 (EX.length:Int)∧s.v 20=D.int .i64 ED
theorem ZL(A9:Int)(A8:Int)(AA:AO)(AB:AO)(EX:AO)(Eb:Bool)(ED:Int){v:AL×Int}{s:St}{r:AL}(h:Nz A9 A8 AA AB EX Eb ED v=some r)(hM:Ho A9 A8 AA AB EX Eb ED v.1 v.2 s):CG Y.env zV (Na A9 A8 AA AB EX Eb ED r) s:=by
 unfold Nz at h;refine BD (c:=iV) (fun v=>Jc A9 A8 AA AB EX Eb ED v.1 v.2) (fun v s=>Ho A9 A8 AA AB EX Eb ED v.1 v.2 s) (Na A9 A8 AA AB EX Eb ED) ?_ h hM;clear h hM s v r;intro v s o hM h;obtain⟨t9_1,JN⟩:=v;dsimp only at h hM;unfold Jc at h;unfold Ho at hM;obtain⟨m0,m1,m2,m3,m4,m5,m6,m7,m8,m9,m10⟩:=hM;unfold iV;rcases iS h with⟨e3,h⟩|⟨e3,h⟩
 ·obtain⟨e4,h⟩:=EQ h;obtain⟨R4,hl5,h⟩:=Aa h;try dsimp only at h
  have c5:=iG t9_1 ((EX.getD ED.toNat default).getD JN.toNat default) hl5;rcases R4 with q32_|q32_
  ·dsimp only at h c5
   obtain rfl:=Option.some.inj h
   simp (maxDischargeDepth:=9) only [↓AR,AU,↓reduceIte,Nat.reduceEqDiff,Nat.reduceLT,Nat.reduceAdd,m0,m1,m2,m3,m4,m5,m6,m7,m8,m9,m10,e3,e4.1,e4.2,c5,Ho,FV]
  ·dsimp only at h c5
   obtain rfl:=Option.some.inj h
   simp (maxDischargeDepth:=9) only [↓AR,AU,↓reduceIte,Nat.reduceEqDiff,Nat.reduceLT,Nat.reduceAdd,m0,m1,m2,m3,m4,m5,m6,m7,m8,m9,m10,e3,e4.1,e4.2,c5,Ho,FV]
 ·obtain rfl:=Option.some.inj h
  simp (maxDischargeDepth:=9) only [↓AR,AU,↓reduceIte,Nat.reduceEqDiff,Nat.reduceLT,m0,m1,m2,m3,m4,m5,m6,m7,m9,m10,e3,Ho,Na,KF]
def Je(A9:Int)(A8:Int)(AA:AO)(AB:AO)(EX:AO)(Eb:Bool)(PM:AL)(ED:Int)(s:St):Prop:=s.v 1=D.sl 27 (AV Aw EX)∧s.v 2=D.bool Eb∧s.v 3=D.box [D.int .i64 A9,D.int .i64 A8,D.sl 27 (AV Aw AA),D.sl 27 (AV Aw AB)]∧s.v 6=D.box [D.int .i64 0,D.int .i64 0,D.own 27 [],D.own 27 []]∧s.v 9=D.sl 3 (AV (D.int .i64) PM)∧s.v 18=D.sl 27 (AV Aw EX)∧s.v 19=D.int .i64 (EX.length:Int)∧s.v 20=D.int .i64 ED
def Nb(A9:Int)(A8:Int)(AA:AO)(AB:AO)(EX:AO)(Eb:Bool)(r:AL)(ex:Ex)(s:St):Prop:=ex= .exit 0∧s.v 1=D.sl 27 (AV Aw EX)∧s.v 2=D.bool Eb∧s.v 3=D.box [D.int .i64 A9,D.int .i64 A8,D.sl 27 (AV Aw AA),D.sl 27 (AV Aw AB)]∧s.v 6=D.box [D.int .i64 0,D.int .i64 0,D.own 27 [],D.own 27 []]∧s.v 9=D.sl 3 (AV (D.int .i64) r)
theorem ZM(A9:Int)(A8:Int)(AA:AO)(AB:AO)(EX:AO)(Eb:Bool){v:AL×Int}{s:St}{r:AL}(h:O0 A9 A8 AA AB EX Eb v=some r)(hM:Je A9 A8 AA AB EX Eb v.1 v.2 s):CG Y.env zW (Nb A9 A8 AA AB EX Eb r) s:=by
 unfold O0 at h;refine BD (c:=iW) (fun v=>Jd A9 A8 AA AB EX Eb v.1 v.2) (fun v s=>Je A9 A8 AA AB EX Eb v.1 v.2 s) (Nb A9 A8 AA AB EX Eb) ?_ h hM;clear h hM s v r;intro v s o hM h;obtain⟨PM,ED⟩:=v;dsimp only at h hM;unfold Jd at h;unfold Je at hM;obtain⟨m0,m1,m2,m3,m4,m5,m6,m7⟩:=hM;unfold iW;rcases iS h with⟨e1,h⟩|⟨e1,h⟩
 ·obtain⟨e2,h⟩:=EQ h;obtain⟨AC,hl4,h⟩:=Aa h;try dsimp only at h
  simp (maxDischargeDepth:=9) only [↓AR,AU,↓reduceIte,Nat.reduceEqDiff,Nat.reduceLT,m5,m6,m7,e1,e2.1,e2.2];refine Ai (ZL A9 A8 AA AB EX Eb ED hl4 ?_) ?_
  ·simp (maxDischargeDepth:=9) only [Bd,↓reduceIte,Nat.reduceEqDiff,m0,m1,m2,m3,m4,m5,m6,m7,Ho]
  ·intro ex4 s4 hX4;unfold Na at hX4;obtain⟨rfl,n4_0,n4_1,n4_2,n4_3,n4_4,n4_5,n4_6,n4_7⟩:=hX4
   obtain rfl:=Option.some.inj h
   simp (maxDischargeDepth:=9) only [↓AR,AU,↓reduceIte,Nat.reduceEqDiff,Nat.reduceLT,n4_0,n4_1,n4_2,n4_3,n4_4,n4_5,n4_6,n4_7,Je,FV]
 ·obtain rfl:=Option.some.inj h
  simp (maxDischargeDepth:=9) only [↓AR,AU,↓reduceIte,Nat.reduceEqDiff,Nat.reduceLT,m0,m1,m2,m3,m4,m6,m7,e1,Je,Nb,KF]
def Ey(A9:Int)(A8:Int)(AA:AO)(AB:AO)(EX:AO)(Eb:Bool)(Ao:AL)(uz:AO)(aj:Int)(s:St):Prop:=s.v 2=D.bool Eb∧s.v 3=D.box [D.int .i64 A9,D.int .i64 A8,D.sl 27 (AV Aw AA),D.sl 27 (AV Aw AB)]∧s.v 6=D.box [D.int .i64 0,D.int .i64 0,D.own 27 [],D.own 27 []]∧s.v 9=D.sl 3 (AV (D.int .i64) Ao)∧s.v 14=D.box [D.int .i64 (Ao.length:Int),D.int .i64 A8,D.own 27 [],D.own 27 []]∧s.v 15=D.sl 27 (AV Aw uz)∧s.v 45=D.sl 27 (AV Aw EX)∧s.v 46=D.int .i64 (EX.length:Int)∧s.v 47=D.int .i64 aj
def Nc(A9:Int)(A8:Int)(AA:AO)(AB:AO)(EX:AO)(Eb:Bool)(Ao:AL)(r:AO)(ex:Ex)(s:St):Prop:=ex= .exit 4∧s.v 2=D.bool Eb∧s.v 3=D.box [D.int .i64 A9,D.int .i64 A8,D.sl 27 (AV Aw AA),D.sl 27 (AV Aw AB)]∧s.v 6=D.box [D.int .i64 0,D.int .i64 0,D.own 27 [],D.own 27 []]∧s.v 9=D.sl 3 (AV (D.int .i64) Ao)∧s.v 14=D.box [D.int .i64 (Ao.length:Int),D.int .i64 A8,D.own 27 [],D.own 27 []]∧s.v 15=D.sl 27 (AV Aw r)
theorem ZN(A9:Int)(A8:Int)(AA:AO)(AB:AO)(EX:AO)(Eb:Bool)(Ao:AL){v:AO×Int}{s:St}{r:AO}(h:O1 A9 A8 AA AB EX Eb Ao v=some r)(hM:Ey A9 A8 AA AB EX Eb Ao v.1 v.2 s):CG Y.env zX (Nc A9 A8 AA AB EX Eb Ao r) s:=by
 unfold O1 at h;refine BD (c:=iX) (fun v=>Hm A9 A8 AA AB EX Eb Ao v.1 v.2) (fun v s=>Ey A9 A8 AA AB EX Eb Ao v.1 v.2 s) (Nc A9 A8 AA AB EX Eb Ao) ?_ h hM;clear h hM s v r;intro v s o hM h;obtain⟨uz,aj⟩:=v;dsimp only at h hM;unfold Hm at h;unfold Ey at hM;obtain⟨m0,m1,m2,m3,m4,m5,m6,m7,m8⟩:=hM;unfold iX;rcases iS h with⟨e5,h⟩|⟨e5,h⟩
 ·obtain⟨e6,h⟩:=EQ h;obtain⟨A6c,hl7,h⟩:=Aa h;have c7:=WM Ao (EX.getD aj.toNat default) hl7;obtain⟨A6d,hl8,h⟩:=Aa h;try dsimp only at h
  have c8:=XT uz A6c hl8;rcases A6d with q55_|q55_
  ·dsimp only at h c8;by_cases e9:(!q55_.isEmpty)=true
   ·skip
    obtain rfl:=Option.some.inj h
    simp (maxDischargeDepth:=9) only [↓AR,AU,↓reduceIte,Nat.reduceEqDiff,Nat.reduceLT,Nat.reduceAdd,m0,m1,m2,m3,m4,m5,m6,m7,m8,e5,e6.1,e6.2,c7,c8,e9,Ey,FV]
   ·skip
    have e9f:(!q55_.isEmpty)=false:=Ju.mpr e9
    obtain rfl:=Option.some.inj h
    simp (maxDischargeDepth:=9) only [↓AR,AU,↓reduceIte,Nat.reduceEqDiff,Nat.reduceLT,Nat.reduceAdd,m0,m1,m2,m3,m4,m5,m6,m7,m8,e5,e6.1,e6.2,c7,c8,e9f,Ey,FV]
  ·dsimp only at h c8;by_cases e10:(q55_.any fun x=>(!x.isEmpty))=true
   ·skip
    obtain rfl:=Option.some.inj h
    simp (maxDischargeDepth:=9) only [↓AR,AU,↓reduceIte,Nat.reduceEqDiff,Nat.reduceLT,Nat.reduceAdd,m0,m1,m2,m3,m4,m5,m6,m7,m8,e5,e6.1,e6.2,c7,c8,e10,Ey,FV]
   ·skip
    have e10f:(q55_.any fun x=>(!x.isEmpty))=false:=Ju.mpr e10
    obtain rfl:=Option.some.inj h
    simp (maxDischargeDepth:=9) only [↓AR,AU,↓reduceIte,Nat.reduceEqDiff,Nat.reduceLT,Nat.reduceAdd,m0,m1,m2,m3,m4,m5,m6,m7,m8,e5,e6.1,e6.2,c7,c8,e10f,Ey,FV]
 ·obtain rfl:=Option.some.inj h
  simp (maxDischargeDepth:=9) only [↓AR,AU,↓reduceIte,Nat.reduceEqDiff,Nat.reduceLT,m0,m1,m2,m3,m4,m5,m7,m8,e5,Ey,Nc,KF]
theorem Ti(A9:Int)(A8:Int)(AA:AO)(AB:AO)(EX:AO)(Eb:Bool){r:(Int×Int×AO×AO×AL×Bool)⊕((Int×Int×AO×AO×AL×Bool)⊕(Int×Int×AO×AO×AL×Bool))}(h:Qe A9 A8 AA AB EX Eb=some r):Y.call 36 [D.agg [D.int .i64 A9,D.int .i64 A8,D.sl 27 (AV Aw AA),D.sl 27 (AV Aw AB)],D.sl 27 (AV Aw EX),D.bool Eb] []=some (match (generalizing:=false) r with| .inl q=>(D.tup [D.agg [D.int .i64 q.1,D.int .i64 q.2.1,D.own 27 (AV Aw q.2.2.1),D.sl 27 (AV Aw q.2.2.2.1)],D.sl 3 (AV (D.int .i64) q.2.2.2.2.1),D.bool q.2.2.2.2.2],[])| .inr (.inl q)=>(D.tup [D.agg [D.int .i64 q.1,D.int .i64 q.2.1,D.sl 27 (AV Aw q.2.2.1),D.own 27 (AV Aw q.2.2.2.1)],D.sl 3 (AV (D.int .i64) q.2.2.2.2.1),D.bool q.2.2.2.2.2],[])| .inr (.inr q)=>(D.tup [D.agg [D.int .i64 q.1,D.int .i64 q.2.1,D.own 27 (AV KQ q.2.2.1),D.own 27 (AV KQ q.2.2.2.1)],D.own 3 (AV (D.int .i64) q.2.2.2.2.1),D.bool q.2.2.2.2.2],[])):=by
 refine c36 ?_ rfl;unfold k36;unfold Qe at h;obtain⟨Ao,hl2,h⟩:=Aa h;try dsimp only at h
 simp (maxDischargeDepth:=9) only [↓AR,AU,↓reduceIte,Nat.reduceEqDiff,Nat.reduceLT,Nat.reduceSub];refine Ai (ZM A9 A8 AA AB EX Eb hl2 ?_) ?_
 ·simp (maxDischargeDepth:=9) only [Bd,Da,↓reduceIte,Nat.reduceEqDiff,Nat.reduceLT,Je]<;>(repeat' apply A7)<;>first|rfl|exact⟨_,rfl⟩|exact⟨_,_,rfl⟩|simp [AV,Ad]
 ·intro ex2 s2 hX2;unfold Nb at hX2;obtain⟨rfl,n2_0,n2_1,n2_2,n2_3,n2_4⟩:=hX2;have c3:=Sz (Ao.length:Int) (1:Int) (8:Int);rcases iS h with⟨e4,h⟩|⟨e4,h⟩
  ·obtain⟨Lh,hl6,h⟩:=Aa h;try dsimp only at h
   simp (maxDischargeDepth:=9) only [↓AR,AU,↓reduceIte,Nat.reduceEqDiff,Nat.reduceLT,Nat.reduceLeDiff,Nat.reduceAdd,Nat.reduceSub,n2_0,n2_2,n2_4,c3,e4];refine Ai (ZN A9 A8 AA AB EX Eb Ao hl6 ?_) ?_
   ·simp (maxDischargeDepth:=9) only [Bd,↓reduceIte,Nat.reduceEqDiff,n2_1,n2_2,n2_3,n2_4,Ey]<;>(repeat' apply A7)<;>first|rfl|exact⟨_,rfl⟩|exact⟨_,_,rfl⟩|simp [AV,Ad]
   ·intro ex6 s6 hX6;unfold Nc at hX6;obtain⟨rfl,n6_0,n6_1,n6_2,n6_3,n6_4,n6_5⟩:=hX6;rcases iS h with⟨e7,h⟩|⟨e7,h⟩
    ·obtain⟨zU,hl8,h⟩:=Aa h;try dsimp only at h
     have c8:=Tg AA Ao A8 hl8
     obtain rfl:=Option.some.inj h
     simp (maxDischargeDepth:=9) only [↓AR,AU,↓reduceIte,Nat.reduceEqDiff,Nat.reduceLT,Nat.reduceAdd,n6_0,n6_1,n6_2,n6_3,n6_4,n6_5,e7,c8]
    ·have e7f:Eb=false:=Ju.mpr e7;obtain⟨AD9,hl8,h⟩:=Aa h;try dsimp only at h
     have c8:=Tg AB Ao (2:Int) hl8
     obtain rfl:=Option.some.inj h
     simp (maxDischargeDepth:=9) only [↓AR,AU,↓reduceIte,Nat.reduceEqDiff,Nat.reduceLT,Nat.reduceAdd,n6_0,n6_1,n6_2,n6_3,n6_4,n6_5,e7f,c8]
  ·have e4f:(PL (Ao.length:Int) (1:Int) (8:Int))=false:=Ju.mpr e4
   obtain rfl:=Option.some.inj h
   simp (maxDischargeDepth:=9) only [↓AR,AU,↓reduceIte,Nat.reduceEqDiff,Nat.reduceLT,Nat.reduceAdd,n2_3,n2_4,c3,e4f]<;>(repeat' apply A7)<;>first|rfl|exact⟨_,rfl⟩|exact⟨_,_,rfl⟩|simp [AV,Ad]
end Go.Proofs.YtjhjkfoabhplfaaGreat
