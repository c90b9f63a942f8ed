/- Networks copied, compared, measured; when lists are a network, as plain functions. Conditions: the lists are short. -/
import Derived.Test.YtiehjihckndgkaaGreatL6
import Derived.Test.YtiehjihckndgkaaGreatHas
import Derived.Test.YtiehjihckndgkaaGreatCon
namespace Go.Proofs.YtiehjihckndgkaaGreat
open Go Dv
set_option linter.unusedSimpArgs false
set_option linter.unusedVariables false
set_option maxRecDepth 100000
set_option maxHeartbeats 4000000
def EX(l:List (List (Int×Int))):Prop:=l.length<1099511627776∧ ∀x∈l,x.length<549755813888
instance (l:List (List (Int×Int))):Decidable (EX l):=by unfold EX;infer_instance
theorem EX.at{l:List (List (Int×Int))}(h:EX l)(i:Nat)(hi:i<l.length):l[i].length<549755813888:=h.2 _ (Nh hi)
theorem EX.getD{l:List (List (Int×Int))}(h:EX l)(i:Nat):(l.getD i default).length<549755813888:=by
 by_cases hi:i<l.length
 ·rw [Ao _ _ hi];exact h.at i hi
 ·rw [Le,eu (by omega)];decide
theorem AHu{a:List (Int×Int)}{i:Nat}(h:i<a.length):(BP a i,Ck a i)=a[i]:=by
 unfold BP Ck;rw [Ao _ _ h]
noncomputable def Z4(a_Node:Int)(a_Port:Int):Option (Int×Int):= some (a_Node,a_Port)
def k96:SC:= .seq (.ops [oX 1 (.box 111 (tK 0)) 0,oX 2 (.alloc 87) 0]) (.seq (.ops [oX 3 (.alloc 87) 0]) (.seq (.ops [oF 4 111 1 0,oL 5 3 4 3,oF 6 87 3 0,oS 3 6 5]) (.seq (.ops [oF 7 111 1 1,oL 8 3 7 3,oF 9 87 3 1,oS 3 9 8]) (.seq (.ops [oL 10 87 3 87,oS 87 2 10]) .ret))))
theorem AAK:Tryz.f96.body.map (BX lends)=some k96:=by kernel_rfl
theorem ANP:Bj Tryz.f96 1=true:=by kernel_rfl
theorem c96{a l:List D}{r:D×List D}(h:Br Y.env k96 (fin Ap l.length [ResultVar.cell 2 87] r) (entry a l))(ha:a.length=1):Y.call 96 a l=some r:=
 AZ (Y:=Y) rfl Tryz.func96 (ha▸ANP) AAK h
theorem lZ(a_Node:Int)(a_Port:Int){r:Int×Int}(h:Z4 a_Node a_Port=some r):Y.call 96 [D.agg [D.int .i64 a_Node,D.int .i64 a_Port]] []=some (D.agg [D.int .i64 r.1,D.int .i64 r.2],[]):=by
 refine c96 ?_ rfl;unfold k96;unfold Z4 at h
 obtain rfl:=Option.some.inj h
 simp (maxDischargeDepth:=9) only [↓AL,AO,↓reduceIte,Nat.reduceEqDiff,Nat.reduceLT,Nat.reduceAdd]
noncomputable def Ja(a:List (Int×Int))(out:List (Int×Int))(i:Int):Option (((List (Int×Int))×Int)⊕((List (Int×Int)))):= if i<(a.length:Int)then ck (0≤i∧i.toNat<a.length)<| (Z4 (BP a i.toNat) (Ck a i.toNat)).bind fun vP=> ck (0≤i∧i.toNat<out.length)<| some (Sum.inl ((out.set i.toNat (vP.1,vP.2)),IntKind.i64.wrap (i+1))) else some (Sum.inr out)
noncomputable def QK(a:List (Int×Int))(v:(List (Int×Int))×Int):Option ((List (Int×Int))):=Fb (fun v=>Ja a v.1 v.2) v
noncomputable def W9(a:List (Int×Int)):Option ((List (Int×Int))):= ck (0≤(a.length:Int)∧(a.length:Int)<1099511627776)<| (QK a ((List.replicate a.length (0,0)),0)).bind fun Aa=> some Aa
def lg:SC:= .seq (.seq (.ops [oM 8 4 3,oM 9 0 78,oN 10 9 78,oB 11 .lss 3 (tK 8) (tK 10) 3 4]) (.cond (tK 11) .skip (.exit 0))) (.seq (.block 1 (.ops [oM 14 3 79,oM 15 4 3,oM 16 0 78,oM 17 4 3,oI 18 78 16 17,oL 19 111 18 111,oC 20 96 [(tK 19)] [111] 87,oI 21 79 14 15,oS 87 21 20])) (.ops [oM 12 4 3,oB 13 .add 3 (tK 12) (iK 1) 3 3,oA 4 13 3]))
def A23:SC:= .loop lg
def k63:SC:= .seq (.ops [oX 2 KL 79]) (.seq (.ops [oM 5 0 78,oN 6 5 78,oX 7 (.makeSlice 79 (tK 6) (tK 6)) 79,oA 3 7 79]) (.seq (.seq (.ops [oX 4 (.assign (iK 0)) 3]) (.block 0 A23)) (.seq (.ops [oM 22 3 79,oA 2 22 79]) .ret)))
theorem AAL:Tryz.f63.body.map (BX lends)=some k63:=by kernel_rfl
theorem ANR:Bj Tryz.f63 1=true:=by kernel_rfl
theorem c63{a l:List D}{r:D×List D}(h:Br Y.env k63 (fin Ap l.length [ResultVar.tmp 2] r) (entry a l))(ha:a.length=1):Y.call 63 a l=some r:=
 AZ (Y:=Y) rfl Tryz.func63 (ha▸ANR) AAL h
def Jb(a:List (Int×Int))(out:List (Int×Int))(i:Int)(s:St):Prop:=s.v 0=D.sl 111 (Au .i64 .i64 a)∧s.v 3=D.own 87 (Au .i64 .i64 out)∧s.v 4=D.int .i64 i
def NQ(a:List (Int×Int))(r:(List (Int×Int)))(ex:Ex)(s:St):Prop:=ex= .exit 0∧s.v 3=D.own 87 (Au .i64 .i64 r)
theorem bD(a:List (Int×Int)){v:(List (Int×Int))×Int}{s:St}{r:(List (Int×Int))}(h:QK a v=some r)(hM:Jb a v.1 v.2 s):Br Y.env A23 (NQ a r) s:=by
 unfold QK at h;refine BH (c:=lg) (fun v=>Ja a v.1 v.2) (fun v s=>Jb a v.1 v.2 s) (NQ a) ?_ h hM;clear h hM s v r;intro v s o hM h;obtain⟨out,i⟩:=v;dsimp only at h hM;unfold Ja at h;unfold Jb at hM;obtain⟨m0,m1,m2⟩:=hM;unfold lg;rcases iS h with⟨e2,h⟩|⟨e2,h⟩
 ·obtain⟨e3,h⟩:=ES h;obtain⟨vP,hl4,h⟩:=Ak h;have c4:=lZ (BP a i.toNat) (Ck a i.toNat) hl4;obtain⟨e5,h⟩:=ES h
  obtain rfl:=Option.some.inj h
  simp (maxDischargeDepth:=9) only [↓AL,AO,↓reduceIte,Nat.reduceEqDiff,Nat.reduceLT,Nat.reduceAdd,m0,m1,m2,e2,e3.1,e3.2,c4,e5.2,Jb,En]
 ·obtain rfl:=Option.some.inj h
  simp (maxDischargeDepth:=9) only [↓AL,AO,↓reduceIte,Nat.reduceEqDiff,Nat.reduceLT,m0,m1,m2,e2,Jb,NQ,K3]
theorem gV(a:List (Int×Int)){r:(List (Int×Int))}(h:W9 a=some r):Y.call 63 [D.sl 111 (Au .i64 .i64 a)] []=some (D.own 87 (Au .i64 .i64 r),[]):=by
 refine c63 ?_ rfl;unfold k63;unfold W9 at h;obtain⟨e1,h⟩:=ES h;obtain⟨Aa,hl3,h⟩:=Ak h;try dsimp only at h
 simp (maxDischargeDepth:=9) only [↓AL,AO,↓reduceIte,Nat.reduceEqDiff,Nat.reduceLT,Nat.reduceLeDiff,e1.1,e1.2];refine Aw (bD a hl3 ?_) ?_
 ·simp (maxDischargeDepth:=9) only [BZ,Ei,↓reduceIte,Nat.reduceEqDiff,Nat.reduceLT,Jb]
 ·intro ex3 s3 hX3;unfold NQ at hX3;obtain⟨rfl,n3_0⟩:=hX3
  obtain rfl:=Option.some.inj h
  simp (maxDischargeDepth:=9) only [↓AL,AO,↓reduceIte,Nat.reduceEqDiff,Nat.reduceLT,n3_0]
theorem rH(a:List (Int×Int))(h:a.length<549755813888):W9 a=some a:=by
 have key:=Cf (fun v=>Ja a v.1 v.2) (fun i=>(a.take i++List.replicate (a.length-i) (0,0),(i:Int))) a.length a ?_ ?_
 ·unfold W9 QK;rw [BL (by omega)]
  simp only [ZB,Ue,Nat.sub_zero,Gn]at key;rw [key];rfl
 ·intro i hi;simp only [Ja,Z4,EC];rw [if_pos (CL hi),BL (by omega),Cz,BL (by simp;omega),AHu hi,Yx a i hi (0,0),K4 i (by omega)]
 ·simp only [Ja];rw [if_neg (Az _)];simp
theorem rJ(a:List (Int×Int))(h0:a.length<549755813888):Y.call 63 [D.sl 111 (Au .i64 .i64 a)] []=some (D.own 87 (Au .i64 .i64 a),[]):=gV a (rH a h0)
noncomputable def IL(a:List (List (Int×Int)))(out:List (List (Int×Int)))(i:Int):Option (((List (List (Int×Int)))×Int)⊕((List (List (Int×Int))))):= if i<(a.length:Int)then ck (0≤i∧i.toNat<a.length)<| ck ((a.getD i.toNat default).length<549755813888)<| ck (0≤i∧i.toNat<out.length)<| some (Sum.inl ((out.set i.toNat (a.getD i.toNat default)),IntKind.i64.wrap (i+1))) else some (Sum.inr out)
noncomputable def OZ(a:List (List (Int×Int)))(v:(List (List (Int×Int)))×Int):Option ((List (List (Int×Int)))):=Fb (fun v=>IL a v.1 v.2) v
noncomputable def U8(a:List (List (Int×Int))):Option ((List (List (Int×Int)))):= ck (0≤(a.length:Int)∧(a.length:Int)<1099511627776)<| (OZ a ((List.replicate a.length ([]:List (Int×Int))),0)).bind fun Aa=> some Aa
def lh:SC:= .seq (.seq (.ops [oM 8 4 3,oM 9 0 25,oN 10 9 25,oB 11 .lss 3 (tK 8) (tK 10) 3 4]) (.cond (tK 11) .skip (.exit 0))) (.seq (.block 1 (.ops [oM 14 3 36,oM 15 4 3,oM 16 0 25,oM 17 4 3,oI 18 25 16 17,oL 19 78 18 78,oC 20 63 [(tK 19)] [78] 79,oI 21 36 14 15,oS 79 21 20])) (.ops [oM 12 4 3,oB 13 .add 3 (tK 12) (iK 1) 3 3,oA 4 13 3]))
def A24:SC:= .loop lh
def k37:SC:= .seq (.ops [oX 2 KL 36]) (.seq (.ops [oM 5 0 25,oN 6 5 25,oX 7 (.makeSlice 36 (tK 6) (tK 6)) 36,oA 3 7 36]) (.seq (.seq (.ops [oX 4 (.assign (iK 0)) 3]) (.block 0 A24)) (.seq (.ops [oM 22 3 36,oA 2 22 36]) .ret)))
theorem AAM:Tryz.f37.body.map (BX lends)=some k37:=by kernel_rfl
theorem ANU:Bj Tryz.f37 1=true:=by kernel_rfl
theorem c37{a l:List D}{r:D×List D}(h:Br Y.env k37 (fin Ap l.length [ResultVar.tmp 2] r) (entry a l))(ha:a.length=1):Y.call 37 a l=some r:=
 AZ (Y:=Y) rfl Tryz.func37 (ha▸ANU) AAM h
def IM(a:List (List (Int×Int)))(out:List (List (Int×Int)))(i:Int)(s:St):Prop:=s.v 0=D.sl 78 (AQ (fun x=>D.sl 111 (Au .i64 .i64 x)) a)∧s.v 3=D.own 79 (AQ (fun x=>D.own 87 (Au .i64 .i64 x)) out)∧s.v 4=D.int .i64 i
def Mf(a:List (List (Int×Int)))(r:(List (List (Int×Int))))(ex:Ex)(s:St):Prop:=ex= .exit 0∧s.v 3=D.own 79 (AQ (fun x=>D.own 87 (Au .i64 .i64 x)) r)
theorem YW(a:List (List (Int×Int))){v:(List (List (Int×Int)))×Int}{s:St}{r:(List (List (Int×Int)))}(h:OZ a v=some r)(hM:IM a v.1 v.2 s):Br Y.env A24 (Mf a r) s:=by
 unfold OZ at h;refine BH (c:=lh) (fun v=>IL a v.1 v.2) (fun v s=>IM a v.1 v.2 s) (Mf a) ?_ h hM;clear h hM s v r;intro v s o hM h;obtain⟨out,i⟩:=v;dsimp only at h hM;unfold IL at h;unfold IM at hM;obtain⟨m0,m1,m2⟩:=hM;unfold lh;rcases iS h with⟨e2,h⟩|⟨e2,h⟩
 ·obtain⟨e3,e4,h⟩:=GX h;have c5:=rJ (a.getD i.toNat default) e4;obtain⟨e6,h⟩:=ES h
  obtain rfl:=Option.some.inj h
  simp (maxDischargeDepth:=9) only [↓AL,AO,↓reduceIte,Nat.reduceEqDiff,Nat.reduceLT,Nat.reduceAdd,m0,m1,m2,e2,e3.1,e3.2,c5,e6.2,IM,En]
 ·obtain rfl:=Option.some.inj h
  simp (maxDischargeDepth:=9) only [↓AL,AO,↓reduceIte,Nat.reduceEqDiff,Nat.reduceLT,m0,m1,m2,e2,IM,Mf,K3]
theorem bE(a:List (List (Int×Int))){r:(List (List (Int×Int)))}(h:U8 a=some r):Y.call 37 [D.sl 78 (AQ (fun x=>D.sl 111 (Au .i64 .i64 x)) a)] []=some (D.own 79 (AQ (fun x=>D.own 87 (Au .i64 .i64 x)) r),[]):=by
 refine c37 ?_ rfl;unfold k37;unfold U8 at h;obtain⟨e1,h⟩:=ES h;obtain⟨Aa,hl3,h⟩:=Ak h;try dsimp only at h
 simp (maxDischargeDepth:=9) only [↓AL,AO,↓reduceIte,Nat.reduceEqDiff,Nat.reduceLT,Nat.reduceLeDiff,e1.1,e1.2];refine Aw (YW a hl3 ?_) ?_
 ·simp (maxDischargeDepth:=9) only [BZ,Ei,↓reduceIte,Nat.reduceEqDiff,Nat.reduceLT,IM]<;>(repeat' apply A7)<;>first|rfl|exact⟨_,rfl⟩|exact⟨_,_,rfl⟩|simp [AQ,CR]
 ·intro ex3 s3 hX3;unfold Mf at hX3;obtain⟨rfl,n3_0⟩:=hX3
  obtain rfl:=Option.some.inj h
  simp (maxDischargeDepth:=9) only [↓AL,AO,↓reduceIte,Nat.reduceEqDiff,Nat.reduceLT,n3_0]
theorem ll(a:List (List (Int×Int)))(h:EX a):U8 a=some a:=by
 have h1:=h.1;have key:=Cf (fun v=>IL a v.1 v.2) (fun i=>(a.take i++List.replicate (a.length-i) [],(i:Int))) a.length a ?_ ?_
 ·unfold U8 OZ;rw [BL (by omega)]
  simp only [ZB,Ue,Nat.sub_zero,Gn]at key;rw [key];rfl
 ·intro i hi;simp only [IL];rw [if_pos (CL hi),BL (Ff hi),BL (by rw [Gr _ _ hi];exact h.at i hi),BL (Ff (by simp;omega)),Gr _ _ hi,EC,Yx a i hi [],K4 i (by omega)]
 ·simp only [IL];rw [if_neg (Az _)];simp
theorem lm(a:List (List (Int×Int)))(h0:EX a):Y.call 37 [D.sl 78 (AQ (fun x=>D.sl 111 (Au .i64 .i64 x)) a)] []=some (D.own 79 (AQ (fun x=>D.own 87 (Au .i64 .i64 x)) a),[]):=bE a (ll a h0)
noncomputable def QL(Bd:List (List (Int×Int)))(Dt:AB)(BV:AB):Option ((List (List (Int×Int)))×AB×AB):= ck (EX Bd)<| ck (Dt.length<1099511627776)<| ck (BV.length<1099511627776)<| some (Bd,Dt,BV)
def k12:SC:= .seq (.ops [oX 1 (.box 28 (tK 0)) 0,oX 2 (.alloc 38) 0]) (.seq (.ops [oX 3 (.alloc 38) 0]) (.seq (.ops [oF 4 28 1 0,oL 5 25 4 25,oC 6 37 [(tK 5)] [25] 36,oF 7 38 3 0,oS 36 7 6]) (.seq (.ops [oF 8 28 1 1,oL 9 26 8 26,oC 10 38 [(tK 9)] [26] 26,oF 11 38 3 1,oS 26 11 10]) (.seq (.ops [oF 12 28 1 2,oL 13 26 12 26,oC 14 38 [(tK 13)] [26] 26,oF 15 38 3 2,oS 26 15 14]) (.seq (.ops [oL 16 38 3 38,oS 38 2 16]) .ret)))))
theorem AAN:Tryz.f12.body.map (BX lends)=some k12:=by kernel_rfl
theorem ANW:Bj Tryz.f12 1=true:=by kernel_rfl
theorem zi{a l:List D}{r:D×List D}(h:Br Y.env k12 (fin Ap l.length [ResultVar.cell 2 38] r) (entry a l))(ha:a.length=1):Y.call 12 a l=some r:=
 AZ (Y:=Y) rfl Tryz.func12 (ha▸ANW) AAN h
theorem XD(Bd:List (List (Int×Int)))(Dt:AB)(BV:AB){r:(List (List (Int×Int)))×AB×AB}(h:QL Bd Dt BV=some r):Y.call 12 [D.agg [D.sl 78 (AQ (fun x=>D.sl 111 (Au .i64 .i64 x)) Bd),D.sl 3 (AQ (D.int .i64) Dt),D.sl 3 (AQ (D.int .i64) BV)]] []=some (D.agg [D.own 79 (AQ (fun x=>D.own 87 (Au .i64 .i64 x)) r.1),D.own 3 (AQ (D.int .i64) r.2.1),D.own 3 (AQ (D.int .i64) r.2.2)],[]):=by
 refine zi ?_ rfl;unfold k12;unfold QL at h;obtain⟨e1,h⟩:=ES h;have c2:=lm Bd e1;obtain⟨e3,h⟩:=ES h;have c4:=TJ Dt e3;obtain⟨e5,h⟩:=ES h;have c6:=TJ BV e5
 obtain rfl:=Option.some.inj h
 simp (maxDischargeDepth:=9) only [↓AL,AO,↓reduceIte,Nat.reduceEqDiff,Nat.reduceLT,Nat.reduceAdd,c2,c4,c6]
theorem bF(a:List (List (Int×Int)))(b c:AB)(h:EX a)(hb:b.length<1099511627776)(hc:c.length<1099511627776):QL a b c=some (a,b,c):=by
 unfold QL;rw [BL h,BL hb,BL hc]
theorem Mg(Bd:List (List (Int×Int)))(Dt:AB)(BV:AB)(h0:EX Bd)(h1:Dt.length<1099511627776)(h2:BV.length<1099511627776):Y.call 12 [D.agg [D.sl 78 (AQ (fun x=>D.sl 111 (Au .i64 .i64 x)) Bd),D.sl 3 (AQ (D.int .i64) Dt),D.sl 3 (AQ (D.int .i64) BV)]] []=some (D.agg [D.own 79 (AQ (fun x=>D.own 87 (Au .i64 .i64 x)) Bd),D.own 3 (AQ (D.int .i64) Dt),D.own 3 (AQ (D.int .i64) BV)],[]):=XD Bd Dt BV (bF Bd Dt BV h0 h1 h2)
noncomputable def WA(a_Node:Int)(a_Port:Int)(b_Node:Int)(b_Port:Int):Option (Bool):= if a_Node=b_Node then if a_Port=b_Port then some true else some false else some false
def AAO:SC:= .seq (.ops [oX 2 (.box 87 (tK 0)) 0,oX 3 (.box 87 (tK 1)) 0,oX 4 CY 4]) (.seq (.seq (.ops [oF 5 87 2 0,oL 6 3 5 3,oF 7 87 3 0,oL 8 3 7 3,oB 9 .neq 3 (tK 6) (tK 8) 3 4]) (.cond (tK 9) (.seq (.ops [oX 4 CY 4]) .ret) .skip)) (.seq (.seq (.ops [oF 10 87 2 1,oL 11 3 10 3,oF 12 87 3 1,oL 13 3 12 3,oB 14 .neq 3 (tK 11) (tK 13) 3 4]) (.cond (tK 14) (.seq (.ops [oX 4 CY 4]) .ret) .skip)) (.seq (.ops [oX 4 (.assign F7) 4]) .ret)))
theorem A4V:Tryz.f108.body.map (BX lends)=some AAO:=by kernel_rfl
theorem AHv:Bj Tryz.f108 2=true:=by kernel_rfl
theorem ANX{a l:List D}{r:D×List D}(h:Br Y.env AAO (fin Ap l.length [ResultVar.tmp 4] r) (entry a l))(ha:a.length=2):Y.call 108 a l=some r:=
 AZ (Y:=Y) rfl Tryz.func108 (ha▸AHv) A4V h
theorem lq(a_Node:Int)(a_Port:Int)(b_Node:Int)(b_Port:Int){r:Bool}(h:WA a_Node a_Port b_Node b_Port=some r):Y.call 108 [D.agg [D.int .i64 a_Node,D.int .i64 a_Port],D.agg [D.int .i64 b_Node,D.int .i64 b_Port]] []=some (D.bool r,[]):=by
 refine ANX ?_ rfl;unfold AAO;unfold WA at h;rcases iS h with⟨e1,h⟩|⟨e1,h⟩
 ·rcases iS h with⟨e2,h⟩|⟨e2,h⟩
  ·obtain rfl:=Option.some.inj h
   simp (maxDischargeDepth:=9) only [↓AL,AO,↓reduceIte,Nat.reduceEqDiff,Nat.reduceLT,Nat.reduceAdd,decide_eq_true e1,decide_eq_true e2]
  ·obtain rfl:=Option.some.inj h
   simp (maxDischargeDepth:=9) only [↓AL,AO,↓reduceIte,Nat.reduceEqDiff,Nat.reduceLT,Nat.reduceAdd,decide_eq_true e1,e2]
 ·obtain rfl:=Option.some.inj h
  simp (maxDischargeDepth:=9) only [↓AL,AO,↓reduceIte,Nat.reduceEqDiff,Nat.reduceLT,Nat.reduceAdd,e1]
noncomputable def Jc(a:List (Int×Int))(b:List (Int×Int))(i:Int):Option ((Int)⊕(Unit⊕Unit)):= if i<(a.length:Int)then ck (0≤i∧i.toNat<a.length)<| ck (0≤i∧i.toNat<b.length)<| (WA (BP a i.toNat) (Ck a i.toNat) (BP b i.toNat) (Ck b i.toNat)).bind fun vX=> if vX=true then some (Sum.inl (IntKind.i64.wrap (i+1))) else some (Sum.inr (Sum.inl ())) else some (Sum.inr (Sum.inr ()))
noncomputable def QM(a:List (Int×Int))(b:List (Int×Int))(v:Int):Option (Unit⊕Unit):=Fb (fun v=>Jc a b v) v
noncomputable def WB(a:List (Int×Int))(b:List (Int×Int)):Option (Bool):=
 if(a.length:Int)=(b.length:Int)then
  (QM a b 0).bind fun Aa=>
  match Aa with
  | .inl q1000_=>
   some false
  | .inr q1000_=>
   some true
 else
  some false
abbrev jT:List Nat:=[17,18,19,20,21,22,23,24,25,26]
def lu:SC:= .seq (.seq (.ops [oM 11 5 3,oM 12 0 79,oN 13 12 79,oB 14 .lss 3 (tK 11) (tK 13) 3 4]) (.cond (tK 14) .skip (.exit 0))) (.seq (.block 1 (.seq (.draws [(⟨[17,0,0],jT,[17]⟩,oM 17 0 79),(⟨[18,5,5],jT,[18]⟩,oM 18 5 3),(⟨[19,17,18,0,5],jT,[19]⟩,oI 19 79 17 18),(⟨[20,19,0],jT,[20]⟩,oL 20 87 19 87),(⟨[21,1,1],jT,[21]⟩,oM 21 1 79),(⟨[22,5,5],jT,[22]⟩,oM 22 5 3),(⟨[23,21,22,1,5],jT,[23]⟩,oI 23 79 21 22),(⟨[24,23,1],jT,[24]⟩,oL 24 87 23 87),(⟨[25,20,24,0,1],jT,[25]⟩,oC 25 108 [(tK 20),(tK 24)] [87,87] 4),(⟨[26,25,25],jT,[26]⟩,oX 26 (.unOp .not 4 (tK 25)) 4)]) (.cond (tK 26) (.seq (.ops [oX 4 CY 4]) .ret) .skip))) (.ops [oM 15 5 3,oB 16 .add 3 (tK 15) (iK 1) 3 3,oA 5 16 3]))
def A25:SC:= .loop lu
def k75:SC:= .seq (.ops [oX 4 CY 4]) (.seq (.seq (.ops [oM 6 0 79,oN 7 6 79,oM 8 1 79,oN 9 8 79,oB 10 .neq 3 (tK 7) (tK 9) 3 4]) (.cond (tK 10) (.seq (.ops [oX 4 CY 4]) .ret) .skip)) (.seq (.seq (.ops [oX 5 (.assign (iK 0)) 3]) (.block 0 A25)) (.seq (.ops [oX 4 (.assign F7) 4]) .ret)))
theorem AAP:Tryz.f75.body.map (BX lends)=some k75:=by kernel_rfl
theorem ANa:Bj Tryz.f75 2=true:=by kernel_rfl
theorem c75{a l:List D}{r:D×List D}(h:Br Y.env k75 (fin Ap l.length [ResultVar.tmp 4] r) (entry a l))(ha:a.length=2):Y.call 75 a l=some r:=
 AZ (Y:=Y) rfl Tryz.func75 (ha▸ANa) AAP h
def He(a:List (Int×Int))(b:List (Int×Int))(i:Int)(s:St):Prop:=s.v 0=D.sl 87 (Au .i64 .i64 a)∧s.v 1=D.sl 87 (Au .i64 .i64 b)∧s.v 5=D.int .i64 i
def Jd(a:List (Int×Int))(b:List (Int×Int))(r:Unit⊕Unit)(ex:Ex)(s:St):Prop:=match r with
 | .inl q=>ex= .ret∧s.v 4=D.bool false
 | .inr q=>ex= .exit 0
theorem bG(a:List (Int×Int))(b:List (Int×Int)){v:Int}{s:St}{r:Unit⊕Unit}(h:QM a b v=some r)(hM:He a b v s):Br Y.env A25 (Jd a b r) s:=by
 unfold QM at h;refine BH (c:=lu) (fun v=>Jc a b v) (fun v s=>He a b v s) (Jd a b) ?_ h hM;clear h hM s v r;intro i s o hM h;unfold Jc at h;unfold He at hM;obtain⟨m0,m1,m2⟩:=hM;unfold lu;rcases iS h with⟨e2,h⟩|⟨e2,h⟩
 ·obtain⟨e3,e4,h⟩:=GX h;obtain⟨vX,hl5,h⟩:=Ak h;have c5:=lq (BP a i.toNat) (Ck a i.toNat) (BP b i.toNat) (Ck b i.toNat) hl5;rcases iS h with⟨e6,h⟩|⟨e6,h⟩
  ·obtain rfl:=Option.some.inj h
   simp (maxDischargeDepth:=9) only [↓AL,AO,↓reduceIte,Nat.reduceEqDiff,Nat.reduceLT,Nat.reduceAdd,m0,m1,m2,e2,e3.1,e3.2,e4.2,c5,e6,He,En]
  ·have e6f:vX=false:=Jw.mpr e6
   obtain rfl:=Option.some.inj h
   simp (maxDischargeDepth:=9) only [↓AL,AO,↓reduceIte,Nat.reduceEqDiff,Nat.reduceLT,Nat.reduceAdd,m0,m1,m2,e2,e3.1,e3.2,e4.2,c5,e6f,He,Jd,Qu]
 ·obtain rfl:=Option.some.inj h
  simp (maxDischargeDepth:=9) only [↓AL,AO,↓reduceIte,Nat.reduceEqDiff,Nat.reduceLT,m0,m2,e2,He,Jd,K3]
theorem gW(a:List (Int×Int))(b:List (Int×Int)){r:Bool}(h:WB a b=some r):Y.call 75 [D.sl 87 (Au .i64 .i64 a),D.sl 87 (Au .i64 .i64 b)] []=some (D.bool r,[]):=by
 refine c75 ?_ rfl;unfold k75;unfold WB at h;rcases iS h with⟨e1,h⟩|⟨e1,h⟩
 ·obtain⟨Aa,hl3,h⟩:=Ak h;try dsimp only at h
  simp (maxDischargeDepth:=9) only [↓AL,AO,↓reduceIte,Nat.reduceEqDiff,Nat.reduceLT,decide_eq_true e1];refine Aw (bG a b hl3 ?_) ?_
  ·simp (maxDischargeDepth:=9) only [BZ,Ei,↓reduceIte,Nat.reduceEqDiff,Nat.reduceLT,He]
  ·intro ex3 s3 hX3;rcases Aa with q1000_|q1000_
   ·unfold Jd at hX3;dsimp only at hX3 h;obtain⟨rfl,n3_0⟩:=hX3
    obtain rfl:=Option.some.inj h
    simp (maxDischargeDepth:=9) only [↓AL,AO,↓reduceIte,n3_0]
   ·unfold Jd at hX3;dsimp only at hX3 h
    obtain rfl:=hX3
    obtain rfl:=Option.some.inj h
    simp (maxDischargeDepth:=9) only [↓AL,AO,↓reduceIte,Nat.reduceEqDiff,Nat.reduceLT]
 ·obtain rfl:=Option.some.inj h
  simp (maxDischargeDepth:=9) only [↓AL,AO,↓reduceIte,Nat.reduceEqDiff,Nat.reduceLT,e1]
theorem vY(a b c d:Int):WA a b c d=some (decide ((a,b)=(c,d))):=by
 unfold WA;by_cases h1:a=c<;>by_cases h2:b=d<;>simp [h1,h2]
theorem rM(a b:List (Int×Int))(ha:a.length<549755813888):WB a b=some (decide (a=b)):=by
 unfold WB QM;by_cases hl:a.length=b.length
 ·rw [if_pos (by omega)]
  have key:=Fe (fun v=>Jc a b v) (fun i=>(i:Int)) a.length (fun i=>decide (a.getD i default=b.getD i default)) (.inl ()) (.inr ()) ?_ ?_
  ·simp only [Gn]at key;rw [key,TG a b hl];by_cases he:a=b<;>simp [he]
  ·intro i hi;simp only [Jc,EC];rw [if_pos (CL hi),BL (by omega),BL (by omega),vY,Cz,K4 i (by omega)]
   rfl
  ·simp only [Jc];rw [if_neg (Az _)]
 ·rw [if_neg (by omega)]
  have: ¬a=b:=fun e=>hl (by rw [e])
  simp [this]
theorem rO(a:List (Int×Int))(b:List (Int×Int))(h0:a.length<549755813888):Y.call 75 [D.sl 87 (Au .i64 .i64 a),D.sl 87 (Au .i64 .i64 b)] []=some (D.bool (decide (a=b)),[]):=gW a b (rM a b h0)
noncomputable def IP(a:List (List (Int×Int)))(b:List (List (Int×Int)))(i:Int):Option ((Int)⊕(Unit⊕Unit)):= if i<(a.length:Int)then ck (0≤i∧i.toNat<a.length)<| ck (0≤i∧i.toNat<b.length)<| ck ((a.getD i.toNat default).length<549755813888)<| if(decide ((a.getD i.toNat default)=(b.getD i.toNat default)))=true then some (Sum.inl (IntKind.i64.wrap (i+1))) else some (Sum.inr (Sum.inl ())) else some (Sum.inr (Sum.inr ()))
noncomputable def Oa(a:List (List (Int×Int)))(b:List (List (Int×Int)))(v:Int):Option (Unit⊕Unit):=Fb (fun v=>IP a b v) v
noncomputable def U9(a:List (List (Int×Int)))(b:List (List (Int×Int))):Option (Bool):=
 if(a.length:Int)=(b.length:Int)then
  (Oa a b 0).bind fun Aa=>
  match Aa with
  | .inl q1000_=>
   some false
  | .inr q1000_=>
   some true
 else
  some false
def lw:SC:= .seq (.seq (.ops [oM 11 5 3,oM 12 0 36,oN 13 12 36,oB 14 .lss 3 (tK 11) (tK 13) 3 4]) (.cond (tK 14) .skip (.exit 0))) (.seq (.block 1 (.seq (.draws [(⟨[17,0,0],jT,[17]⟩,oM 17 0 36),(⟨[18,5,5],jT,[18]⟩,oM 18 5 3),(⟨[19,17,18,0,5],jT,[19]⟩,oI 19 36 17 18),(⟨[20,19,0],jT,[20]⟩,oL 20 79 19 79),(⟨[21,1,1],jT,[21]⟩,oM 21 1 36),(⟨[22,5,5],jT,[22]⟩,oM 22 5 3),(⟨[23,21,22,1,5],jT,[23]⟩,oI 23 36 21 22),(⟨[24,23,1],jT,[24]⟩,oL 24 79 23 79),(⟨[25,20,24,0,1],jT,[25]⟩,oC 25 75 [(tK 20),(tK 24)] [79,79] 4),(⟨[26,25,25],jT,[26]⟩,oX 26 (.unOp .not 4 (tK 25)) 4)]) (.cond (tK 26) (.seq (.ops [oX 4 CY 4]) .ret) .skip))) (.ops [oM 15 5 3,oB 16 .add 3 (tK 15) (iK 1) 3 3,oA 5 16 3]))
def A26:SC:= .loop lw
def k43:SC:= .seq (.ops [oX 4 CY 4]) (.seq (.seq (.ops [oM 6 0 36,oN 7 6 36,oM 8 1 36,oN 9 8 36,oB 10 .neq 3 (tK 7) (tK 9) 3 4]) (.cond (tK 10) (.seq (.ops [oX 4 CY 4]) .ret) .skip)) (.seq (.seq (.ops [oX 5 (.assign (iK 0)) 3]) (.block 0 A26)) (.seq (.ops [oX 4 (.assign F7) 4]) .ret)))
theorem AAQ:Tryz.f43.body.map (BX lends)=some k43:=by kernel_rfl
theorem ANc:Bj Tryz.f43 2=true:=by kernel_rfl
theorem c43{a l:List D}{r:D×List D}(h:Br Y.env k43 (fin Ap l.length [ResultVar.tmp 4] r) (entry a l))(ha:a.length=2):Y.call 43 a l=some r:=
 AZ (Y:=Y) rfl Tryz.func43 (ha▸ANc) AAQ h
def GJ(a:List (List (Int×Int)))(b:List (List (Int×Int)))(i:Int)(s:St):Prop:=s.v 0=D.sl 79 (AQ (fun x=>D.sl 87 (Au .i64 .i64 x)) a)∧s.v 1=D.sl 79 (AQ (fun x=>D.sl 87 (Au .i64 .i64 x)) b)∧s.v 5=D.int .i64 i
def IQ(a:List (List (Int×Int)))(b:List (List (Int×Int)))(r:Unit⊕Unit)(ex:Ex)(s:St):Prop:=match r with
 | .inl q=>ex= .ret∧s.v 4=D.bool false
 | .inr q=>ex= .exit 0
theorem YX(a:List (List (Int×Int)))(b:List (List (Int×Int))){v:Int}{s:St}{r:Unit⊕Unit}(h:Oa a b v=some r)(hM:GJ a b v s):Br Y.env A26 (IQ a b r) s:=by
 unfold Oa at h;refine BH (c:=lw) (fun v=>IP a b v) (fun v s=>GJ a b v s) (IQ a b) ?_ h hM;clear h hM s v r;intro i s o hM h;unfold IP at h;unfold GJ at hM;obtain⟨m0,m1,m2⟩:=hM;unfold lw;rcases iS h with⟨e2,h⟩|⟨e2,h⟩
 ·obtain⟨e3,e4,e5,h⟩:=Q3 h;have c6:=rO (a.getD i.toNat default) (b.getD i.toNat default) e5;rcases iS h with⟨e7,h⟩|⟨e7,h⟩
  ·obtain rfl:=Option.some.inj h
   simp (maxDischargeDepth:=9) only [↓AL,AO,↓reduceIte,Nat.reduceEqDiff,Nat.reduceLT,Nat.reduceAdd,m0,m1,m2,e2,e3.1,e3.2,e4.2,c6,e7,GJ,En]
  ·have e7f:(decide ((a.getD i.toNat default)=(b.getD i.toNat default)))=false:=Jw.mpr e7
   obtain rfl:=Option.some.inj h
   simp (maxDischargeDepth:=9) only [↓AL,AO,↓reduceIte,Nat.reduceEqDiff,Nat.reduceLT,Nat.reduceAdd,m0,m1,m2,e2,e3.1,e3.2,e4.2,c6,e7f,GJ,IQ,Qu]
 ·obtain rfl:=Option.some.inj h
  simp (maxDischargeDepth:=9) only [↓AL,AO,↓reduceIte,Nat.reduceEqDiff,Nat.reduceLT,m0,m2,e2,GJ,IQ,K3]
theorem bH(a:List (List (Int×Int)))(b:List (List (Int×Int))){r:Bool}(h:U9 a b=some r):Y.call 43 [D.sl 79 (AQ (fun x=>D.sl 87 (Au .i64 .i64 x)) a),D.sl 79 (AQ (fun x=>D.sl 87 (Au .i64 .i64 x)) b)] []=some (D.bool r,[]):=by
 refine c43 ?_ rfl;unfold k43;unfold U9 at h;rcases iS h with⟨e1,h⟩|⟨e1,h⟩
 ·obtain⟨Aa,hl3,h⟩:=Ak h;try dsimp only at h
  simp (maxDischargeDepth:=9) only [↓AL,AO,↓reduceIte,Nat.reduceEqDiff,Nat.reduceLT,decide_eq_true e1];refine Aw (YX a b hl3 ?_) ?_
  ·simp (maxDischargeDepth:=9) only [BZ,Ei,↓reduceIte,Nat.reduceEqDiff,Nat.reduceLT,GJ]
  ·intro ex3 s3 hX3;rcases Aa with q1000_|q1000_
   ·unfold IQ at hX3;dsimp only at hX3 h;obtain⟨rfl,n3_0⟩:=hX3
    obtain rfl:=Option.some.inj h
    simp (maxDischargeDepth:=9) only [↓AL,AO,↓reduceIte,n3_0]
   ·unfold IQ at hX3;dsimp only at hX3 h
    obtain rfl:=hX3
    obtain rfl:=Option.some.inj h
    simp (maxDischargeDepth:=9) only [↓AL,AO,↓reduceIte,Nat.reduceEqDiff,Nat.reduceLT]
 ·obtain rfl:=Option.some.inj h
  simp (maxDischargeDepth:=9) only [↓AL,AO,↓reduceIte,Nat.reduceEqDiff,Nat.reduceLT,e1]
theorem mD(a b:List (List (Int×Int)))(ha:EX a):U9 a b=some (decide (a=b)):=by
 have h1:=ha.1;unfold U9 Oa;by_cases hl:a.length=b.length
 ·rw [if_pos (by omega)]
  have key:=Fe (fun v=>IP a b v) (fun i=>(i:Int)) a.length (fun i=>decide (a.getD i default=b.getD i default)) (.inl ()) (.inr ()) ?_ ?_
  ·simp only [Gn]at key;rw [key,TG a b hl];by_cases he:a=b<;>simp [he]
  ·intro i hi;simp only [IP];rw [if_pos (CL hi),BL (Ff hi),BL (Ff (by omega)),BL (by rw [Gr _ _ hi];exact ha.at i hi),EC,K4 i (by omega)]<;>simp only [decide_eq_true_eq]
  ·simp only [IP];rw [if_neg (Az _)]
 ·rw [if_neg (by omega)]
  have: ¬a=b:=fun e=>hl (by rw [e])
  simp [this]
theorem mE(a:List (List (Int×Int)))(b:List (List (Int×Int)))(h0:EX a):Y.call 43 [D.sl 79 (AQ (fun x=>D.sl 87 (Au .i64 .i64 x)) a),D.sl 79 (AQ (fun x=>D.sl 87 (Au .i64 .i64 x)) b)] []=some (D.bool (decide (a=b)),[]):=bH a b (mD a b h0)
noncomputable def QN(Bd:List (List (Int×Int)))(Dt:AB)(BV:AB)(Pe:List (List (Int×Int)))(TS:AB)(Ka:AB):Option (Bool):= ck (EX Bd)<| if(decide (Bd=Pe))=true then ck (Dt.length<1099511627776)<| if(decide (Dt=TS))=true then ck (BV.length<1099511627776)<| if(decide (BV=Ka))=true then some true else some false else some false else some false
def k17:SC:= .seq (.ops [oX 2 (.box 38 (tK 0)) 0,oX 3 (.box 38 (tK 1)) 0,oX 4 CY 4]) (.seq (.seq (.ops [oF 5 38 2 0,oL 6 36 5 36,oF 7 38 3 0,oL 8 36 7 36,oC 9 43 [(tK 6),(tK 8)] [36,36] 4,oX 10 (.unOp .not 4 (tK 9)) 4]) (.cond (tK 10) (.seq (.ops [oX 4 CY 4]) .ret) .skip)) (.seq (.seq (.ops [oF 11 38 2 1,oL 12 26 11 26,oF 13 38 3 1,oL 14 26 13 26,oC 15 26 [(tK 12),(tK 14)] [26,26] 4,oX 16 (.unOp .not 4 (tK 15)) 4]) (.cond (tK 16) (.seq (.ops [oX 4 CY 4]) .ret) .skip)) (.seq (.seq (.ops [oF 17 38 2 2,oL 18 26 17 26,oF 19 38 3 2,oL 20 26 19 26,oC 21 26 [(tK 18),(tK 20)] [26,26] 4,oX 22 (.unOp .not 4 (tK 21)) 4]) (.cond (tK 22) (.seq (.ops [oX 4 CY 4]) .ret) .skip)) (.seq (.ops [oX 4 (.assign F7) 4]) .ret))))
theorem AAR:Tryz.f17.body.map (BX lends)=some k17:=by kernel_rfl
theorem ANe:Bj Tryz.f17 2=true:=by kernel_rfl
theorem c17{a l:List D}{r:D×List D}(h:Br Y.env k17 (fin Ap l.length [ResultVar.tmp 4] r) (entry a l))(ha:a.length=2):Y.call 17 a l=some r:=
 AZ (Y:=Y) rfl Tryz.func17 (ha▸ANe) AAR h
theorem XE(Bd:List (List (Int×Int)))(Dt:AB)(BV:AB)(Pe:List (List (Int×Int)))(TS:AB)(Ka:AB){r:Bool}(h:QN Bd Dt BV Pe TS Ka=some r):Y.call 17 [D.agg [D.sl 79 (AQ (fun x=>D.sl 87 (Au .i64 .i64 x)) Bd),D.sl 3 (AQ (D.int .i64) Dt),D.sl 3 (AQ (D.int .i64) BV)],D.agg [D.sl 79 (AQ (fun x=>D.sl 87 (Au .i64 .i64 x)) Pe),D.sl 3 (AQ (D.int .i64) TS),D.sl 3 (AQ (D.int .i64) Ka)]] []=some (D.bool r,[]):=by
 refine c17 ?_ rfl;unfold k17;unfold QN at h;obtain⟨e1,h⟩:=ES h;have c2:=mE Bd Pe e1;rcases iS h with⟨e3,h⟩|⟨e3,h⟩
 ·obtain⟨e4,h⟩:=ES h;have c5:=TK Dt TS e4;rcases iS h with⟨e6,h⟩|⟨e6,h⟩
  ·obtain⟨e7,h⟩:=ES h;have c8:=TK BV Ka e7;rcases iS h with⟨e9,h⟩|⟨e9,h⟩
   ·obtain rfl:=Option.some.inj h
    simp (maxDischargeDepth:=9) only [↓AL,AO,↓reduceIte,Nat.reduceEqDiff,Nat.reduceLT,Nat.reduceAdd,c2,e3,c5,e6,c8,e9]
   ·have e9f:(decide (BV=Ka))=false:=Jw.mpr e9
    obtain rfl:=Option.some.inj h
    simp (maxDischargeDepth:=9) only [↓AL,AO,↓reduceIte,Nat.reduceEqDiff,Nat.reduceLT,Nat.reduceAdd,c2,e3,c5,e6,c8,e9f]
  ·have e6f:(decide (Dt=TS))=false:=Jw.mpr e6
   obtain rfl:=Option.some.inj h
   simp (maxDischargeDepth:=9) only [↓AL,AO,↓reduceIte,Nat.reduceEqDiff,Nat.reduceLT,Nat.reduceAdd,c2,e3,c5,e6f]
 ·have e3f:(decide (Bd=Pe))=false:=Jw.mpr e3
  obtain rfl:=Option.some.inj h
  simp (maxDischargeDepth:=9) only [↓AL,AO,↓reduceIte,Nat.reduceEqDiff,Nat.reduceLT,Nat.reduceAdd,c2,e3f]
def WC(a:List (List (Int×Int)))(b c:AB)(a':List (List (Int×Int)))(b' c':AB):Bool:=decide (a=a'∧b=b'∧c=c')
theorem vZ(a:List (List (Int×Int)))(b c:AB):WC a b c a b c=true:=by simp [WC]
theorem bI(a:List (List (Int×Int)))(b c:AB)(a':List (List (Int×Int)))(b' c':AB)(h:EX a)(hb:b.length<1099511627776)(hc:c.length<1099511627776):QN a b c a' b' c'=some (WC a b c a' b' c'):=by
 unfold QN WC;rw [BL h,BL hb,BL hc];by_cases h1:a=a'<;>by_cases h2:b=b'<;>by_cases h3:c=c'<;>simp [h1,h2,h3]
theorem TT(Bd:List (List (Int×Int)))(Dt:AB)(BV:AB)(Pe:List (List (Int×Int)))(TS:AB)(Ka:AB)(h0:EX Bd)(h1:Dt.length<1099511627776)(h2:BV.length<1099511627776):Y.call 17 [D.agg [D.sl 79 (AQ (fun x=>D.sl 87 (Au .i64 .i64 x)) Bd),D.sl 3 (AQ (D.int .i64) Dt),D.sl 3 (AQ (D.int .i64) BV)],D.agg [D.sl 79 (AQ (fun x=>D.sl 87 (Au .i64 .i64 x)) Pe),D.sl 3 (AQ (D.int .i64) TS),D.sl 3 (AQ (D.int .i64) Ka)]] []=some (D.bool (WC Bd Dt BV Pe TS Ka),[]):=XE Bd Dt BV Pe TS Ka (bI Bd Dt BV Pe TS Ka h0 h1 h2)
noncomputable def WE(a:List (Int×Int))(left:Int):Option (Int):= if(IntKind.i64.wrap (left-(a.length:Int)))<0 then some (-1) else some (IntKind.i64.wrap (left-(a.length:Int)))
def k56:SC:= .seq (.ops [oX 4 (.assign (iK 0)) 3]) (.seq (.ops [oM 5 1 3,oM 6 0 78,oN 7 6 78,oB 8 .sub 3 (tK 5) (tK 7) 3 3,oA 1 8 3]) (.seq (.seq (.ops [oM 9 1 3,oB 10 .lss 3 (tK 9) (iK 0) 3 4]) (.cond (tK 10) (.seq (.ops [oX 4 SL 3]) .ret) .skip)) (.seq (.ops [oM 11 1 3,oA 4 11 3]) .ret)))
theorem AAT:Tryz.f56.body.map (BX lends)=some k56:=by kernel_rfl
theorem ANg:Bj Tryz.f56 2=true:=by kernel_rfl
theorem c56{a l:List D}{r:D×List D}(h:Br Y.env k56 (fin Ap l.length [ResultVar.tmp 4] r) (entry a l))(ha:a.length=2):Y.call 56 a l=some r:=
 AZ (Y:=Y) rfl Tryz.func56 (ha▸ANg) AAT h
theorem gX(a:List (Int×Int))(left:Int){r:Int}(h:WE a left=some r):Y.call 56 [D.sl 111 (Au .i64 .i64 a),D.int .i64 left] []=some (D.int .i64 r,[]):=by
 refine c56 ?_ rfl;unfold k56;unfold WE at h;rcases iS h with⟨e1,h⟩|⟨e1,h⟩
 ·obtain rfl:=Option.some.inj h
  simp (maxDischargeDepth:=9) only [↓AL,AO,↓reduceIte,Nat.reduceEqDiff,Nat.reduceLT,Int.reduceNeg,e1]
 ·obtain rfl:=Option.some.inj h
  simp (maxDischargeDepth:=9) only [↓AL,AO,↓reduceIte,Nat.reduceEqDiff,Nat.reduceLT,Int.reduceNeg,e1]
theorem rP(a:List (Int×Int))(left:Int)(ha:a.length<9223372036854775808)(hl:0≤left∧left≤1048576):WE a left=some (Ga left a.length):=by
 unfold WE Ga;rw [I7 _ (by omega)]
 split<;>rfl
theorem rQ(a:List (Int×Int))(left:Int)(h0:a.length<9223372036854775808)(h1:0≤left∧left≤1048576):Y.call 56 [D.sl 111 (Au .i64 .i64 a),D.int .i64 left] []=some (D.int .i64 (Ga left a.length),[]):=gX a left (rP a left h0 h1)
noncomputable def IR(a:List (List (Int×Int)))(left1:Int)(i:Int):Option ((Int×Int)⊕(Unit⊕Int)):= if i<(a.length:Int)then ck (0≤i∧i.toNat<a.length)<| ck ((a.getD i.toNat default).length<9223372036854775808)<| ck (0≤left1∧left1≤1048576)<| if(Ga left1 (a.getD i.toNat default).length)<0 then some (Sum.inr (Sum.inl ())) else some (Sum.inl ((Ga left1 (a.getD i.toNat default).length),IntKind.i64.wrap (i+1))) else some (Sum.inr (Sum.inr left1))
noncomputable def J3(a:List (List (Int×Int)))(v:Int×Int):Option (Unit⊕Int):=Fb (fun v=>IR a v.1 v.2) v
noncomputable def UA(a:List (List (Int×Int)))(left:Int):Option (Int):=
 if(IntKind.i64.wrap (left-(a.length:Int)))<0 then
  some (-1)
 else
  (J3 a (IntKind.i64.wrap (left-(a.length:Int)),0)).bind fun Aa=>
  match Aa with
  | .inl q1000_=>
   some (-1)
  | .inr q1000_=>
   some q1000_
def mF:SC:= .seq (.seq (.ops [oM 12 5 3,oM 13 0 25,oN 14 13 25,oB 15 .lss 3 (tK 12) (tK 14) 3 4]) (.cond (tK 15) .skip (.exit 0))) (.seq (.block 1 (.seq (.ops [oM 18 0 25,oM 19 5 3,oI 20 25 18 19,oL 21 78 20 78,oM 22 1 3,oC 23 56 [(tK 21),(tK 22)] [78,3] 3,oA 1 23 3]) (.seq (.ops [oM 24 1 3,oB 25 .lss 3 (tK 24) (iK 0) 3 4]) (.cond (tK 25) (.seq (.ops [oX 4 SL 3]) .ret) .skip)))) (.ops [oM 16 5 3,oB 17 .add 3 (tK 16) (iK 1) 3 3,oA 5 17 3]))
def A27:SC:= .loop mF
def k31:SC:= .seq (.ops [oX 4 (.assign (iK 0)) 3]) (.seq (.ops [oM 6 1 3,oM 7 0 25,oN 8 7 25,oB 9 .sub 3 (tK 6) (tK 8) 3 3,oA 1 9 3]) (.seq (.seq (.ops [oM 10 1 3,oB 11 .lss 3 (tK 10) (iK 0) 3 4]) (.cond (tK 11) (.seq (.ops [oX 4 SL 3]) .ret) .skip)) (.seq (.seq (.ops [oX 5 (.assign (iK 0)) 3]) (.block 0 A27)) (.seq (.ops [oM 26 1 3,oA 4 26 3]) .ret))))
theorem AAU:Tryz.f31.body.map (BX lends)=some k31:=by kernel_rfl
theorem ANi:Bj Tryz.f31 2=true:=by kernel_rfl
theorem c31{a l:List D}{r:D×List D}(h:Br Y.env k31 (fin Ap l.length [ResultVar.tmp 4] r) (entry a l))(ha:a.length=2):Y.call 31 a l=some r:=
 AZ (Y:=Y) rfl Tryz.func31 (ha▸ANi) AAU h
def GK(a:List (List (Int×Int)))(left1:Int)(i:Int)(s:St):Prop:=s.v 0=D.sl 78 (AQ (fun x=>D.sl 111 (Au .i64 .i64 x)) a)∧s.v 1=D.int .i64 left1∧s.v 5=D.int .i64 i
def IU(a:List (List (Int×Int)))(r:Unit⊕Int)(ex:Ex)(s:St):Prop:=match r with
 | .inl q=>ex= .ret∧s.v 4=D.int .i64 (-1)
 | .inr q=>ex= .exit 0∧s.v 1=D.int .i64 q
theorem YY(a:List (List (Int×Int))){v:Int×Int}{s:St}{r:Unit⊕Int}(h:J3 a v=some r)(hM:GK a v.1 v.2 s):Br Y.env A27 (IU a r) s:=by
 unfold J3 at h;refine BH (c:=mF) (fun v=>IR a v.1 v.2) (fun v s=>GK a v.1 v.2 s) (IU a) ?_ h hM;clear h hM s v r;intro v s o hM h;obtain⟨left1,i⟩:=v;dsimp only at h hM;unfold IR at h;unfold GK at hM;obtain⟨m0,m1,m2⟩:=hM;unfold mF;rcases iS h with⟨e2,h⟩|⟨e2,h⟩
 ·obtain⟨e3,e4,e5,h⟩:=Q3 h;have c6:=rQ (a.getD i.toNat default) left1 e4 e5;rcases iS h with⟨e7,h⟩|⟨e7,h⟩
  ·obtain rfl:=Option.some.inj h
   simp (maxDischargeDepth:=9) only [↓AL,AO,↓reduceIte,Nat.reduceEqDiff,Nat.reduceLT,Nat.reduceAdd,Int.reduceNeg,m0,m1,m2,e2,e3.1,e3.2,c6,e7,GK,IU,Qu]
  ·obtain rfl:=Option.some.inj h
   simp (maxDischargeDepth:=9) only [↓AL,AO,↓reduceIte,Nat.reduceEqDiff,Nat.reduceLT,Nat.reduceAdd,Int.reduceNeg,m0,m1,m2,e2,e3.1,e3.2,c6,e7,GK,En]
 ·obtain rfl:=Option.some.inj h
  simp (maxDischargeDepth:=9) only [↓AL,AO,↓reduceIte,Nat.reduceEqDiff,Nat.reduceLT,Int.reduceNeg,m0,m1,m2,e2,GK,IU,K3]
theorem bJ(a:List (List (Int×Int)))(left:Int){r:Int}(h:UA a left=some r):Y.call 31 [D.sl 78 (AQ (fun x=>D.sl 111 (Au .i64 .i64 x)) a),D.int .i64 left] []=some (D.int .i64 r,[]):=by
 refine c31 ?_ rfl;unfold k31;unfold UA at h;rcases iS h with⟨e1,h⟩|⟨e1,h⟩
 ·obtain rfl:=Option.some.inj h
  simp (maxDischargeDepth:=9) only [↓AL,AO,↓reduceIte,Nat.reduceEqDiff,Nat.reduceLT,Int.reduceNeg,e1]
 ·obtain⟨Aa,hl3,h⟩:=Ak h;try dsimp only at h
  simp (maxDischargeDepth:=9) only [↓AL,AO,↓reduceIte,Nat.reduceEqDiff,Nat.reduceLT,Int.reduceNeg,e1];refine Aw (YY a hl3 ?_) ?_
  ·simp (maxDischargeDepth:=9) only [BZ,Ei,↓reduceIte,Nat.reduceEqDiff,Nat.reduceLT,GK]
  ·intro ex3 s3 hX3;rcases Aa with q1000_|q1000_
   ·unfold IU at hX3;dsimp only at hX3 h;obtain⟨rfl,n3_0⟩:=hX3
    obtain rfl:=Option.some.inj h
    simp (maxDischargeDepth:=9) only [↓AL,AO,↓reduceIte,Int.reduceNeg,n3_0]
   ·unfold IU at hX3;dsimp only at hX3 h;obtain⟨rfl,n3_0⟩:=hX3
    obtain rfl:=Option.some.inj h
    simp (maxDischargeDepth:=9) only [↓AL,AO,↓reduceIte,Nat.reduceEqDiff,Nat.reduceLT,n3_0]
def fE(l:List (List (Int×Int))):AY:=l.map fun x=>x.map Prod.fst
theorem YZ(a:List (List (Int×Int)))(ha:a.length<4611686018427387904)(hx: ∀x∈a,x.length<9223372036854775808): ∀(n i:Nat) (left:Int),n=a.length-i→i≤a.length→0≤left∧left≤1048576→
  J3 a (left,(i:Int))=some (if szL left (fE (a.drop i))= -1 then .inl ()else .inr (szL left (fE (a.drop i)))):=by
 intro n
 induction n with
 |zero=>
  intro i left hn hi hl;have e:i=a.length:=by omega
  subst e;unfold J3;rw [Hy (r:=Sum.inr left)]
  ·rw [List.drop_length,show fE []=[]from rfl];unfold szL;rw [if_neg (by omega)]
  ·simp only [IR];rw [if_neg (Az _)]
 |succ n ih=>
  intro i left hn hi hl;have hlt:i<a.length:=by omega
  have hm:a[i]∈a:=Nh hlt;have hxm:=hx _ hm
  have step:IR a left i=if Ga left a[i].length<0 then some (Sum.inr (Sum.inl ()))else some (Sum.inl (Ga left a[i].length,((i+1:Nat):Int))):=by
   unfold IR;rw [if_pos (CL hlt),BL (Ff hlt),BL (by rw [Gr _ _ hlt];exact hxm),BL hl,Gr _ _ hlt,K4 i (by omega)]
  rw [ed hlt,show fE (a[i]::a.drop (i+1))=a[i].map Prod.fst::fE (a.drop (i+1))from rfl];unfold szL;rw [SI];by_cases hq:left-(a[i].length:Int)<0
  ·rw [if_pos hq];unfold J3;rw [Hy (r:=Sum.inl ())]
   ·rfl
   ·rw [step];unfold Ga;rw [if_pos hq];rfl
  ·rw [if_neg hq];have e2:Ga left a[i].length=left-a[i].length:=by unfold Ga;rw [if_neg hq]
   have:=ih (i+1) (left-a[i].length) (by omega) (by omega) (by omega)
   unfold J3 at this ⊢;rw [QB (s':=(left-(a[i].length:Int),((i+1:Nat):Int))),this]
   ·rw [step,e2,if_neg hq]
def UY(l:List (List (Int×Int))):Prop:=l.length<9223372036854775808∧ ∀x∈l,x.length<9223372036854775808
instance (l:List (List (Int×Int))):Decidable (UY l):=by unfold UY;infer_instance
theorem mG(a:List (List (Int×Int)))(left:Int)(hw:UY a)(hl:0≤left∧left≤1048576):UA a left=some (Ga left (a.length+K5 (fE a))):=by
 have ht:=Ep (fE a);have ha:=hw.1;unfold UA;rw [I7 _ (by omega)]
 by_cases hq:left-(a.length:Int)<0
 ·rw [if_pos hq];unfold Ga;rw [if_pos (by omega)]
 ·rw [if_neg hq];have h0:=YZ a (by omega) hw.2 a.length 0 (left-a.length) (by omega) (by omega) (by omega)
  simp only [Gn,YC]at h0;rw [h0,Cz,A1v _ _ (by omega)]
  have e:Ga (left-a.length) (K5 (fE a))=Ga left (a.length+K5 (fE a)):=by unfold Ga;rw [show left- ↑a.length-K5 (fE a)=left-(↑a.length+K5 (fE a)) by omega]
  rw [e];by_cases h1:Ga left (a.length+K5 (fE a))= -1
  ·rw [if_pos h1,h1]
  ·rw [if_neg h1]
theorem mH(a:List (List (Int×Int)))(left:Int)(h0:UY a)(h1:0≤left∧left≤1048576):Y.call 31 [D.sl 78 (AQ (fun x=>D.sl 111 (Au .i64 .i64 x)) a),D.int .i64 left] []=some (D.int .i64 (Ga left (a.length+K5 (fE a))),[]):=bJ a left (mG a left h0 h1)
noncomputable def QO(Bd:List (List (Int×Int)))(Dt:AB)(BV:AB)(left:Int):Option (Int):= ck (UY Bd)<| ck (0≤left∧left≤1048576)<| if(Ga left (Bd.length+K5 (fE Bd)))<0 then some (-1) else ck (Dt.length<9223372036854775808)<| ck (0≤(Ga left (Bd.length+K5 (fE Bd)))∧(Ga left (Bd.length+K5 (fE Bd)))≤1048576)<| if(Ga (Ga left (Bd.length+K5 (fE Bd))) Dt.length)<0 then some (-1) else ck (BV.length<9223372036854775808)<| ck (0≤(Ga (Ga left (Bd.length+K5 (fE Bd))) Dt.length)∧(Ga (Ga left (Bd.length+K5 (fE Bd))) Dt.length)≤1048576)<| if(Ga (Ga (Ga left (Bd.length+K5 (fE Bd))) Dt.length) BV.length)<0 then some (-1) else some (Ga (Ga (Ga left (Bd.length+K5 (fE Bd))) Dt.length) BV.length)
def k8:SC:= .seq (.ops [oX 2 (.box 28 (tK 0)) 0,oX 4 (.assign (iK 0)) 3]) (.seq (.ops [oF 5 28 2 0,oL 6 25 5 25,oM 7 1 3,oC 8 31 [(tK 6),(tK 7)] [25,3] 3,oA 1 8 3]) (.seq (.seq (.ops [oM 9 1 3,oB 10 .lss 3 (tK 9) (iK 0) 3 4]) (.cond (tK 10) (.seq (.ops [oX 4 SL 3]) .ret) .skip)) (.seq (.ops [oF 11 28 2 1,oL 12 26 11 26,oM 13 1 3,oC 14 32 [(tK 12),(tK 13)] [26,3] 3,oA 1 14 3]) (.seq (.seq (.ops [oM 15 1 3,oB 16 .lss 3 (tK 15) (iK 0) 3 4]) (.cond (tK 16) (.seq (.ops [oX 4 SL 3]) .ret) .skip)) (.seq (.ops [oF 17 28 2 2,oL 18 26 17 26,oM 19 1 3,oC 20 32 [(tK 18),(tK 19)] [26,3] 3,oA 1 20 3]) (.seq (.seq (.ops [oM 21 1 3,oB 22 .lss 3 (tK 21) (iK 0) 3 4]) (.cond (tK 22) (.seq (.ops [oX 4 SL 3]) .ret) .skip)) (.seq (.ops [oM 23 1 3,oA 4 23 3]) .ret)))))))
theorem AHw:Tryz.f8.body.map (BX lends)=some k8:=by kernel_rfl
theorem ok8:Bj Tryz.f8 2=true:=by kernel_rfl
theorem c8{a l:List D}{r:D×List D}(h:Br Y.env k8 (fin Ap l.length [ResultVar.tmp 4] r) (entry a l))(ha:a.length=2):Y.call 8 a l=some r:=
 AZ (Y:=Y) rfl Tryz.func8 (ha▸ok8) AHw h
theorem XF(Bd:List (List (Int×Int)))(Dt:AB)(BV:AB)(left:Int){r:Int}(h:QO Bd Dt BV left=some r):Y.call 8 [D.agg [D.sl 78 (AQ (fun x=>D.sl 111 (Au .i64 .i64 x)) Bd),D.sl 3 (AQ (D.int .i64) Dt),D.sl 3 (AQ (D.int .i64) BV)],D.int .i64 left] []=some (D.int .i64 r,[]):=by
 refine c8 ?_ rfl;unfold k8;unfold QO at h;obtain⟨e1,e2,h⟩:=GX h;have c3:=mH Bd left e1 e2;rcases iS h with⟨e4,h⟩|⟨e4,h⟩
 ·obtain rfl:=Option.some.inj h
  simp (maxDischargeDepth:=9) only [↓AL,AO,↓reduceIte,Nat.reduceEqDiff,Nat.reduceLT,Nat.reduceAdd,Int.reduceNeg,c3,e4]
 ·obtain⟨e5,e6,h⟩:=GX h;have c7:=TL Dt (Ga left (Bd.length+K5 (fE Bd))) e5 e6;rcases iS h with⟨e8,h⟩|⟨e8,h⟩
  ·obtain rfl:=Option.some.inj h
   simp (maxDischargeDepth:=9) only [↓AL,AO,↓reduceIte,Nat.reduceEqDiff,Nat.reduceLT,Nat.reduceAdd,Int.reduceNeg,c3,e4,c7,e8]
  ·obtain⟨e9,e10,h⟩:=GX h;have c11:=TL BV (Ga (Ga left (Bd.length+K5 (fE Bd))) Dt.length) e9 e10;rcases iS h with⟨e12,h⟩|⟨e12,h⟩
   ·obtain rfl:=Option.some.inj h
    simp (maxDischargeDepth:=9) only [↓AL,AO,↓reduceIte,Nat.reduceEqDiff,Nat.reduceLT,Nat.reduceAdd,Int.reduceNeg,c3,e4,c7,e8,c11,e12]
   ·obtain rfl:=Option.some.inj h
    simp (maxDischargeDepth:=9) only [↓AL,AO,↓reduceIte,Nat.reduceEqDiff,Nat.reduceLT,Nat.reduceAdd,Int.reduceNeg,c3,e4,c7,e8,c11,e12]
def szW(left:Int)(a:List (List (Int×Int)))(b c:AB):Int:=
 if Ga left (a.length+K5 (fE a))<0 then-1 else if Ga (Ga left (a.length+K5 (fE a))) b.length<0 then-1 else Ga (Ga (Ga left (a.length+K5 (fE a))) b.length) c.length
theorem bK(a:List (List (Int×Int)))(b c:AB)(left:Int)(ha:UY a)(hb:b.length<9223372036854775808)(hc:c.length<9223372036854775808)(hl:0≤left∧left≤1048576):QO a b c left=some (szW left a b c):=by
 have ht:=Ep (fE a);unfold QO szW;rw [BL ha,BL hl];by_cases h1:Ga left (a.length+K5 (fE a))<0
 ·rw [if_pos h1,if_pos h1]
 ·rw [if_neg h1,if_neg h1]
  have b1:0≤Ga left (a.length+K5 (fE a))∧Ga left (a.length+K5 (fE a))≤1048576:=by
   rcases JX left (a.length+K5 (fE a))with c|⟨c,c'⟩<;>omega
  rw [BL hb,BL b1];by_cases h2:Ga (Ga left (a.length+K5 (fE a))) b.length<0
  ·rw [if_pos h2,if_pos h2]
  ·rw [if_neg h2,if_neg h2]
   have b2:0≤Ga (Ga left (a.length+K5 (fE a))) b.length∧Ga (Ga left (a.length+K5 (fE a))) b.length≤1048576:=by
    rcases JX (Ga left (a.length+K5 (fE a))) b.length with c|⟨c,c'⟩<;>omega
   rw [BL hc,BL b2];by_cases h3:Ga (Ga (Ga left (a.length+K5 (fE a))) b.length) c.length<0
   ·rw [if_pos h3];rcases JX (Ga (Ga left (a.length+K5 (fE a))) b.length) c.length with d|⟨d,d'⟩
    ·rw [d]
    ·omega
   ·rw [if_neg h3]
theorem bL(Bd:List (List (Int×Int)))(Dt:AB)(BV:AB)(left:Int)(h0:UY Bd)(h1:Dt.length<9223372036854775808)(h2:BV.length<9223372036854775808)(h3:0≤left∧left≤1048576):Y.call 8 [D.agg [D.sl 78 (AQ (fun x=>D.sl 111 (Au .i64 .i64 x)) Bd),D.sl 3 (AQ (D.int .i64) Dt),D.sl 3 (AQ (D.int .i64) BV)],D.int .i64 left] []=some (D.int .i64 (szW left Bd Dt BV),[]):=XF Bd Dt BV left (bK Bd Dt BV left h0 h1 h2 h3)
theorem A4X{a:List (List (Int×Int))}{b c:AB}{left:Int}(hl:left≤1048576)(h: ¬szW left a b c<0):a.length+K5 (fE a)+b.length+c.length≤1048576∧EX a∧szW left a b c≤left:=by
 have ht:=Ep (fE a)
 have key:(a.length:Int)+K5 (fE a)+b.length+c.length≤1048576∧szW left a b c≤left:=by
  unfold szW at h ⊢;rcases JX left (a.length+K5 (fE a))with d|⟨d,d'⟩
  ·rw [d]at h;simp at h
  ·rw [d,if_neg (by omega)]at h
   rw [d,if_neg (by omega)]
   rcases JX (left-(a.length+K5 (fE a))) b.length with e|⟨e,e'⟩
   ·rw [e]at h;simp at h
   ·rw [e,if_neg (by omega)]at h
    rw [e,if_neg (by omega)]
    rcases JX (left-(a.length+K5 (fE a))-b.length) c.length with g|⟨g,g'⟩
    ·rw [g]at h;simp at h
    ·rw [g];omega
 refine⟨key.1,⟨by omega,fun x hx=> ?_⟩,key.2⟩
 have:x.map Prod.fst∈fE a:=NA.2 ⟨x,hx,rfl⟩
 have:=xL this
 rw [SI]at this;omega
theorem A28{l:List (List (Int×Int))}(h:vC l):UY l:=⟨sZ h.1 (by decide),fun x hx=>sZ (h.2 x hx).1 (by decide)⟩
end Go.Proofs.YtiehjihckndgkaaGreat
