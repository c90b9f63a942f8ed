/- Copies, comparisons, sizes and marks of numbers in lists, as plain functions. Conditions: the lists are short. -/
import Derived.Test.YtiehjihckndgkaaGreatL6
import Derived.Test.YtiehjihckndgkaaGreatDt
namespace Go.Proofs.YtiehjihckndgkaaGreat
open Go Dv
set_option linter.unusedSimpArgs false
set_option linter.unusedVariables false
set_option maxRecDepth 100000
set_option maxHeartbeats 4000000
def Bv(l:AY):Prop:=l.length<1099511627776∧ ∀x∈l,x.length<1099511627776
theorem Bv.nil:Bv []:=⟨by decide,fun _ h=>by cases h⟩
theorem Bv.at{l:AY}(h:Bv l)(i:Nat)(hi:i<l.length):l[i].length<1099511627776:=h.2 _ (Nh hi)
instance (l:AY):Decidable (Bv l):=by unfold Bv;infer_instance
theorem Yx{α:Type}[Inhabited α](xs:List α)(i:Nat)(h:i<xs.length)(z:α):(xs.take i++List.replicate (xs.length-i) z).set i xs[i]=xs.take (i+1)++List.replicate (xs.length-(i+1)) z:=by
 have e:xs.length-i=(xs.length-(i+1))+1:=by omega
 rw [e,yI,List.set_append_right _ _ (by simp;omega),jh h]
 have:i-(xs.take i).length=0:=by simp;omega
 rw [this,List.set_cons_zero,OC];rfl
noncomputable def JS(a:AB)(out:AB)(i:Int):Option ((AB×Int)⊕(AB)):= if i<(a.length:Int)then ck (0≤i∧i.toNat<a.length)<| ck (0≤i∧i.toNat<out.length)<| some (Sum.inl ((out.set i.toNat (a.getD i.toNat default)),IntKind.i64.wrap (i+1))) else some (Sum.inr out)
noncomputable def QC(a:AB)(v:AB×Int):Option (AB):=Fb (fun v=>JS a v.1 v.2) v
noncomputable def Vn(a:AB):Option (AB):= ck (0≤(a.length:Int)∧(a.length:Int)<1099511627776)<| (QC a ((List.replicate a.length 0),0)).bind fun Aa=> some Aa
def l7:SC:= .seq (.seq (.ops [oM 8 4 3,oM 9 0 26,oN 10 9 26,oB 11 .lss 3 (tK 8) (tK 10) 3 4]) (.cond (tK 11) .skip (.exit 0))) (.seq (.block 1 (.ops [oM 14 3 26,oM 15 4 3,oM 16 0 26,oM 17 4 3,oI 18 26 16 17,oL 19 3 18 3,oI 20 26 14 15,oS 3 20 19])) (.ops [oM 12 4 3,oB 13 .add 3 (tK 12) (iK 1) 3 3,oA 4 13 3]))
def A1r:SC:= .loop l7
def k38:SC:= .seq (.ops [oX 2 KL 26]) (.seq (.ops [oM 5 0 26,oN 6 5 26,oX 7 (.makeSlice 26 (tK 6) (tK 6)) 26,oA 3 7 26]) (.seq (.seq (.ops [oX 4 (.assign (iK 0)) 3]) (.block 0 A1r)) (.seq (.ops [oM 21 3 26,oA 2 21 26]) .ret)))
theorem A9g:Tryz.f38.body.map (BX lends)=some k38:=by kernel_rfl
theorem AMT:Bj Tryz.f38 1=true:=by kernel_rfl
theorem c38{a l:List D}{r:D×List D}(h:Br Y.env k38 (fin Ap l.length [ResultVar.tmp 2] r) (entry a l))(ha:a.length=1):Y.call 38 a l=some r:=
 AZ (Y:=Y) rfl Tryz.func38 (ha▸AMT) A9g h
def JU(a:AB)(out:AB)(i:Int)(s:St):Prop:=s.v 0=D.sl 3 (AQ (D.int .i64) a)∧s.v 3=D.own 3 (AQ (D.int .i64) out)∧s.v 4=D.int .i64 i
def NP(a:AB)(r:AB)(ex:Ex)(s:St):Prop:=ex= .exit 0∧s.v 3=D.own 3 (AQ (D.int .i64) r)
theorem aQ(a:AB){v:AB×Int}{s:St}{r:AB}(h:QC a v=some r)(hM:JU a v.1 v.2 s):Br Y.env A1r (NP a r) s:=by
 unfold QC at h;refine BH (c:=l7) (fun v=>JS a v.1 v.2) (fun v s=>JU a v.1 v.2 s) (NP a) ?_ h hM;clear h hM s v r;intro v s o hM h;obtain⟨out,i⟩:=v;dsimp only at h hM;unfold JS at h;unfold JU at hM;obtain⟨m0,m1,m2⟩:=hM;unfold l7;rcases iS h with⟨e2,h⟩|⟨e2,h⟩
 ·obtain⟨e3,e4,h⟩:=GX h
  obtain rfl:=Option.some.inj h
  simp (maxDischargeDepth:=9) only [↓AL,AO,↓reduceIte,Nat.reduceEqDiff,Nat.reduceLT,m0,m1,m2,e2,e3.1,e3.2,e4.2,JU,En]
 ·obtain rfl:=Option.some.inj h
  simp (maxDischargeDepth:=9) only [↓AL,AO,↓reduceIte,Nat.reduceEqDiff,Nat.reduceLT,m0,m1,m2,e2,JU,NP,K3]
theorem gD(a:AB){r:AB}(h:Vn a=some r):Y.call 38 [D.sl 3 (AQ (D.int .i64) a)] []=some (D.own 3 (AQ (D.int .i64) r),[]):=by
 refine c38 ?_ rfl;unfold k38;unfold Vn at h;obtain⟨e1,h⟩:=ES h;obtain⟨Aa,hl3,h⟩:=Ak h;try dsimp only at h
 simp (maxDischargeDepth:=9) only [↓AL,AO,↓reduceIte,Nat.reduceEqDiff,Nat.reduceLT,Nat.reduceLeDiff,e1.1,e1.2];refine Aw (aQ a hl3 ?_) ?_
 ·simp (maxDischargeDepth:=9) only [BZ,Ei,↓reduceIte,Nat.reduceEqDiff,Nat.reduceLT,JU]
 ·intro ex3 s3 hX3;unfold NP at hX3;obtain⟨rfl,n3_0⟩:=hX3
  obtain rfl:=Option.some.inj h
  simp (maxDischargeDepth:=9) only [↓AL,AO,↓reduceIte,Nat.reduceEqDiff,Nat.reduceLT,n3_0]
theorem qw(a:AB)(h:a.length<1099511627776):Vn a=some a:=by
 have key:=Cf (fun v=>JS a v.1 v.2) (fun i=>(a.take i++List.replicate (a.length-i) 0,(i:Int))) a.length a ?_ ?_
 ·unfold Vn QC;rw [BL (by omega)]
  simp only [ZB,Ue,Nat.sub_zero,Gn]at key;rw [key];rfl
 ·intro i hi;simp only [JS];rw [if_pos (CL hi),BL (Ff hi),BL (Ff (by simp;omega)),Gr _ _ hi,EC,Yx a i hi 0,K4 i (by omega)]
 ·simp only [JS];rw [if_neg (Az _)];simp
theorem TJ(a:AB)(h0:a.length<1099511627776):Y.call 38 [D.sl 3 (AQ (D.int .i64) a)] []=some (D.own 3 (AQ (D.int .i64) a),[]):=gD a (qw a h0)
noncomputable def I8(a:AY)(out:AY)(i:Int):Option ((AY×Int)⊕(AY)):= if i<(a.length:Int)then ck (0≤i∧i.toNat<a.length)<| ck ((a.getD i.toNat default).length<1099511627776)<| ck (0≤i∧i.toNat<out.length)<| some (Sum.inl ((out.set i.toNat (a.getD i.toNat default)),IntKind.i64.wrap (i+1))) else some (Sum.inr out)
noncomputable def OW(a:AY)(v:AY×Int):Option (AY):=Fb (fun v=>I8 a v.1 v.2) v
noncomputable def U3(a:AY):Option (AY):= ck (0≤(a.length:Int)∧(a.length:Int)<1099511627776)<| (OW a ((List.replicate a.length ([]:AB)),0)).bind fun Aa=> some Aa
def l8:SC:= .seq (.seq (.ops [oM 8 4 3,oM 9 0 22,oN 10 9 22,oB 11 .lss 3 (tK 8) (tK 10) 3 4]) (.cond (tK 11) .skip (.exit 0))) (.seq (.block 1 (.ops [oM 14 3 22,oM 15 4 3,oM 16 0 22,oM 17 4 3,oI 18 22 16 17,oL 19 26 18 26,oC 20 38 [(tK 19)] [26] 26,oI 21 22 14 15,oS 26 21 20])) (.ops [oM 12 4 3,oB 13 .add 3 (tK 12) (iK 1) 3 3,oA 4 13 3]))
def A1s:SC:= .loop l8
def k13:SC:= .seq (.ops [oX 2 KL 22]) (.seq (.ops [oM 5 0 22,oN 6 5 22,oX 7 (.makeSlice 22 (tK 6) (tK 6)) 22,oA 3 7 22]) (.seq (.seq (.ops [oX 4 (.assign (iK 0)) 3]) (.block 0 A1s)) (.seq (.ops [oM 22 3 22,oA 2 22 22]) .ret)))
theorem A9h:Tryz.f13.body.map (BX lends)=some k13:=by kernel_rfl
theorem AMV:Bj Tryz.f13 1=true:=by kernel_rfl
theorem c13{a l:List D}{r:D×List D}(h:Br Y.env k13 (fin Ap l.length [ResultVar.tmp 2] r) (entry a l))(ha:a.length=1):Y.call 13 a l=some r:=
 AZ (Y:=Y) rfl Tryz.func13 (ha▸AMV) A9h h
def I9(a:AY)(out:AY)(i:Int)(s:St):Prop:=s.v 0=D.sl 26 (AQ Bw a)∧s.v 3=D.own 26 (AQ Qw out)∧s.v 4=D.int .i64 i
def MU(a:AY)(r:AY)(ex:Ex)(s:St):Prop:=ex= .exit 0∧s.v 3=D.own 26 (AQ Qw r)
theorem YP(a:AY){v:AY×Int}{s:St}{r:AY}(h:OW a v=some r)(hM:I9 a v.1 v.2 s):Br Y.env A1s (MU a r) s:=by
 unfold OW at h;refine BH (c:=l8) (fun v=>I8 a v.1 v.2) (fun v s=>I9 a v.1 v.2 s) (MU a) ?_ h hM;clear h hM s v r;intro v s o hM h;obtain⟨out,i⟩:=v;dsimp only at h hM;unfold I8 at h;unfold I9 at hM;obtain⟨m0,m1,m2⟩:=hM;unfold l8;rcases iS h with⟨e2,h⟩|⟨e2,h⟩
 ·obtain⟨e3,e4,h⟩:=GX h;have c5:=TJ (a.getD i.toNat default) e4;obtain⟨e6,h⟩:=ES h
  obtain rfl:=Option.some.inj h
  simp (maxDischargeDepth:=9) only [↓AL,AO,↓reduceIte,Nat.reduceEqDiff,Nat.reduceLT,Nat.reduceAdd,m0,m1,m2,e2,e3.1,e3.2,c5,e6.2,I9,En]
 ·obtain rfl:=Option.some.inj h
  simp (maxDischargeDepth:=9) only [↓AL,AO,↓reduceIte,Nat.reduceEqDiff,Nat.reduceLT,m0,m1,m2,e2,I9,MU,K3]
theorem aR(a:AY){r:AY}(h:U3 a=some r):Y.call 13 [D.sl 26 (AQ Bw a)] []=some (D.own 26 (AQ Qw r),[]):=by
 refine c13 ?_ rfl;unfold k13;unfold U3 at h;obtain⟨e1,h⟩:=ES h;obtain⟨Aa,hl3,h⟩:=Ak h;try dsimp only at h
 simp (maxDischargeDepth:=9) only [↓AL,AO,↓reduceIte,Nat.reduceEqDiff,Nat.reduceLT,Nat.reduceLeDiff,e1.1,e1.2];refine Aw (YP a hl3 ?_) ?_
 ·simp (maxDischargeDepth:=9) only [BZ,Ei,↓reduceIte,Nat.reduceEqDiff,Nat.reduceLT,I9]
 ·intro ex3 s3 hX3;unfold MU at hX3;obtain⟨rfl,n3_0⟩:=hX3
  obtain rfl:=Option.some.inj h
  simp (maxDischargeDepth:=9) only [↓AL,AO,↓reduceIte,Nat.reduceEqDiff,Nat.reduceLT,n3_0]
theorem l9(a:AY)(h:Bv a):U3 a=some a:=by
 have h1:=h.1;have key:=Cf (fun v=>I8 a v.1 v.2) (fun i=>(a.take i++List.replicate (a.length-i) [],(i:Int))) a.length a ?_ ?_
 ·unfold U3 OW;rw [BL (by omega)]
  simp only [ZB,Ue,Nat.sub_zero,Gn]at key;rw [key];rfl
 ·intro i hi;simp only [I8];rw [if_pos (CL hi),BL (Ff hi),BL (by rw [Gr _ _ hi];exact h.at i hi),BL (Ff (by simp;omega)),Gr _ _ hi,EC,Yx a i hi [],K4 i (by omega)]
 ·simp only [I8];rw [if_neg (Az _)];simp
theorem Vo(a:AY)(h0:Bv a):Y.call 13 [D.sl 26 (AQ Bw a)] []=some (D.own 26 (AQ Qw a),[]):=aR a (l9 a h0)
noncomputable def JV(a:AB)(b:AB)(i:Int):Option ((Int)⊕(Unit⊕Unit)):= if i<(a.length:Int)then ck (0≤i∧i.toNat<a.length)<| ck (0≤i∧i.toNat<b.length)<| if(a.getD i.toNat default)=(b.getD i.toNat default)then some (Sum.inl (IntKind.i64.wrap (i+1))) else some (Sum.inr (Sum.inl ())) else some (Sum.inr (Sum.inr ()))
noncomputable def QD(a:AB)(b:AB)(v:Int):Option (Unit⊕Unit):=Fb (fun v=>JV a b v) v
noncomputable def Vq(a:AB)(b:AB):Option (Bool):=
 if(a.length:Int)=(b.length:Int)then
  (QD a b 0).bind fun Aa=>
  match Aa with
  | .inl q1000_=>
   some false
  | .inr q1000_=>
   some true
 else
  some false
abbrev qd4:List Nat:=[17,18,19,20,21,22,23,24,25]
def lC:SC:= .seq (.seq (.ops [oM 11 5 3,oM 12 0 26,oN 13 12 26,oB 14 .lss 3 (tK 11) (tK 13) 3 4]) (.cond (tK 14) .skip (.exit 0))) (.seq (.block 1 (.seq (.draws [(⟨[17,0,0],qd4,[17]⟩,oM 17 0 26),(⟨[18,5,5],qd4,[18]⟩,oM 18 5 3),(⟨[19,17,18,0,5],qd4,[19]⟩,oI 19 26 17 18),(⟨[20,19,0],qd4,[20]⟩,oL 20 3 19 3),(⟨[21,1,1],qd4,[21]⟩,oM 21 1 26),(⟨[22,5,5],qd4,[22]⟩,oM 22 5 3),(⟨[23,21,22,1,5],qd4,[23]⟩,oI 23 26 21 22),(⟨[24,23,1],qd4,[24]⟩,oL 24 3 23 3),(⟨[25,20,24,0,1],qd4,[25]⟩,oB 25 .neq 3 (tK 20) (tK 24) 3 4)]) (.cond (tK 25) (.seq (.ops [oX 4 CY 4]) .ret) .skip))) (.ops [oM 15 5 3,oB 16 .add 3 (tK 15) (iK 1) 3 3,oA 5 16 3]))
def A1t:SC:= .loop lC
def k26:SC:= .seq (.ops [oX 4 CY 4]) (.seq (.seq (.ops [oM 6 0 26,oN 7 6 26,oM 8 1 26,oN 9 8 26,oB 10 .neq 3 (tK 7) (tK 9) 3 4]) (.cond (tK 10) (.seq (.ops [oX 4 CY 4]) .ret) .skip)) (.seq (.seq (.ops [oX 5 (.assign (iK 0)) 3]) (.block 0 A1t)) (.seq (.ops [oX 4 (.assign F7) 4]) .ret)))
theorem A9i:Tryz.f26.body.map (BX lends)=some k26:=by kernel_rfl
theorem AMX:Bj Tryz.f26 2=true:=by kernel_rfl
theorem c26{a l:List D}{r:D×List D}(h:Br Y.env k26 (fin Ap l.length [ResultVar.tmp 4] r) (entry a l))(ha:a.length=2):Y.call 26 a l=some r:=
 AZ (Y:=Y) rfl Tryz.func26 (ha▸AMX) A9i h
def HZ(a:AB)(b:AB)(i:Int)(s:St):Prop:=s.v 0=D.sl 3 (AQ (D.int .i64) a)∧s.v 1=D.sl 3 (AQ (D.int .i64) b)∧s.v 5=D.int .i64 i
def JW(a:AB)(b:AB)(r:Unit⊕Unit)(ex:Ex)(s:St):Prop:=match r with
 | .inl q=>ex= .ret∧s.v 4=D.bool false
 | .inr q=>ex= .exit 0
theorem aS(a:AB)(b:AB){v:Int}{s:St}{r:Unit⊕Unit}(h:QD a b v=some r)(hM:HZ a b v s):Br Y.env A1t (JW a b r) s:=by
 unfold QD at h;refine BH (c:=lC) (fun v=>JV a b v) (fun v s=>HZ a b v s) (JW a b) ?_ h hM;clear h hM s v r;intro i s o hM h;unfold JV at h;unfold HZ at hM;obtain⟨m0,m1,m2⟩:=hM;unfold lC;rcases iS h with⟨e2,h⟩|⟨e2,h⟩
 ·obtain⟨e3,e4,h⟩:=GX h;rcases iS h with⟨e5,h⟩|⟨e5,h⟩
  ·obtain rfl:=Option.some.inj h
   simp (maxDischargeDepth:=9) only [↓AL,AO,↓reduceIte,Nat.reduceEqDiff,Nat.reduceLT,m0,m1,m2,e2,e3.1,e3.2,e4.2,decide_eq_true e5,HZ,En]
  ·obtain rfl:=Option.some.inj h
   simp (maxDischargeDepth:=9) only [↓AL,AO,↓reduceIte,Nat.reduceEqDiff,Nat.reduceLT,m0,m1,m2,e2,e3.1,e3.2,e4.2,e5,HZ,JW,Qu]
 ·obtain rfl:=Option.some.inj h
  simp (maxDischargeDepth:=9) only [↓AL,AO,↓reduceIte,Nat.reduceEqDiff,Nat.reduceLT,m0,m2,e2,HZ,JW,K3]
theorem gF(a:AB)(b:AB){r:Bool}(h:Vq a b=some r):Y.call 26 [D.sl 3 (AQ (D.int .i64) a),D.sl 3 (AQ (D.int .i64) b)] []=some (D.bool r,[]):=by
 refine c26 ?_ rfl;unfold k26;unfold Vq at h;rcases iS h with⟨e1,h⟩|⟨e1,h⟩
 ·obtain⟨Aa,hl3,h⟩:=Ak h;try dsimp only at h
  simp (maxDischargeDepth:=9) only [↓AL,AO,↓reduceIte,Nat.reduceEqDiff,Nat.reduceLT,decide_eq_true e1];refine Aw (aS a b hl3 ?_) ?_
  ·simp (maxDischargeDepth:=9) only [BZ,Ei,↓reduceIte,Nat.reduceEqDiff,Nat.reduceLT,HZ]
  ·intro ex3 s3 hX3;rcases Aa with q1000_|q1000_
   ·unfold JW at hX3;dsimp only at hX3 h;obtain⟨rfl,n3_0⟩:=hX3
    obtain rfl:=Option.some.inj h
    simp (maxDischargeDepth:=9) only [↓AL,AO,↓reduceIte,n3_0]
   ·unfold JW at hX3;dsimp only at hX3 h
    obtain rfl:=hX3
    obtain rfl:=Option.some.inj h
    simp (maxDischargeDepth:=9) only [↓AL,AO,↓reduceIte,Nat.reduceEqDiff,Nat.reduceLT]
 ·obtain rfl:=Option.some.inj h
  simp (maxDischargeDepth:=9) only [↓AL,AO,↓reduceIte,Nat.reduceEqDiff,Nat.reduceLT,e1]
theorem qx(a b:AB)(ha:a.length<1099511627776):Vq a b=some (decide (a=b)):=by
 unfold Vq QD;by_cases hl:a.length=b.length
 ·rw [if_pos (by omega)]
  have key:=Fe (fun v=>JV a b v) (fun i=>(i:Int)) a.length (fun i=>decide (a.getD i default=b.getD i default)) (.inl ()) (.inr ()) ?_ ?_
  ·simp only [Gn]at key;rw [key,TG a b hl];by_cases he:a=b<;>simp [he]
  ·intro i hi;simp only [JV];rw [if_pos (CL hi),BL (Ff hi),BL (Ff (by omega)),EC,K4 i (by omega)]<;>simp only [decide_eq_true_eq]
  ·simp only [JV];rw [if_neg (Az _)]
 ·rw [if_neg (by omega)]
  have: ¬a=b:=fun e=>hl (by rw [e])
  simp [this]
theorem TK(a:AB)(b:AB)(h0:a.length<1099511627776):Y.call 26 [D.sl 3 (AQ (D.int .i64) a),D.sl 3 (AQ (D.int .i64) b)] []=some (D.bool (decide (a=b)),[]):=gF a b (qx a b h0)
noncomputable def IA(a:AY)(b:AY)(i:Int):Option ((Int)⊕(Unit⊕Unit)):= if i<(a.length:Int)then ck (0≤i∧i.toNat<a.length)<| ck (0≤i∧i.toNat<b.length)<| ck ((a.getD i.toNat default).length<1099511627776)<| if(decide ((a.getD i.toNat default)=(b.getD i.toNat default)))=true then some (Sum.inl (IntKind.i64.wrap (i+1))) else some (Sum.inr (Sum.inl ())) else some (Sum.inr (Sum.inr ()))
noncomputable def OX(a:AY)(b:AY)(v:Int):Option (Unit⊕Unit):=Fb (fun v=>IA a b v) v
noncomputable def U4(a:AY)(b:AY):Option (Bool):=
 if(a.length:Int)=(b.length:Int)then
  (OX a b 0).bind fun Aa=>
  match Aa with
  | .inl q1000_=>
   some false
  | .inr q1000_=>
   some true
 else
  some false
abbrev qd5:List Nat:=[17,18,19,20,21,22,23,24,25,26]
def lD:SC:= .seq (.seq (.ops [oM 11 5 3,oM 12 0 22,oN 13 12 22,oB 14 .lss 3 (tK 11) (tK 13) 3 4]) (.cond (tK 14) .skip (.exit 0))) (.seq (.block 1 (.seq (.draws [(⟨[17,0,0],qd5,[17]⟩,oM 17 0 22),(⟨[18,5,5],qd5,[18]⟩,oM 18 5 3),(⟨[19,17,18,0,5],qd5,[19]⟩,oI 19 22 17 18),(⟨[20,19,0],qd5,[20]⟩,oL 20 26 19 26),(⟨[21,1,1],qd5,[21]⟩,oM 21 1 22),(⟨[22,5,5],qd5,[22]⟩,oM 22 5 3),(⟨[23,21,22,1,5],qd5,[23]⟩,oI 23 22 21 22),(⟨[24,23,1],qd5,[24]⟩,oL 24 26 23 26),(⟨[25,20,24,0,1],qd5,[25]⟩,oC 25 26 [(tK 20),(tK 24)] [26,26] 4),(⟨[26,25,25],qd5,[26]⟩,oX 26 (.unOp .not 4 (tK 25)) 4)]) (.cond (tK 26) (.seq (.ops [oX 4 CY 4]) .ret) .skip))) (.ops [oM 15 5 3,oB 16 .add 3 (tK 15) (iK 1) 3 3,oA 5 16 3]))
def A1u:SC:= .loop lD
def k15:SC:= .seq (.ops [oX 4 CY 4]) (.seq (.seq (.ops [oM 6 0 22,oN 7 6 22,oM 8 1 22,oN 9 8 22,oB 10 .neq 3 (tK 7) (tK 9) 3 4]) (.cond (tK 10) (.seq (.ops [oX 4 CY 4]) .ret) .skip)) (.seq (.seq (.ops [oX 5 (.assign (iK 0)) 3]) (.block 0 A1u)) (.seq (.ops [oX 4 (.assign F7) 4]) .ret)))
theorem A9j:Tryz.f15.body.map (BX lends)=some k15:=by kernel_rfl
theorem AMa:Bj Tryz.f15 2=true:=by kernel_rfl
theorem vJ{a l:List D}{r:D×List D}(h:Br Y.env k15 (fin Ap l.length [ResultVar.tmp 4] r) (entry a l))(ha:a.length=2):Y.call 15 a l=some r:=
 AZ (Y:=Y) rfl Tryz.func15 (ha▸AMa) A9j h
def GA(a:AY)(b:AY)(i:Int)(s:St):Prop:=s.v 0=D.sl 26 (AQ Bw a)∧s.v 1=D.sl 26 (AQ Bw b)∧s.v 5=D.int .i64 i
def IB(a:AY)(b:AY)(r:Unit⊕Unit)(ex:Ex)(s:St):Prop:=match r with
 | .inl q=>ex= .ret∧s.v 4=D.bool false
 | .inr q=>ex= .exit 0
theorem YQ(a:AY)(b:AY){v:Int}{s:St}{r:Unit⊕Unit}(h:OX a b v=some r)(hM:GA a b v s):Br Y.env A1u (IB a b r) s:=by
 unfold OX at h;refine BH (c:=lD) (fun v=>IA a b v) (fun v s=>GA a b v s) (IB a b) ?_ h hM;clear h hM s v r;intro i s o hM h;unfold IA at h;unfold GA at hM;obtain⟨m0,m1,m2⟩:=hM;unfold lD;rcases iS h with⟨e2,h⟩|⟨e2,h⟩
 ·obtain⟨e3,e4,e5,h⟩:=Q3 h;have c6:=TK (a.getD i.toNat default) (b.getD i.toNat default) e5;rcases iS h with⟨e7,h⟩|⟨e7,h⟩
  ·obtain rfl:=Option.some.inj h
   simp (maxDischargeDepth:=9) only [↓AL,AO,↓reduceIte,Nat.reduceEqDiff,Nat.reduceLT,Nat.reduceAdd,m0,m1,m2,e2,e3.1,e3.2,e4.2,c6,e7,GA,En]
  ·have e7f:(decide ((a.getD i.toNat default)=(b.getD i.toNat default)))=false:=Jw.mpr e7
   obtain rfl:=Option.some.inj h
   simp (maxDischargeDepth:=9) only [↓AL,AO,↓reduceIte,Nat.reduceEqDiff,Nat.reduceLT,Nat.reduceAdd,m0,m1,m2,e2,e3.1,e3.2,e4.2,c6,e7f,GA,IB,Qu]
 ·obtain rfl:=Option.some.inj h
  simp (maxDischargeDepth:=9) only [↓AL,AO,↓reduceIte,Nat.reduceEqDiff,Nat.reduceLT,m0,m2,e2,GA,IB,K3]
theorem aT(a:AY)(b:AY){r:Bool}(h:U4 a b=some r):Y.call 15 [D.sl 26 (AQ Bw a),D.sl 26 (AQ Bw b)] []=some (D.bool r,[]):=by
 refine vJ ?_ rfl;unfold k15;unfold U4 at h;rcases iS h with⟨e1,h⟩|⟨e1,h⟩
 ·obtain⟨Aa,hl3,h⟩:=Ak h;try dsimp only at h
  simp (maxDischargeDepth:=9) only [↓AL,AO,↓reduceIte,Nat.reduceEqDiff,Nat.reduceLT,decide_eq_true e1];refine Aw (YQ a b hl3 ?_) ?_
  ·simp (maxDischargeDepth:=9) only [BZ,Ei,↓reduceIte,Nat.reduceEqDiff,Nat.reduceLT,GA]
  ·intro ex3 s3 hX3;rcases Aa with q1000_|q1000_
   ·unfold IB at hX3;dsimp only at hX3 h;obtain⟨rfl,n3_0⟩:=hX3
    obtain rfl:=Option.some.inj h
    simp (maxDischargeDepth:=9) only [↓AL,AO,↓reduceIte,n3_0]
   ·unfold IB at hX3;dsimp only at hX3 h
    obtain rfl:=hX3
    obtain rfl:=Option.some.inj h
    simp (maxDischargeDepth:=9) only [↓AL,AO,↓reduceIte,Nat.reduceEqDiff,Nat.reduceLT]
 ·obtain rfl:=Option.some.inj h
  simp (maxDischargeDepth:=9) only [↓AL,AO,↓reduceIte,Nat.reduceEqDiff,Nat.reduceLT,e1]
theorem lF(a b:AY)(ha:Bv a):U4 a b=some (decide (a=b)):=by
 have h1:=ha.1;unfold U4 OX;by_cases hl:a.length=b.length
 ·rw [if_pos (by omega)]
  have key:=Fe (fun v=>IA a b v) (fun i=>(i:Int)) a.length (fun i=>decide (a.getD i default=b.getD i default)) (.inl ()) (.inr ()) ?_ ?_
  ·simp only [Gn]at key;rw [key,TG a b hl];by_cases he:a=b<;>simp [he]
  ·intro i hi;simp only [IA];rw [if_pos (CL hi),BL (Ff hi),BL (Ff (by omega)),BL (by rw [Gr _ _ hi];exact ha.at i hi),EC,K4 i (by omega)]<;>simp only [decide_eq_true_eq]
  ·simp only [IA];rw [if_neg (Az _)]
 ·rw [if_neg (by omega)]
  have: ¬a=b:=fun e=>hl (by rw [e])
  simp [this]
theorem Vr(a:AY)(b:AY)(h0:Bv a):Y.call 15 [D.sl 26 (AQ Bw a),D.sl 26 (AQ Bw b)] []=some (D.bool (decide (a=b)),[]):=aT a b (lF a b h0)
def Ga(left n:Int):Int:=if left-n<0 then-1 else left-n
theorem JX(left n:Int):Ga left n= -1∨(Ga left n=left-n∧0≤left-n):=by unfold Ga;split<;>omega
def K5(l:AY):Int:=(l.map fun xs=>(xs.length:Int)).sum
theorem xK:K5 []=0:=rfl
theorem Vs(x:AB)(l:AY):K5 (x::l)=x.length+K5 l:=rfl
theorem Ep(l:AY):0≤K5 l:=by
 induction l with
 |nil=>rw [xK];omega
 |cons x l ih=>rw [Vs];omega
theorem xL{l:AY}{x:AB}(h:x∈l):(x.length:Int)≤K5 l:=by
 induction l with
 |nil=>cases h
 |cons y l ih=>
  rw [Vs];have:=Ep l
  rcases SK.1 h with rfl|h
  ·omega
  ·have:=ih h;omega
theorem jL{l:AY}(h:l.length+K5 l<1099511627776):Bv l:=by
 have:=Ep l
 exact⟨by omega,fun x hx=>by have:=xL hx;omega⟩
noncomputable def Vt(a:AB)(left:Int):Option (Int):= if(IntKind.i64.wrap (left-(a.length:Int)))<0 then some (-1) else some (IntKind.i64.wrap (left-(a.length:Int)))
def k32:SC:= .seq (.ops [oX 4 (.assign (iK 0)) 3]) (.seq (.ops [oM 5 1 3,oM 6 0 26,oN 7 6 26,oB 8 .sub 3 (tK 5) (tK 7) 3 3,oA 1 8 3]) (.seq (.seq (.ops [oM 9 1 3,oB 10 .lss 3 (tK 9) (iK 0) 3 4]) (.cond (tK 10) (.seq (.ops [oX 4 SL 3]) .ret) .skip)) (.seq (.ops [oM 11 1 3,oA 4 11 3]) .ret)))
theorem A9k:Tryz.f32.body.map (BX lends)=some k32:=by kernel_rfl
theorem AMc:Bj Tryz.f32 2=true:=by kernel_rfl
theorem c32{a l:List D}{r:D×List D}(h:Br Y.env k32 (fin Ap l.length [ResultVar.tmp 4] r) (entry a l))(ha:a.length=2):Y.call 32 a l=some r:=
 AZ (Y:=Y) rfl Tryz.func32 (ha▸AMc) A9k h
theorem gG(a:AB)(left:Int){r:Int}(h:Vt a left=some r):Y.call 32 [D.sl 3 (AQ (D.int .i64) a),D.int .i64 left] []=some (D.int .i64 r,[]):=by
 refine c32 ?_ rfl;unfold k32;unfold Vt at h;rcases iS h with⟨e1,h⟩|⟨e1,h⟩
 ·obtain rfl:=Option.some.inj h
  simp (maxDischargeDepth:=9) only [↓AL,AO,↓reduceIte,Nat.reduceEqDiff,Nat.reduceLT,Int.reduceNeg,e1]
 ·obtain rfl:=Option.some.inj h
  simp (maxDischargeDepth:=9) only [↓AL,AO,↓reduceIte,Nat.reduceEqDiff,Nat.reduceLT,Int.reduceNeg,e1]
theorem qy(a:AB)(left:Int)(ha:a.length<9223372036854775808)(hl:0≤left∧left≤1048576):Vt a left=some (Ga left a.length):=by
 unfold Vt Ga;rw [I7 _ (by omega)]
 split<;>rfl
theorem TL(a:AB)(left:Int)(h0:a.length<9223372036854775808)(h1:0≤left∧left≤1048576):Y.call 32 [D.sl 3 (AQ (D.int .i64) a),D.int .i64 left] []=some (D.int .i64 (Ga left a.length),[]):=gG a left (qy a left h0 h1)
noncomputable def IC(a:AY)(left1:Int)(i:Int):Option ((Int×Int)⊕(Unit⊕Int)):= if i<(a.length:Int)then ck (0≤i∧i.toNat<a.length)<| ck ((a.getD i.toNat default).length<9223372036854775808)<| ck (0≤left1∧left1≤1048576)<| if(Ga left1 (a.getD i.toNat default).length)<0 then some (Sum.inr (Sum.inl ())) else some (Sum.inl ((Ga left1 (a.getD i.toNat default).length),IntKind.i64.wrap (i+1))) else some (Sum.inr (Sum.inr left1))
noncomputable def Io(a:AY)(v:Int×Int):Option (Unit⊕Int):=Fb (fun v=>IC a v.1 v.2) v
noncomputable def Qx(a:AY)(left:Int):Option (Int):=
 if(IntKind.i64.wrap (left-(a.length:Int)))<0 then
  some (-1)
 else
  (Io a (IntKind.i64.wrap (left-(a.length:Int)),0)).bind fun Aa=>
  match Aa with
  | .inl q1000_=>
   some (-1)
  | .inr q1000_=>
   some q1000_
def vK:SC:= .seq (.seq (.ops [oM 12 5 3,oM 13 0 22,oN 14 13 22,oB 15 .lss 3 (tK 12) (tK 14) 3 4]) (.cond (tK 15) .skip (.exit 0))) (.seq (.block 1 (.seq (.ops [oM 18 0 22,oM 19 5 3,oI 20 22 18 19,oL 21 26 20 26,oM 22 1 3,oC 23 32 [(tK 21),(tK 22)] [26,3] 3,oA 1 23 3]) (.seq (.ops [oM 24 1 3,oB 25 .lss 3 (tK 24) (iK 0) 3 4]) (.cond (tK 25) (.seq (.ops [oX 4 SL 3]) .ret) .skip)))) (.ops [oM 16 5 3,oB 17 .add 3 (tK 16) (iK 1) 3 3,oA 5 17 3]))
def A7z:SC:= .loop vK
def k9:SC:= .seq (.ops [oX 4 (.assign (iK 0)) 3]) (.seq (.ops [oM 6 1 3,oM 7 0 22,oN 8 7 22,oB 9 .sub 3 (tK 6) (tK 8) 3 3,oA 1 9 3]) (.seq (.seq (.ops [oM 10 1 3,oB 11 .lss 3 (tK 10) (iK 0) 3 4]) (.cond (tK 11) (.seq (.ops [oX 4 SL 3]) .ret) .skip)) (.seq (.seq (.ops [oX 5 (.assign (iK 0)) 3]) (.block 0 A7z)) (.seq (.ops [oM 26 1 3,oA 4 26 3]) .ret))))
theorem AHc:Tryz.f9.body.map (BX lends)=some k9:=by kernel_rfl
theorem ok9:Bj Tryz.f9 2=true:=by kernel_rfl
theorem c9{a l:List D}{r:D×List D}(h:Br Y.env k9 (fin Ap l.length [ResultVar.tmp 4] r) (entry a l))(ha:a.length=2):Y.call 9 a l=some r:=
 AZ (Y:=Y) rfl Tryz.func9 (ha▸ok9) AHc h
def GD(a:AY)(left1:Int)(i:Int)(s:St):Prop:=s.v 0=D.sl 26 (AQ Bw a)∧s.v 1=D.int .i64 left1∧s.v 5=D.int .i64 i
def IE(a:AY)(r:Unit⊕Int)(ex:Ex)(s:St):Prop:=match r with
 | .inl q=>ex= .ret∧s.v 4=D.int .i64 (-1)
 | .inr q=>ex= .exit 0∧s.v 1=D.int .i64 q
theorem YR(a:AY){v:Int×Int}{s:St}{r:Unit⊕Int}(h:Io a v=some r)(hM:GD a v.1 v.2 s):Br Y.env A7z (IE a r) s:=by
 unfold Io at h;refine BH (c:=vK) (fun v=>IC a v.1 v.2) (fun v s=>GD a v.1 v.2 s) (IE a) ?_ h hM;clear h hM s v r;intro v s o hM h;obtain⟨left1,i⟩:=v;dsimp only at h hM;unfold IC at h;unfold GD at hM;obtain⟨m0,m1,m2⟩:=hM;unfold vK;rcases iS h with⟨e2,h⟩|⟨e2,h⟩
 ·obtain⟨e3,e4,e5,h⟩:=Q3 h;have c6:=TL (a.getD i.toNat default) left1 e4 e5;rcases iS h with⟨e7,h⟩|⟨e7,h⟩
  ·obtain rfl:=Option.some.inj h
   simp (maxDischargeDepth:=9) only [↓AL,AO,↓reduceIte,Nat.reduceEqDiff,Nat.reduceLT,Nat.reduceAdd,Int.reduceNeg,m0,m1,m2,e2,e3.1,e3.2,c6,e7,GD,IE,Qu]
  ·obtain rfl:=Option.some.inj h
   simp (maxDischargeDepth:=9) only [↓AL,AO,↓reduceIte,Nat.reduceEqDiff,Nat.reduceLT,Nat.reduceAdd,Int.reduceNeg,m0,m1,m2,e2,e3.1,e3.2,c6,e7,GD,En]
 ·obtain rfl:=Option.some.inj h
  simp (maxDischargeDepth:=9) only [↓AL,AO,↓reduceIte,Nat.reduceEqDiff,Nat.reduceLT,Int.reduceNeg,m0,m1,m2,e2,GD,IE,K3]
theorem aU(a:AY)(left:Int){r:Int}(h:Qx a left=some r):Y.call 9 [D.sl 26 (AQ Bw a),D.int .i64 left] []=some (D.int .i64 r,[]):=by
 refine c9 ?_ rfl;unfold k9;unfold Qx at h;rcases iS h with⟨e1,h⟩|⟨e1,h⟩
 ·obtain rfl:=Option.some.inj h
  simp (maxDischargeDepth:=9) only [↓AL,AO,↓reduceIte,Nat.reduceEqDiff,Nat.reduceLT,Int.reduceNeg,e1]
 ·obtain⟨Aa,hl3,h⟩:=Ak h;try dsimp only at h
  simp (maxDischargeDepth:=9) only [↓AL,AO,↓reduceIte,Nat.reduceEqDiff,Nat.reduceLT,Int.reduceNeg,e1];refine Aw (YR a hl3 ?_) ?_
  ·simp (maxDischargeDepth:=9) only [BZ,Ei,↓reduceIte,Nat.reduceEqDiff,Nat.reduceLT,GD]
  ·intro ex3 s3 hX3;rcases Aa with q1000_|q1000_
   ·unfold IE at hX3;dsimp only at hX3 h;obtain⟨rfl,n3_0⟩:=hX3
    obtain rfl:=Option.some.inj h
    simp (maxDischargeDepth:=9) only [↓AL,AO,↓reduceIte,Int.reduceNeg,n3_0]
   ·unfold IE at hX3;dsimp only at hX3 h;obtain⟨rfl,n3_0⟩:=hX3
    obtain rfl:=Option.some.inj h
    simp (maxDischargeDepth:=9) only [↓AL,AO,↓reduceIte,Nat.reduceEqDiff,Nat.reduceLT,n3_0]
def szL:Int→AY→Int
 |left,[]=>left
 |left,x::l=>if left-x.length<0 then-1 else szL (left-x.length) l
theorem A1v(l:AY): ∀(left:Int),0≤left→szL left l=Ga left (K5 l):=by
 induction l with
 |nil=>intro left h;unfold szL Ga;rw [xK,if_neg (by omega)];omega
 |cons x l ih=>
  intro left h;have:=Ep l
  unfold szL;by_cases hq:left-x.length<0
  ·rw [if_pos hq];unfold Ga;rw [Vs,if_pos (by omega)]
  ·rw [if_neg hq,ih _ (by omega)]
   unfold Ga;rw [Vs];by_cases hr:left-x.length-K5 l<0
   ·rw [if_pos hr,if_pos (by omega)]
   ·rw [if_neg hr,if_neg (by omega)];omega
theorem YS(a:AY)(ha:a.length<4611686018427387904)(hx: ∀x∈a,x.length<9223372036854775808): ∀(n i:Nat) (left:Int),n=a.length-i→i≤a.length→0≤left∧left≤1048576→
  Io a (left,(i:Int))=some (if szL left (a.drop i)= -1 then .inl ()else .inr (szL left (a.drop i))):=by
 intro n
 induction n with
 |zero=>
  intro i left hn hi hl;have e:i=a.length:=by omega
  subst e;unfold Io;rw [Hy (r:=Sum.inr left)]
  ·rw [List.drop_length];unfold szL;rw [if_neg (by omega)]
  ·simp only [IC];rw [if_neg (Az _)]
 |succ n ih=>
  intro i left hn hi hl;have hlt:i<a.length:=by omega
  have hm:a[i]∈a:=Nh hlt;have hxm:=hx _ hm
  have step:IC a left i=if Ga left a[i].length<0 then some (Sum.inr (Sum.inl ()))else some (Sum.inl (Ga left a[i].length,((i+1:Nat):Int))):=by
   unfold IC;rw [if_pos (CL hlt),BL (Ff hlt),BL (by rw [Gr _ _ hlt];exact hxm),BL hl,Gr _ _ hlt,K4 i (by omega)]
  rw [ed hlt];unfold szL;by_cases hq:left-(a[i].length:Int)<0
  ·rw [if_pos hq];unfold Io;rw [Hy (r:=Sum.inl ())]
   ·rfl
   ·rw [step];unfold Ga;rw [if_pos hq];rfl
  ·rw [if_neg hq];have e2:Ga left a[i].length=left-a[i].length:=by unfold Ga;rw [if_neg hq]
   have:=ih (i+1) (left-a[i].length) (by omega) (by omega) (by omega)
   unfold Io at this ⊢;rw [QB (s':=(left-(a[i].length:Int),((i+1:Nat):Int))),this]
   ·rw [step,e2,if_neg hq]
theorem gH(a:AY)(left:Int)(ha:a.length<9223372036854775808)(hx: ∀x∈a,x.length<9223372036854775808)(hl:0≤left∧left≤1048576):Qx a left=some (Ga left (a.length+K5 a)):=by
 have ht:=Ep a;unfold Qx;rw [I7 _ (by omega)]
 by_cases hq:left-(a.length:Int)<0
 ·rw [if_pos hq];unfold Ga;rw [if_pos (by omega)]
 ·rw [if_neg hq];have h0:=YS a (by omega) hx a.length 0 (left-a.length) (by omega) (by omega) (by omega)
  simp only [Gn,YC]at h0;rw [h0,Cz,A1v _ _ (by omega)]
  have e:Ga (left-a.length) (K5 a)=Ga left (a.length+K5 a):=by unfold Ga;rw [show left- ↑a.length-K5 a=left-(↑a.length+K5 a) by omega]
  rw [e];by_cases h1:Ga left (a.length+K5 a)= -1
  ·rw [if_pos h1,h1]
  ·rw [if_neg h1]
theorem vL{α:Type}(a b:List α)(x:α):(a.length:Int)<((a++x::b).length:Int):=by rw [Nf,Lb];omega
theorem vM{α:Type}(a b:List α)(x:α):0≤(a.length:Int)∧(a.length:Int).toNat<(a++x::b).length:=by rw [Nf,Lb];omega
theorem xM{α:Type}(a:List α): ¬(a.length:Int)<((a++[]).length:Int):=by rw [VD];omega
def Um(l:AY):Prop:=l.length<9223372036854775808∧ ∀x∈l,x.length<9223372036854775808
instance (l:AY):Decidable (Um l):=by unfold Um;infer_instance
theorem lG(a:AY)(left:Int)(hw:Um a)(hl:0≤left∧left≤1048576):Qx a left=some (Ga left (a.length+K5 a)):=gH a left hw.1 hw.2 hl
theorem Vu(a:AY)(left:Int)(h0:Um a)(h1:0≤left∧left≤1048576):Y.call 9 [D.sl 26 (AQ Bw a),D.int .i64 left] []=some (D.int .i64 (Ga left (a.length+K5 a)),[]):=aU a left (lG a left h0 h1)
def upto(k:Int)(n:Nat):AB:=(List.range n).map fun(i:Nat)=>k+i
def A4B:SC:= .seq (.seq (.ops [oM 6 5 3,oM 7 0 26,oN 8 7 26,oB 9 .lss 3 (tK 6) (tK 8) 3 4]) (.cond (tK 9) .skip (.exit 0))) (.seq (.block 1 (.seq (.ops [oM 12 0 26,oM 13 5 3,oM 14 1 3,oI 15 26 12 13,oS 3 15 14]) (.ops [oM 16 1 3,oB 17 .add 3 (tK 16) (iK 1) 3 3,oA 1 17 3]))) (.ops [oM 10 5 3,oB 11 .add 3 (tK 10) (iK 1) 3 3,oA 5 11 3]))
def A9l:SC:= .loop A4B
def k27:SC:= .seq (.ops [oX 4 (.assign (iK 0)) 3]) (.seq (.seq (.ops [oX 5 (.assign (iK 0)) 3]) (.block 0 A9l)) (.seq (.ops [oM 18 1 3,oA 4 18 3]) .ret))
theorem A9m:Tryz.f27.body.map (BX lends)=some k27:=by kernel_rfl
theorem AMd:Bj Tryz.f27 2=true:=by kernel_rfl
theorem c27{a l:List D}{r:D×List D}(h:Br Y.env k27 (fin Ap l.length [ResultVar.tmp 4] r) (entry a l))(ha:a.length=2):Y.call 27 a l=some r:=
 AZ (Y:=Y) rfl Tryz.func27 (ha▸AMd) A9m h
def AHd:Int→AY→AY
 |_,[]=>[]
 |k,x::l=>upto k x.length::AHd (k+x.length) l
def A4C:SC:= .seq (.seq (.ops [oM 6 5 3,oM 7 0 22,oN 8 7 22,oB 9 .lss 3 (tK 6) (tK 8) 3 4]) (.cond (tK 9) .skip (.exit 0))) (.seq (.block 1 (.ops [oM 12 0 22,oM 13 5 3,oI 14 22 12 13,oL 15 26 14 26,oM 16 1 3,oC 17 27 [(tK 15),(tK 16)] [26,3] 3,oA 1 17 3])) (.ops [oM 10 5 3,oB 11 .add 3 (tK 10) (iK 1) 3 3,oA 5 11 3]))
def A9n:SC:= .loop A4C
def k20:SC:= .seq (.ops [oX 4 (.assign (iK 0)) 3]) (.seq (.seq (.ops [oX 5 (.assign (iK 0)) 3]) (.block 0 A9n)) (.seq (.ops [oM 18 1 3,oA 4 18 3]) .ret))
theorem A9o:Tryz.f20.body.map (BX lends)=some k20:=by kernel_rfl
theorem AMe:Bj Tryz.f20 2=true:=by kernel_rfl
theorem c20{a l:List D}{r:D×List D}(h:Br Y.env k20 (fin Ap l.length [ResultVar.tmp 4] r) (entry a l))(ha:a.length=2):Y.call 20 a l=some r:=
 AZ (Y:=Y) rfl Tryz.func20 (ha▸AMe) A9o h
def zJ:Int→AB→Int
 |k,[]=>k
 |k,x::l=>if x=k then zJ (k+1) l else-1
def A4D:SC:= .seq (.seq (.ops [oM 6 5 3,oM 7 0 22,oN 8 7 22,oB 9 .lss 3 (tK 6) (tK 8) 3 4]) (.cond (tK 9) .skip (.exit 0))) (.seq (.block 1 (.seq (.ops [oM 12 0 22,oM 13 5 3,oI 14 22 12 13,oL 15 26 14 26,oM 16 1 3,oC 17 28 [(tK 15),(tK 16)] [26,3] 3,oA 1 17 3]) (.seq (.ops [oM 18 1 3,oB 19 .lss 3 (tK 18) (iK 0) 3 4]) (.cond (tK 19) (.seq (.ops [oX 4 SL 3]) .ret) .skip)))) (.ops [oM 10 5 3,oB 11 .add 3 (tK 10) (iK 1) 3 3,oA 5 11 3]))
def A9p:SC:= .loop A4D
def k21:SC:= .seq (.ops [oX 4 (.assign (iK 0)) 3]) (.seq (.seq (.ops [oX 5 (.assign (iK 0)) 3]) (.block 0 A9p)) (.seq (.ops [oM 20 1 3,oA 4 20 3]) .ret))
theorem A9q:Tryz.f21.body.map (BX lends)=some k21:=by kernel_rfl
theorem AMf:Bj Tryz.f21 2=true:=by kernel_rfl
theorem c21{a l:List D}{r:D×List D}(h:Br Y.env k21 (fin Ap l.length [ResultVar.tmp 4] r) (entry a l))(ha:a.length=2):Y.call 21 a l=some r:=
 AZ (Y:=Y) rfl Tryz.func21 (ha▸AMf) A9q h
end Go.Proofs.YtiehjihckndgkaaGreat
