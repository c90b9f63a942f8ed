/- Copies, comparisons, sizes and marks of numbers in lists, as plain functions. Conditions: the lists are short. -/
import Derived.Test.YtjhjkfoabhplfaaGreatL6
import Derived.Test.YtjhjkfoabhplfaaGreatDt
namespace Go.Proofs.YtjhjkfoabhplfaaGreat
open Go Dv
set_option linter.unusedSimpArgs false
set_option linter.unusedVariables false
set_option maxRecDepth 100000
set_option maxHeartbeats 4000000
def BB(l:AO):Prop:=l.length<1099511627776∧ ∀x∈l,x.length<1099511627776
theorem BB.nil:BB []:=⟨by decide,fun _ h=>by cases h⟩
theorem BB.at{l:AO}(h:BB l)(i:Nat)(hi:i<l.length):l[i].length<1099511627776:=h.2 _ (GG hi)
instance (l:AO):Decidable (BB l):=by unfold BB;infer_instance
theorem rD{α:Type}[Inhabited α](xs:List α)(i:Nat)(h:i<xs.length)(z:α):(xs.take i++List.replicate (xs.length-i) z).set i xs[i]=xs.take (i+1)++List.replicate (xs.length-(i+1)) z:=by
 have e:xs.length-i=(xs.length-(i+1))+1:=by omega
 rw [e,mq,mg _ _ (by simp;omega),TH h]
 have:i-(xs.take i).length=0:=by simp;omega
 rw [this,List.set_cons_zero,TJ];rfl
noncomputable def JU(a:AL)(out:AL)(i:Int):Option ((AL×Int)⊕(AL)):= if i<(a.length:Int)then ck (0≤i∧i.toNat<a.length)<| ck (0≤i∧i.toNat<out.length)<| some (Sum.inl ((out.set i.toNat (a.getD i.toNat default)),IntKind.i64.wrap (i+1))) else some (Sum.inr out)
noncomputable def Pb(a:AL)(v:AL×Int):Option (AL):=Hu (fun v=>JU a v.1 v.2) v
noncomputable def Uw(a:AL):Option (AL):= ck (0≤(a.length:Int)∧(a.length:Int)<1099511627776)<| (Pb a ((List.replicate a.length 0),0)).bind fun AC=> some AC
def fJ:SC:= .seq (.seq (.ops [oM 8 4 3,oM 9 0 27,oN 10 9 27,oB 11 .lss 3 (tK 8) (tK 10) 3 4]) (.cond (tK 11) .skip (.exit 0))) (.seq (.block 1 (.ops [oM 14 3 27,oM 15 4 3,oM 16 0 27,oM 17 4 3,oI 18 27 16 17,oL 19 3 18 3,oI 20 27 14 15,oS 3 20 19])) (.ops [oM 12 4 3,oB 13 .add 3 (tK 12) (iK 1) 3 3,oA 4 13 3]))
def yH:SC:= .loop fJ
def k37:SC:= .seq (.ops [oX 2 Ev 27]) (.seq (.ops [oM 5 0 27,oN 6 5 27,oX 7 (.makeSlice 27 (tK 6) (tK 6)) 27,oA 3 7 27]) (.seq (.seq (.ops [oX 4 (.assign (iK 0)) 3]) (.block 0 yH)) (.seq (.ops [oM 21 3 27,oA 2 21 27]) .ret)))
theorem A5Q:Tryz.f37.body.map (Bw lends)=some k37:=by kernel_rfl
theorem AHH:CP Tryz.f37 1=true:=by kernel_rfl
theorem c37{a l:List D}{r:D×List D}(h:CG Y.env k37 (FX Ah l.length [ResultVar.tmp 2] r) (entry a l))(ha:a.length=1):Y.call 37 a l=some r:=
 AZ (Y:=Y) rfl Tryz.func37 (ha▸AHH) A5Q h
def JV(a:AL)(out:AL)(i:Int)(s:St):Prop:=s.v 0=D.sl 3 (AV (D.int .i64) a)∧s.v 3=D.own 3 (AV (D.int .i64) out)∧s.v 4=D.int .i64 i
def NN(a:AL)(r:AL)(ex:Ex)(s:St):Prop:=ex= .exit 0∧s.v 3=D.own 3 (AV (D.int .i64) r)
theorem Yn(a:AL){v:AL×Int}{s:St}{r:AL}(h:Pb a v=some r)(hM:JV a v.1 v.2 s):CG Y.env yH (NN a r) s:=by
 unfold Pb at h;refine BD (c:=fJ) (fun v=>JU a v.1 v.2) (fun v s=>JV a v.1 v.2 s) (NN a) ?_ h hM;clear h hM s v r;intro v s o hM h;obtain⟨out,i⟩:=v;dsimp only at h hM;unfold JU at h;unfold JV at hM;obtain⟨m0,m1,m2⟩:=hM;unfold fJ;rcases iS h with⟨e2,h⟩|⟨e2,h⟩
 ·obtain⟨e3,e4,h⟩:=Hw h
  obtain rfl:=Option.some.inj h
  simp only [↓AR,AU,↓reduceIte,Nat.reduceEqDiff,Nat.reduceLT,m0,m1,m2,e2,e3.1,e3.2,e4.2,JV,FV]
 ·obtain rfl:=Option.some.inj h
  simp only [↓AR,AU,↓reduceIte,Nat.reduceEqDiff,Nat.reduceLT,m0,m1,m2,e2,JV,NN,KF]
theorem aL(a:AL){r:AL}(h:Uw a=some r):Y.call 37 [D.sl 3 (AV (D.int .i64) a)] []=some (D.own 3 (AV (D.int .i64) r),[]):=by
 refine c37 ?_ rfl;unfold k37;unfold Uw at h;obtain⟨e1,h⟩:=EQ h;obtain⟨AC,hl3,h⟩:=Aa h;try dsimp only at h
 simp only [↓AR,AU,↓reduceIte,Nat.reduceEqDiff,Nat.reduceLT,Nat.reduceLeDiff,e1.1,e1.2];refine Ai (Yn a hl3 ?_) ?_
 ·simp only [Bd,Da,↓reduceIte,Nat.reduceEqDiff,Nat.reduceLT,JV]
 ·intro ex3 s3 hX3;unfold NN at hX3;obtain⟨rfl,n3_0⟩:=hX3
  obtain rfl:=Option.some.inj h
  simp only [↓AR,AU,↓reduceIte,Nat.reduceEqDiff,Nat.reduceLT,n3_0]
theorem lQ(a:AL)(h:a.length<1099511627776):Uw a=some a:=by
 have key:=Bv (fun v=>JU a v.1 v.2) (fun i=>(a.take i++List.replicate (a.length-i) 0,(i:Int))) a.length a ?_ ?_
 ·unfold Uw Pb;rw [BF (by omega)]
  simp only [List.take_zero,RP,Nat.sub_zero,Kr]at key;rw [key];rfl
 ·intro i hi;simp only [JU];rw [if_pos (CV hi),BF (Iu hi),BF (Iu (by simp;omega)),MH _ _ hi,JD,rD a i hi 0,JS i (by omega)]
 ·simp only [JU];rw [if_neg (Au _)];simp
theorem lS(a:AL)(h0:a.length<1099511627776):Y.call 37 [D.sl 3 (AV (D.int .i64) a)] []=some (D.own 3 (AV (D.int .i64) a),[]):=aL a (lQ a h0)
noncomputable def I7(a:AO)(out:AO)(i:Int):Option ((AO×Int)⊕(AO)):= if i<(a.length:Int)then ck (0≤i∧i.toNat<a.length)<| ck ((a.getD i.toNat default).length<1099511627776)<| ck (0≤i∧i.toNat<out.length)<| some (Sum.inl ((out.set i.toNat (a.getD i.toNat default)),IntKind.i64.wrap (i+1))) else some (Sum.inr out)
noncomputable def OM(a:AO)(v:AO×Int):Option (AO):=Hu (fun v=>I7 a v.1 v.2) v
noncomputable def Sv(a:AO):Option (AO):= ck (0≤(a.length:Int)∧(a.length:Int)<1099511627776)<| (OM a ((List.replicate a.length ([]:AL)),0)).bind fun AC=> some AC
def fK:SC:= .seq (.seq (.ops [oM 8 4 3,oM 9 0 22,oN 10 9 22,oB 11 .lss 3 (tK 8) (tK 10) 3 4]) (.cond (tK 11) .skip (.exit 0))) (.seq (.block 1 (.ops [oM 14 3 22,oM 15 4 3,oM 16 0 22,oM 17 4 3,oI 18 22 16 17,oL 19 27 18 27,oC 20 37 [(tK 19)] [27] 27,oI 21 22 14 15,oS 27 21 20])) (.ops [oM 12 4 3,oB 13 .add 3 (tK 12) (iK 1) 3 3,oA 4 13 3]))
def yI:SC:= .loop fK
def k23:SC:= .seq (.ops [oX 2 Ev 22]) (.seq (.ops [oM 5 0 22,oN 6 5 22,oX 7 (.makeSlice 22 (tK 6) (tK 6)) 22,oA 3 7 22]) (.seq (.seq (.ops [oX 4 (.assign (iK 0)) 3]) (.block 0 yI)) (.seq (.ops [oM 22 3 22,oA 2 22 22]) .ret)))
theorem A5R:Tryz.f23.body.map (Bw lends)=some k23:=by kernel_rfl
theorem AHJ:CP Tryz.f23 1=true:=by kernel_rfl
theorem c23{a l:List D}{r:D×List D}(h:CG Y.env k23 (FX Ah l.length [ResultVar.tmp 2] r) (entry a l))(ha:a.length=1):Y.call 23 a l=some r:=
 AZ (Y:=Y) rfl Tryz.func23 (ha▸AHJ) A5R h
def I8(a:AO)(out:AO)(i:Int)(s:St):Prop:=s.v 0=D.sl 27 (AV Aw a)∧s.v 3=D.own 27 (AV KQ out)∧s.v 4=D.int .i64 i
def MI(a:AO)(r:AO)(ex:Ex)(s:St):Prop:=ex= .exit 0∧s.v 3=D.own 27 (AV KQ r)
theorem XG(a:AO){v:AO×Int}{s:St}{r:AO}(h:OM a v=some r)(hM:I8 a v.1 v.2 s):CG Y.env yI (MI a r) s:=by
 unfold OM at h;refine BD (c:=fK) (fun v=>I7 a v.1 v.2) (fun v s=>I8 a v.1 v.2 s) (MI a) ?_ h hM;clear h hM s v r;intro v s o hM h;obtain⟨out,i⟩:=v;dsimp only at h hM;unfold I7 at h;unfold I8 at hM;obtain⟨m0,m1,m2⟩:=hM;unfold fK;rcases iS h with⟨e2,h⟩|⟨e2,h⟩
 ·obtain⟨e3,e4,h⟩:=Hw h;have c5:=lS (a.getD i.toNat default) e4;obtain⟨e6,h⟩:=EQ h
  obtain rfl:=Option.some.inj h
  simp only [↓AR,AU,↓reduceIte,Nat.reduceEqDiff,Nat.reduceLT,m0,m1,m2,e2,e3.1,e3.2,c5,e6.2,I8,FV]
 ·obtain rfl:=Option.some.inj h
  simp only [↓AR,AU,↓reduceIte,Nat.reduceEqDiff,Nat.reduceLT,m0,m1,m2,e2,I8,MI,KF]
theorem Yo(a:AO){r:AO}(h:Sv a=some r):Y.call 23 [D.sl 27 (AV Aw a)] []=some (D.own 27 (AV KQ r),[]):=by
 refine c23 ?_ rfl;unfold k23;unfold Sv at h;obtain⟨e1,h⟩:=EQ h;obtain⟨AC,hl3,h⟩:=Aa h;try dsimp only at h
 simp only [↓AR,AU,↓reduceIte,Nat.reduceEqDiff,Nat.reduceLT,Nat.reduceLeDiff,e1.1,e1.2];refine Ai (XG a hl3 ?_) ?_
 ·simp only [Bd,Da,↓reduceIte,Nat.reduceEqDiff,Nat.reduceLT,I8]
 ·intro ex3 s3 hX3;unfold MI at hX3;obtain⟨rfl,n3_0⟩:=hX3
  obtain rfl:=Option.some.inj h
  simp only [↓AR,AU,↓reduceIte,Nat.reduceEqDiff,Nat.reduceLT,n3_0]
theorem fM(a:AO)(h:BB a):Sv a=some a:=by
 have h1:=h.1;have key:=Bv (fun v=>I7 a v.1 v.2) (fun i=>(a.take i++List.replicate (a.length-i) [],(i:Int))) a.length a ?_ ?_
 ·unfold Sv OM;rw [BF (by omega)]
  simp only [List.take_zero,RP,Nat.sub_zero,Kr]at key;rw [key];rfl
 ·intro i hi;simp only [I7];rw [if_pos (CV hi),BF (Iu hi),BF (by rw [MH _ _ hi];exact h.at i hi),BF (Iu (by simp;omega)),MH _ _ hi,JD,rD a i hi [],JS i (by omega)]
 ·simp only [I7];rw [if_neg (Au _)];simp
theorem Ux(a:AO)(h0:BB a):Y.call 23 [D.sl 27 (AV Aw a)] []=some (D.own 27 (AV KQ a),[]):=Yo a (fM a h0)
noncomputable def JW(a:AL)(b:AL)(i:Int):Option ((Int)⊕(Unit⊕Unit)):= if i<(a.length:Int)then ck (0≤i∧i.toNat<a.length)<| ck (0≤i∧i.toNat<b.length)<| if(a.getD i.toNat default)=(b.getD i.toNat default)then some (Sum.inl (IntKind.i64.wrap (i+1))) else some (Sum.inr (Sum.inl ())) else some (Sum.inr (Sum.inr ()))
noncomputable def Pd(a:AL)(b:AL)(v:Int):Option (Unit⊕Unit):=Hu (fun v=>JW a b v) v
noncomputable def Uy(a:AL)(b:AL):Option (Bool):=
 if(a.length:Int)=(b.length:Int)then
  (Pd a b 0).bind fun AC=>
  match AC with
  | .inl q1000_=>
   some false
  | .inr q1000_=>
   some true
 else
  some false
abbrev qd4:List Nat:=[17,18,19,20,21,22,23,24,25]
def fO:SC:= .seq (.seq (.ops [oM 11 5 3,oM 12 0 27,oN 13 12 27,oB 14 .lss 3 (tK 11) (tK 13) 3 4]) (.cond (tK 14) .skip (.exit 0))) (.seq (.block 1 (.seq (.draws [(⟨[17,0,0],qd4,[17]⟩,oM 17 0 27),(⟨[18,5,5],qd4,[18]⟩,oM 18 5 3),(⟨[19,17,18,0,5],qd4,[19]⟩,oI 19 27 17 18),(⟨[20,19,0],qd4,[20]⟩,oL 20 3 19 3),(⟨[21,1,1],qd4,[21]⟩,oM 21 1 27),(⟨[22,5,5],qd4,[22]⟩,oM 22 5 3),(⟨[23,21,22,1,5],qd4,[23]⟩,oI 23 27 21 22),(⟨[24,23,1],qd4,[24]⟩,oL 24 3 23 3),(⟨[25,20,24,0,1],qd4,[25]⟩,oB 25 .neq 3 (tK 20) (tK 24) 3 4)]) (.cond (tK 25) (.seq (.ops [oX 4 Cr 4]) .ret) .skip))) (.ops [oM 15 5 3,oB 16 .add 3 (tK 15) (iK 1) 3 3,oA 5 16 3]))
def yJ:SC:= .loop fO
def k11:SC:= .seq (.ops [oX 4 Cr 4]) (.seq (.seq (.ops [oM 6 0 27,oN 7 6 27,oM 8 1 27,oN 9 8 27,oB 10 .neq 3 (tK 7) (tK 9) 3 4]) (.cond (tK 10) (.seq (.ops [oX 4 Cr 4]) .ret) .skip)) (.seq (.seq (.ops [oX 5 (.assign (iK 0)) 3]) (.block 0 yJ)) (.seq (.ops [oX 4 (.assign Kv) 4]) .ret)))
theorem A5S:Tryz.f11.body.map (Bw lends)=some k11:=by kernel_rfl
theorem AHL:CP Tryz.f11 2=true:=by kernel_rfl
theorem jM{a l:List D}{r:D×List D}(h:CG Y.env k11 (FX Ah l.length [ResultVar.tmp 4] r) (entry a l))(ha:a.length=2):Y.call 11 a l=some r:=
 AZ (Y:=Y) rfl Tryz.func11 (ha▸AHL) A5S h
def Hd(a:AL)(b:AL)(i:Int)(s:St):Prop:=s.v 0=D.sl 3 (AV (D.int .i64) a)∧s.v 1=D.sl 3 (AV (D.int .i64) b)∧s.v 5=D.int .i64 i
def JX(a:AL)(b:AL)(r:Unit⊕Unit)(ex:Ex)(s:St):Prop:=match r with
 | .inl q=>ex= .ret∧s.v 4=D.bool false
 | .inr q=>ex= .exit 0
theorem Yp(a:AL)(b:AL){v:Int}{s:St}{r:Unit⊕Unit}(h:Pd a b v=some r)(hM:Hd a b v s):CG Y.env yJ (JX a b r) s:=by
 unfold Pd at h;refine BD (c:=fO) (fun v=>JW a b v) (fun v s=>Hd a b v s) (JX a b) ?_ h hM;clear h hM s v r;intro i s o hM h;unfold JW at h;unfold Hd at hM;obtain⟨m0,m1,m2⟩:=hM;unfold fO;rcases iS h with⟨e2,h⟩|⟨e2,h⟩
 ·obtain⟨e3,e4,h⟩:=Hw h;rcases iS h with⟨e5,h⟩|⟨e5,h⟩
  ·obtain rfl:=Option.some.inj h
   simp only [↓AR,AU,↓reduceIte,Nat.reduceEqDiff,Nat.reduceLT,m0,m1,m2,e2,e3.1,e3.2,e4.2,decide_eq_true e5,Hd,FV]
  ·obtain rfl:=Option.some.inj h
   simp only [↓AR,AU,↓reduceIte,Nat.reduceEqDiff,Nat.reduceLT,m0,m1,m2,e2,e3.1,e3.2,e4.2,e5,Hd,JX,U2]
 ·obtain rfl:=Option.some.inj h
  simp only [↓AR,AU,↓reduceIte,Nat.reduceEqDiff,Nat.reduceLT,m0,m2,e2,Hd,JX,KF]
theorem aM(a:AL)(b:AL){r:Bool}(h:Uy a b=some r):Y.call 11 [D.sl 3 (AV (D.int .i64) a),D.sl 3 (AV (D.int .i64) b)] []=some (D.bool r,[]):=by
 refine jM ?_ rfl;unfold k11;unfold Uy at h;rcases iS h with⟨e1,h⟩|⟨e1,h⟩
 ·obtain⟨AC,hl3,h⟩:=Aa h;try dsimp only at h
  simp only [↓AR,AU,↓reduceIte,Nat.reduceEqDiff,Nat.reduceLT,decide_eq_true e1];refine Ai (Yp a b hl3 ?_) ?_
  ·simp only [Bd,Da,↓reduceIte,Nat.reduceEqDiff,Nat.reduceLT,Hd]
  ·intro ex3 s3 hX3;rcases AC with q1000_|q1000_
   ·unfold JX at hX3;dsimp only at hX3 h;obtain⟨rfl,n3_0⟩:=hX3
    obtain rfl:=Option.some.inj h
    simp only [↓AR,AU,↓reduceIte,n3_0]
   ·unfold JX at hX3;dsimp only at hX3 h
    obtain rfl:=hX3
    obtain rfl:=Option.some.inj h
    simp only [↓AR,AU,↓reduceIte,Nat.reduceEqDiff,Nat.reduceLT]
 ·obtain rfl:=Option.some.inj h
  simp only [↓AR,AU,↓reduceIte,Nat.reduceEqDiff,Nat.reduceLT,e1]
theorem lT(a b:AL)(ha:a.length<1099511627776):Uy a b=some (decide (a=b)):=by
 unfold Uy Pd;by_cases hl:a.length=b.length
 ·rw [if_pos (by omega)]
  have key:=PW (fun v=>JW a b v) (fun i=>(i:Int)) a.length (fun i=>decide (a.getD i default=b.getD i default)) (.inl ()) (.inr ()) ?_ ?_
  ·simp only [Kr]at key;rw [key,Yi a b hl];by_cases he:a=b<;>simp [he]
  ·intro i hi;simp only [JW];rw [if_pos (CV hi),BF (Iu hi),BF (Iu (by omega)),JD,JS i (by omega)]<;>simp only [decide_eq_true_eq]
  ·simp only [JW];rw [if_neg (Au _)]
 ·rw [if_neg (by omega)]
  have: ¬a=b:=fun e=>hl (by rw [e])
  simp [this]
theorem Lr(a:AL)(b:AL)(h0:a.length<1099511627776):Y.call 11 [D.sl 3 (AV (D.int .i64) a),D.sl 3 (AV (D.int .i64) b)] []=some (D.bool (decide (a=b)),[]):=aM a b (lT a b h0)
noncomputable def I9(a:AO)(b:AO)(i:Int):Option ((Int)⊕(Unit⊕Unit)):= if i<(a.length:Int)then ck (0≤i∧i.toNat<a.length)<| ck (0≤i∧i.toNat<b.length)<| ck ((a.getD i.toNat default).length<1099511627776)<| if(decide ((a.getD i.toNat default)=(b.getD i.toNat default)))=true then some (Sum.inl (IntKind.i64.wrap (i+1))) else some (Sum.inr (Sum.inl ())) else some (Sum.inr (Sum.inr ()))
noncomputable def OO(a:AO)(b:AO)(v:Int):Option (Unit⊕Unit):=Hu (fun v=>I9 a b v) v
noncomputable def Sw(a:AO)(b:AO):Option (Bool):=
 if(a.length:Int)=(b.length:Int)then
  (OO a b 0).bind fun AC=>
  match AC with
  | .inl q1000_=>
   some false
  | .inr q1000_=>
   some true
 else
  some false
abbrev qd5:List Nat:=[17,18,19,20,21,22,23,24,25,26]
def fP:SC:= .seq (.seq (.ops [oM 11 5 3,oM 12 0 22,oN 13 12 22,oB 14 .lss 3 (tK 11) (tK 13) 3 4]) (.cond (tK 14) .skip (.exit 0))) (.seq (.block 1 (.seq (.draws [(⟨[17,0,0],qd5,[17]⟩,oM 17 0 22),(⟨[18,5,5],qd5,[18]⟩,oM 18 5 3),(⟨[19,17,18,0,5],qd5,[19]⟩,oI 19 22 17 18),(⟨[20,19,0],qd5,[20]⟩,oL 20 27 19 27),(⟨[21,1,1],qd5,[21]⟩,oM 21 1 22),(⟨[22,5,5],qd5,[22]⟩,oM 22 5 3),(⟨[23,21,22,1,5],qd5,[23]⟩,oI 23 22 21 22),(⟨[24,23,1],qd5,[24]⟩,oL 24 27 23 27),(⟨[25,20,24,0,1],qd5,[25]⟩,oC 25 11 [(tK 20),(tK 24)] [27,27] 4),(⟨[26,25,25],qd5,[26]⟩,oX 26 (.unOp .not 4 (tK 25)) 4)]) (.cond (tK 26) (.seq (.ops [oX 4 Cr 4]) .ret) .skip))) (.ops [oM 15 5 3,oB 16 .add 3 (tK 15) (iK 1) 3 3,oA 5 16 3]))
def yK:SC:= .loop fP
def k26:SC:= .seq (.ops [oX 4 Cr 4]) (.seq (.seq (.ops [oM 6 0 22,oN 7 6 22,oM 8 1 22,oN 9 8 22,oB 10 .neq 3 (tK 7) (tK 9) 3 4]) (.cond (tK 10) (.seq (.ops [oX 4 Cr 4]) .ret) .skip)) (.seq (.seq (.ops [oX 5 (.assign (iK 0)) 3]) (.block 0 yK)) (.seq (.ops [oX 4 (.assign Kv) 4]) .ret)))
theorem A5T:Tryz.f26.body.map (Bw lends)=some k26:=by kernel_rfl
theorem AHN:CP Tryz.f26 2=true:=by kernel_rfl
theorem c26{a l:List D}{r:D×List D}(h:CG Y.env k26 (FX Ah l.length [ResultVar.tmp 4] r) (entry a l))(ha:a.length=2):Y.call 26 a l=some r:=
 AZ (Y:=Y) rfl Tryz.func26 (ha▸AHN) A5T h
def GK(a:AO)(b:AO)(i:Int)(s:St):Prop:=s.v 0=D.sl 27 (AV Aw a)∧s.v 1=D.sl 27 (AV Aw b)∧s.v 5=D.int .i64 i
def IA(a:AO)(b:AO)(r:Unit⊕Unit)(ex:Ex)(s:St):Prop:=match r with
 | .inl q=>ex= .ret∧s.v 4=D.bool false
 | .inr q=>ex= .exit 0
theorem XH(a:AO)(b:AO){v:Int}{s:St}{r:Unit⊕Unit}(h:OO a b v=some r)(hM:GK a b v s):CG Y.env yK (IA a b r) s:=by
 unfold OO at h;refine BD (c:=fP) (fun v=>I9 a b v) (fun v s=>GK a b v s) (IA a b) ?_ h hM;clear h hM s v r;intro i s o hM h;unfold I9 at h;unfold GK at hM;obtain⟨m0,m1,m2⟩:=hM;unfold fP;rcases iS h with⟨e2,h⟩|⟨e2,h⟩
 ·obtain⟨e3,e4,e5,h⟩:=XE h;have c6:=Lr (a.getD i.toNat default) (b.getD i.toNat default) e5;rcases iS h with⟨e7,h⟩|⟨e7,h⟩
  ·obtain rfl:=Option.some.inj h
   simp only [↓AR,AU,↓reduceIte,Nat.reduceEqDiff,Nat.reduceLT,m0,m1,m2,e2,e3.1,e3.2,e4.2,c6,e7,GK,FV]
  ·have e7f:(decide ((a.getD i.toNat default)=(b.getD i.toNat default)))=false:=Ju.mpr e7
   obtain rfl:=Option.some.inj h
   simp only [↓AR,AU,↓reduceIte,Nat.reduceEqDiff,Nat.reduceLT,m0,m1,m2,e2,e3.1,e3.2,e4.2,c6,e7f,GK,IA,U2]
 ·obtain rfl:=Option.some.inj h
  simp only [↓AR,AU,↓reduceIte,Nat.reduceEqDiff,Nat.reduceLT,m0,m2,e2,GK,IA,KF]
theorem Yq(a:AO)(b:AO){r:Bool}(h:Sw a b=some r):Y.call 26 [D.sl 27 (AV Aw a),D.sl 27 (AV Aw b)] []=some (D.bool r,[]):=by
 refine c26 ?_ rfl;unfold k26;unfold Sw at h;rcases iS h with⟨e1,h⟩|⟨e1,h⟩
 ·obtain⟨AC,hl3,h⟩:=Aa h;try dsimp only at h
  simp only [↓AR,AU,↓reduceIte,Nat.reduceEqDiff,Nat.reduceLT,decide_eq_true e1];refine Ai (XH a b hl3 ?_) ?_
  ·simp only [Bd,Da,↓reduceIte,Nat.reduceEqDiff,Nat.reduceLT,GK]
  ·intro ex3 s3 hX3;rcases AC with q1000_|q1000_
   ·unfold IA at hX3;dsimp only at hX3 h;obtain⟨rfl,n3_0⟩:=hX3
    obtain rfl:=Option.some.inj h
    simp only [↓AR,AU,↓reduceIte,n3_0]
   ·unfold IA at hX3;dsimp only at hX3 h
    obtain rfl:=hX3
    obtain rfl:=Option.some.inj h
    simp only [↓AR,AU,↓reduceIte,Nat.reduceEqDiff,Nat.reduceLT]
 ·obtain rfl:=Option.some.inj h
  simp only [↓AR,AU,↓reduceIte,Nat.reduceEqDiff,Nat.reduceLT,e1]
theorem fQ(a b:AO)(ha:BB a):Sw a b=some (decide (a=b)):=by
 have h1:=ha.1;unfold Sw OO;by_cases hl:a.length=b.length
 ·rw [if_pos (by omega)]
  have key:=PW (fun v=>I9 a b v) (fun i=>(i:Int)) a.length (fun i=>decide (a.getD i default=b.getD i default)) (.inl ()) (.inr ()) ?_ ?_
  ·simp only [Kr]at key;rw [key,Yi a b hl];by_cases he:a=b<;>simp [he]
  ·intro i hi;simp only [I9];rw [if_pos (CV hi),BF (Iu hi),BF (Iu (by omega)),BF (by rw [MH _ _ hi];exact ha.at i hi),JD,JS i (by omega)]<;>simp only [decide_eq_true_eq]
  ·simp only [I9];rw [if_neg (Au _)]
 ·rw [if_neg (by omega)]
  have: ¬a=b:=fun e=>hl (by rw [e])
  simp [this]
theorem Uz(a:AO)(b:AO)(h0:BB a):Y.call 26 [D.sl 27 (AV Aw a),D.sl 27 (AV Aw b)] []=some (D.bool (decide (a=b)),[]):=Yq a b (fQ a b h0)
def Rb(left n:Int):Int:=if left-n<0 then-1 else left-n
theorem Sy(left n:Int):Rb left n= -1∨(Rb left n=left-n∧0≤left-n):=by unfold Rb;split<;>omega
def DC(l:AO):Int:=(l.map fun xs=>(xs.length:Int)).sum
theorem V3:DC []=0:=rfl
theorem MJ(x:AL)(l:AO):DC (x::l)=x.length+DC l:=rfl
theorem DL(l:AO):0≤DC l:=by
 induction l with
 |nil=>rw [V3];omega
 |cons x l ih=>rw [MJ];omega
theorem A1E{l:AO}{x:AL}(h:x∈l):(x.length:Int)≤DC l:=by
 induction l with
 |nil=>cases h
 |cons y l ih=>
  rw [MJ];have:=DL l
  rcases Ms.1 h with rfl|h
  ·omega
  ·have:=ih h;omega
theorem bi{l:AO}(h:l.length+DC l<1099511627776):BB l:=by
 have:=DL l
 exact⟨by omega,fun x hx=>by have:=A1E hx;omega⟩
noncomputable def V4(a:AL)(left:Int):Option (Int):= if(IntKind.i64.wrap (left-(a.length:Int)))<0 then some (-1) else some (IntKind.i64.wrap (left-(a.length:Int)))
def k32:SC:= .seq (.ops [oX 4 (.assign (iK 0)) 3]) (.seq (.ops [oM 5 1 3,oM 6 0 27,oN 7 6 27,oB 8 .sub 3 (tK 5) (tK 7) 3 3,oA 1 8 3]) (.seq (.seq (.ops [oM 9 1 3,oB 10 .lss 3 (tK 9) (iK 0) 3 4]) (.cond (tK 10) (.seq (.ops [oX 4 U6 3]) .ret) .skip)) (.seq (.ops [oM 11 1 3,oA 4 11 3]) .ret)))
theorem A5U:Tryz.f32.body.map (Bw lends)=some k32:=by kernel_rfl
theorem AHQ:CP Tryz.f32 2=true:=by kernel_rfl
theorem yM{a l:List D}{r:D×List D}(h:CG Y.env k32 (FX Ah l.length [ResultVar.tmp 4] r) (entry a l))(ha:a.length=2):Y.call 32 a l=some r:=
 AZ (Y:=Y) rfl Tryz.func32 (ha▸AHQ) A5U h
theorem aN(a:AL)(left:Int){r:Int}(h:V4 a left=some r):Y.call 32 [D.sl 3 (AV (D.int .i64) a),D.int .i64 left] []=some (D.int .i64 r,[]):=by
 refine yM ?_ rfl;unfold k32;unfold V4 at h;rcases iS h with⟨e1,h⟩|⟨e1,h⟩
 ·obtain rfl:=Option.some.inj h
  simp only [↓AR,AU,↓reduceIte,Nat.reduceEqDiff,Nat.reduceLT,e1]
 ·obtain rfl:=Option.some.inj h
  simp only [↓AR,AU,↓reduceIte,Nat.reduceEqDiff,Nat.reduceLT,e1]
theorem lU(a:AL)(left:Int)(ha:a.length<9223372036854775808)(hl:0≤left∧left≤1048576):V4 a left=some (Rb left a.length):=by
 unfold V4 Rb;rw [Ec _ (by omega)]
 split<;>rfl
theorem lV(a:AL)(left:Int)(h0:a.length<9223372036854775808)(h1:0≤left∧left≤1048576):Y.call 32 [D.sl 3 (AV (D.int .i64) a),D.int .i64 left] []=some (D.int .i64 (Rb left a.length),[]):=aN a left (lU a left h0 h1)
noncomputable def IB(a:AO)(left1:Int)(i:Int):Option ((Int×Int)⊕(Unit⊕Int)):= if i<(a.length:Int)then ck (0≤i∧i.toNat<a.length)<| ck ((a.getD i.toNat default).length<9223372036854775808)<| ck (0≤left1∧left1≤1048576)<| if(Rb left1 (a.getD i.toNat default).length)<0 then some (Sum.inr (Sum.inl ())) else some (Sum.inl ((Rb left1 (a.getD i.toNat default).length),IntKind.i64.wrap (i+1))) else some (Sum.inr (Sum.inr left1))
noncomputable def Iw(a:AO)(v:Int×Int):Option (Unit⊕Int):=Hu (fun v=>IB a v.1 v.2) v
noncomputable def QU(a:AO)(left:Int):Option (Int):=
 if(IntKind.i64.wrap (left-(a.length:Int)))<0 then
  some (-1)
 else
  (Iw a (IntKind.i64.wrap (left-(a.length:Int)),0)).bind fun AC=>
  match AC with
  | .inl q1000_=>
   some (-1)
  | .inr q1000_=>
   some q1000_
def fT:SC:= .seq (.seq (.ops [oM 12 5 3,oM 13 0 22,oN 14 13 22,oB 15 .lss 3 (tK 12) (tK 14) 3 4]) (.cond (tK 15) .skip (.exit 0))) (.seq (.block 1 (.seq (.ops [oM 18 0 22,oM 19 5 3,oI 20 22 18 19,oL 21 27 20 27,oM 22 1 3,oC 23 32 [(tK 21),(tK 22)] [27,3] 3,oA 1 23 3]) (.seq (.ops [oM 24 1 3,oB 25 .lss 3 (tK 24) (iK 0) 3 4]) (.cond (tK 25) (.seq (.ops [oX 4 U6 3]) .ret) .skip)))) (.ops [oM 16 5 3,oB 17 .add 3 (tK 16) (iK 1) 3 3,oA 5 17 3]))
def yN:SC:= .loop fT
def k20:SC:= .seq (.ops [oX 4 (.assign (iK 0)) 3]) (.seq (.ops [oM 6 1 3,oM 7 0 22,oN 8 7 22,oB 9 .sub 3 (tK 6) (tK 8) 3 3,oA 1 9 3]) (.seq (.seq (.ops [oM 10 1 3,oB 11 .lss 3 (tK 10) (iK 0) 3 4]) (.cond (tK 11) (.seq (.ops [oX 4 U6 3]) .ret) .skip)) (.seq (.seq (.ops [oX 5 (.assign (iK 0)) 3]) (.block 0 yN)) (.seq (.ops [oM 26 1 3,oA 4 26 3]) .ret))))
theorem A5V:Tryz.f20.body.map (Bw lends)=some k20:=by kernel_rfl
theorem AHS:CP Tryz.f20 2=true:=by kernel_rfl
theorem c20{a l:List D}{r:D×List D}(h:CG Y.env k20 (FX Ah l.length [ResultVar.tmp 4] r) (entry a l))(ha:a.length=2):Y.call 20 a l=some r:=
 AZ (Y:=Y) rfl Tryz.func20 (ha▸AHS) A5V h
def GL(a:AO)(left1:Int)(i:Int)(s:St):Prop:=s.v 0=D.sl 27 (AV Aw a)∧s.v 1=D.int .i64 left1∧s.v 5=D.int .i64 i
def IC(a:AO)(r:Unit⊕Int)(ex:Ex)(s:St):Prop:=match r with
 | .inl q=>ex= .ret∧s.v 4=D.int .i64 (-1)
 | .inr q=>ex= .exit 0∧s.v 1=D.int .i64 q
theorem XI(a:AO){v:Int×Int}{s:St}{r:Unit⊕Int}(h:Iw a v=some r)(hM:GL a v.1 v.2 s):CG Y.env yN (IC a r) s:=by
 unfold Iw at h;refine BD (c:=fT) (fun v=>IB a v.1 v.2) (fun v s=>GL a v.1 v.2 s) (IC a) ?_ h hM;clear h hM s v r;intro v s o hM h;obtain⟨left1,i⟩:=v;dsimp only at h hM;unfold IB at h;unfold GL at hM;obtain⟨m0,m1,m2⟩:=hM;unfold fT;rcases iS h with⟨e2,h⟩|⟨e2,h⟩
 ·obtain⟨e3,e4,e5,h⟩:=XE h;have c6:=lV (a.getD i.toNat default) left1 e4 e5;rcases iS h with⟨e7,h⟩|⟨e7,h⟩
  ·obtain rfl:=Option.some.inj h
   simp only [↓AR,AU,↓reduceIte,Nat.reduceEqDiff,Nat.reduceLT,m0,m1,m2,e2,e3.1,e3.2,c6,e7,GL,IC,U2]
  ·obtain rfl:=Option.some.inj h
   simp only [↓AR,AU,↓reduceIte,Nat.reduceEqDiff,Nat.reduceLT,m0,m1,m2,e2,e3.1,e3.2,c6,e7,GL,FV]
 ·obtain rfl:=Option.some.inj h
  simp only [↓AR,AU,↓reduceIte,Nat.reduceEqDiff,Nat.reduceLT,m0,m1,m2,e2,GL,IC,KF]
theorem Yr(a:AO)(left:Int){r:Int}(h:QU a left=some r):Y.call 20 [D.sl 27 (AV Aw a),D.int .i64 left] []=some (D.int .i64 r,[]):=by
 refine c20 ?_ rfl;unfold k20;unfold QU at h;rcases iS h with⟨e1,h⟩|⟨e1,h⟩
 ·obtain rfl:=Option.some.inj h
  simp only [↓AR,AU,↓reduceIte,Nat.reduceEqDiff,Nat.reduceLT,e1]
 ·obtain⟨AC,hl3,h⟩:=Aa h;try dsimp only at h
  simp only [↓AR,AU,↓reduceIte,Nat.reduceEqDiff,Nat.reduceLT,e1];refine Ai (XI a hl3 ?_) ?_
  ·simp only [Bd,Da,↓reduceIte,Nat.reduceEqDiff,Nat.reduceLT,GL]
  ·intro ex3 s3 hX3;rcases AC with q1000_|q1000_
   ·unfold IC at hX3;dsimp only at hX3 h;obtain⟨rfl,n3_0⟩:=hX3
    obtain rfl:=Option.some.inj h
    simp only [↓AR,AU,↓reduceIte,n3_0]
   ·unfold IC at hX3;dsimp only at hX3 h;obtain⟨rfl,n3_0⟩:=hX3
    obtain rfl:=Option.some.inj h
    simp only [↓AR,AU,↓reduceIte,Nat.reduceEqDiff,Nat.reduceLT,n3_0]
def szL:Int→AO→Int
 |left,[]=>left
 |left,x::l=>if left-x.length<0 then-1 else szL (left-x.length) l
theorem A5W(l:AO): ∀(left:Int),0≤left→szL left l=Rb left (DC l):=by
 induction l with
 |nil=>intro left h;unfold szL Rb;rw [V3,if_neg (by omega)];omega
 |cons x l ih=>
  intro left h;have:=DL l
  unfold szL;by_cases hq:left-x.length<0
  ·rw [if_pos hq];unfold Rb;rw [MJ,if_pos (by omega)]
  ·rw [if_neg hq,ih _ (by omega)]
   unfold Rb;rw [MJ];by_cases hr:left-x.length-DC l<0
   ·rw [if_pos hr,if_pos (by omega)]
   ·rw [if_neg hr,if_neg (by omega)];omega
theorem XJ(a:AO)(ha:a.length<4611686018427387904)(hx: ∀x∈a,x.length<9223372036854775808): ∀(n i:Nat) (left:Int),n=a.length-i→i≤a.length→0≤left∧left≤1048576→
  Iw a (left,(i:Int))=some (if szL left (a.drop i)= -1 then .inl ()else .inr (szL left (a.drop i))):=by
 intro n
 induction n with
 |zero=>
  intro i left hn hi hl;have e:i=a.length:=by omega
  subst e;unfold Iw;rw [GV (r:=Sum.inr left)]
  ·rw [List.drop_length];unfold szL;rw [if_neg (by omega)]
  ·simp only [IB];rw [if_neg (Au _)]
 |succ n ih=>
  intro i left hn hi hl;have hlt:i<a.length:=by omega
  have hm:a[i]∈a:=GG hlt;have hxm:=hx _ hm
  have step:IB a left i=if Rb left a[i].length<0 then some (Sum.inr (Sum.inl ()))else some (Sum.inl (Rb left a[i].length,((i+1:Nat):Int))):=by
   unfold IB;rw [if_pos (CV hlt),BF (Iu hlt),BF (by rw [MH _ _ hlt];exact hxm),BF hl,MH _ _ hlt,JS i (by omega)]
  rw [dI hlt];unfold szL;by_cases hq:left-(a[i].length:Int)<0
  ·rw [if_pos hq];unfold Iw;rw [GV (r:=Sum.inl ())]
   ·rfl
   ·rw [step];unfold Rb;rw [if_pos hq];rfl
  ·rw [if_neg hq];have e2:Rb left a[i].length=left-a[i].length:=by unfold Rb;rw [if_neg hq]
   have:=ih (i+1) (left-a[i].length) (by omega) (by omega) (by omega)
   unfold Iw at this ⊢;rw [NM (s':=(left-(a[i].length:Int),((i+1:Nat):Int))),this]
   ·rw [step,e2,if_neg hq]
theorem aO(a:AO)(left:Int)(ha:a.length<9223372036854775808)(hx: ∀x∈a,x.length<9223372036854775808)(hl:0≤left∧left≤1048576):QU a left=some (Rb left (a.length+DC a)):=by
 have ht:=DL a;unfold QU;rw [Ec _ (by omega)]
 by_cases hq:left-(a.length:Int)<0
 ·rw [if_pos hq];unfold Rb;rw [if_pos (by omega)]
 ·rw [if_neg hq];have h0:=XJ a (by omega) hx a.length 0 (left-a.length) (by omega) (by omega) (by omega)
  simp only [Kr,Tu]at h0;rw [h0,Cs,A5W _ _ (by omega)]
  have e:Rb (left-a.length) (DC a)=Rb left (a.length+DC a):=by unfold Rb;rw [show left- ↑a.length-DC a=left-(↑a.length+DC a) by omega]
  rw [e];by_cases h1:Rb left (a.length+DC a)= -1
  ·rw [if_pos h1,h1]
  ·rw [if_neg h1]
theorem U7{α:Type}(a b:List α)(x:α):(a.length:Int)<((a++x::b).length:Int):=by rw [Ko,Ji];omega
theorem U8{α:Type}(a b:List α)(x:α):0≤(a.length:Int)∧(a.length:Int).toNat<(a++x::b).length:=by rw [Ko,Ji];omega
theorem V5{α:Type}(a:List α): ¬(a.length:Int)<((a++[]).length:Int):=by rw [Pv];omega
def U9(l:AO):Prop:=l.length<9223372036854775808∧ ∀x∈l,x.length<9223372036854775808
instance (l:AO):Decidable (U9 l):=by unfold U9;infer_instance
theorem fU(a:AO)(left:Int)(hw:U9 a)(hl:0≤left∧left≤1048576):QU a left=some (Rb left (a.length+DC a)):=aO a left hw.1 hw.2 hl
theorem V6(a:AO)(left:Int)(h0:U9 a)(h1:0≤left∧left≤1048576):Y.call 20 [D.sl 27 (AV Aw a),D.int .i64 left] []=some (D.int .i64 (Rb left (a.length+DC a)),[]):=Yr a left (fU a left h0 h1)
def upto(k:Int)(n:Nat):AL:=(List.range n).map fun(i:Nat)=>k+i
theorem Nl(k:Int)(n:Nat):(upto k n).length=n:=by simp [upto]
theorem yO(xs:AL)(k:Int)(i:Nat)(h:i<xs.length):(upto k i++xs.drop i).set i (k+i)=upto k (i+1)++xs.drop (i+1):=by
 rw [mg _ _ (by simp [Nl]),Nl,X6,dI h,List.set_cons_zero]
 simp [upto,Zp]
noncomputable def Gc(k:Int)(k1:Int)(i:Int)(BA:AL):Option ((Int×Int×AL)⊕(Int×AL)):= if i<(BA.length:Int)then ck (0≤i∧i.toNat<BA.length)<| some (Sum.inl (IntKind.i64.wrap (k1+1),IntKind.i64.wrap (i+1),(BA.set i.toNat k1))) else some (Sum.inr (k1,BA))
noncomputable def NP(k:Int)(v:Int×Int×AL):Option (Int×AL):=Hu (fun v=>Gc k v.1 v.2.1 v.2.2) v
noncomputable def Qt(a:AL)(k:Int):Option (Int×AL):= (NP k (k,0,a)).bind fun AC=> some (AC.1,AC.2)
def fV:SC:= .seq (.seq (.ops [oM 6 5 3,oM 7 0 27,oN 8 7 27,oB 9 .lss 3 (tK 6) (tK 8) 3 4]) (.cond (tK 9) .skip (.exit 0))) (.seq (.block 1 (.seq (.ops [oM 12 0 27,oM 13 5 3,oM 14 1 3,oI 15 27 12 13,oS 3 15 14]) (.ops [oM 16 1 3,oB 17 .add 3 (tK 16) (iK 1) 3 3,oA 1 17 3]))) (.ops [oM 10 5 3,oB 11 .add 3 (tK 10) (iK 1) 3 3,oA 5 11 3]))
def yP:SC:= .loop fV
def k13:SC:= .seq (.ops [oX 4 (.assign (iK 0)) 3]) (.seq (.seq (.ops [oX 5 (.assign (iK 0)) 3]) (.block 0 yP)) (.seq (.ops [oM 18 1 3,oA 4 18 3]) .ret))
theorem A5X:Tryz.f13.body.map (Bw lends)=some k13:=by kernel_rfl
theorem AHV:CP Tryz.f13 2=true:=by kernel_rfl
theorem c13{a l:List D}{r:D×List D}(h:CG Y.env k13 (FX Ah l.length [ResultVar.tmp 4] r) (entry a l))(ha:a.length=2):Y.call 13 a l=some r:=
 AZ (Y:=Y) rfl Tryz.func13 (ha▸AHV) A5X h
def Gd(k:Int)(k1:Int)(i:Int)(BA:AL)(s:St):Prop:=(∃w_,s.v 0=D.vw [100000] (s.k 100000) w_)∧s.v 1=D.int .i64 k1∧s.v 5=D.int .i64 i∧s.v 100000=D.own 3 (AV (D.int .i64) BA)
def LY(k:Int)(r:Int×AL)(ex:Ex)(s:St):Prop:=ex= .exit 0∧s.v 1=D.int .i64 r.1∧s.v 100000=D.own 3 (AV (D.int .i64) r.2)
theorem Vu(k:Int){v:Int×Int×AL}{s:St}{r:Int×AL}(h:NP k v=some r)(hM:Gd k v.1 v.2.1 v.2.2 s):CG Y.env yP (LY k r) s:=by
 unfold NP at h;refine BD (c:=fV) (fun v=>Gc k v.1 v.2.1 v.2.2) (fun v s=>Gd k v.1 v.2.1 v.2.2 s) (LY k) ?_ h hM;clear h hM s v r;intro v s o hM h;obtain⟨k1,i,BA⟩:=v;dsimp only at h hM;unfold Gc at h;unfold Gd at hM;obtain⟨⟨w0_,m0⟩,m1,m2,m3⟩:=hM;unfold fV;rcases iS h with⟨e1,h⟩|⟨e1,h⟩
 ·obtain⟨e2,h⟩:=EQ h
  obtain rfl:=Option.some.inj h
  simp only [↓AR,AU,↓reduceIte,Nat.reduceEqDiff,Nat.reduceLT,m0,m1,m2,m3,e1,e2.1,e2.2,Gd,FV]<;>(repeat' apply A7)<;>first|rfl|exact⟨_,rfl⟩|exact⟨_,_,rfl⟩|simp [AV,Ad]
 ·obtain rfl:=Option.some.inj h
  simp only [↓AR,AU,↓reduceIte,Nat.reduceEqDiff,Nat.reduceLT,m0,m1,m2,m3,e1,Gd,LY,KF]
theorem XK(a:AL)(k:Int){r:Int×AL}(h:Qt a k=some r):Y.call 13 [D.vw [100000] 0 0,D.int .i64 k] [D.own 3 (AV (D.int .i64) a)]=some (D.int .i64 r.1,[D.own 3 (AV (D.int .i64) r.2)]):=by
 refine c13 ?_ rfl;unfold k13;unfold Qt at h;obtain⟨AC,hl2,h⟩:=Aa h;try dsimp only at h
 simp only [↓AR,AU,↓reduceIte,Nat.reduceEqDiff,Nat.reduceLT,Nat.reduceAdd];refine Ai (Vu k hl2 ?_) ?_
 ·simp only [Bd,Da,↓reduceIte,Nat.reduceEqDiff,Nat.reduceLT,Nat.reduceSub,Gd]<;>(repeat' apply A7)<;>first|rfl|exact⟨_,rfl⟩|exact⟨_,_,rfl⟩|simp [AV,Ad]
 ·intro ex2 s2 hX2;unfold LY at hX2;obtain⟨rfl,n2_0,n2_1⟩:=hX2
  obtain rfl:=Option.some.inj h
  simp only [↓AR,AU,↓reduceIte,Nat.reduceEqDiff,Nat.reduceLT,n2_0,n2_1]
theorem aP(a:AL)(k:Int)(ha:a.length<1099511627776)(hk:0≤k∧k<1099511627776):Qt a k=some (k+a.length,upto k a.length):=by
 have key:=Bv (fun v=>Gc k v.1 v.2.1 v.2.2) (fun i=>(k+i,(i:Int),upto k i++a.drop i)) a.length (k+a.length,upto k a.length) ?_ ?_
 ·unfold Qt NP;have e0:upto k 0=[]:=rfl;simp only [Kr,Int.add_zero,Tu,e0,RP]at key;rw [key];rfl
 ·intro i hi;simp only [Gc];have el:(upto k i++a.drop i).length=a.length:=by simp [Nl];omega
  rw [el,if_pos (CV hi),BF (Iu hi),JD,yO a k i hi,JS i (by omega),Ec _ (by omega)]
  rw [show k+(i:Int)+1=k+((i+1:Nat):Int) by omega]
 ·simp only [Gc];have el:(upto k a.length++a.drop a.length).length=a.length:=by simp [Nl]
  rw [el,if_neg (Au _)];simp
theorem Q3(a:AL)(k:Int)(h0:a.length<1099511627776)(h1:0≤k∧k<1099511627776):Y.call 13 [D.vw [100000] 0 0,D.int .i64 k] [D.own 3 (AV (D.int .i64) a)]=some (D.int .i64 (k+a.length),[D.own 3 (AV (D.int .i64) (upto k a.length))]):=XK a k (aP a k h0 h1)
def Gy:Int→AO→AO
 |_,[]=>[]
 |k,x::l=>upto k x.length::Gy (k+x.length) l
noncomputable def IE(k:Int)(k1:Int)(i:Int)(BA:AO):Option ((Int×Int×AO)⊕(Int×AO)):= if i<(BA.length:Int)then ck (0≤i∧i.toNat<BA.length)<| ck ((BA.getD i.toNat default).length<1099511627776)<| ck (0≤k1∧k1<1099511627776)<| some (Sum.inl ((k1+(BA.getD i.toNat default).length),IntKind.i64.wrap (i+1),(BA.set i.toNat (upto k1 (BA.getD i.toNat default).length)))) else some (Sum.inr (k1,BA))
noncomputable def IG(k:Int)(v:Int×Int×AO):Option (Int×AO):=Hu (fun v=>IE k v.1 v.2.1 v.2.2) v
noncomputable def Pe(a:AO)(k:Int):Option (Int×AO):= (IG k (k,0,a)).bind fun AC=> some (AC.1,AC.2)
def fZ:SC:= .seq (.seq (.ops [oM 6 5 3,oM 7 0 22,oN 8 7 22,oB 9 .lss 3 (tK 6) (tK 8) 3 4]) (.cond (tK 9) .skip (.exit 0))) (.seq (.block 1 (.ops [oM 12 0 22,oM 13 5 3,oI 14 22 12 13,oL 15 27 14 27,oM 16 1 3,oC 17 13 [(tK 15),(tK 16)] [27,3] 3,oA 1 17 3])) (.ops [oM 10 5 3,oB 11 .add 3 (tK 10) (iK 1) 3 3,oA 5 11 3]))
def yQ:SC:= .loop fZ
def k27:SC:= .seq (.ops [oX 4 (.assign (iK 0)) 3]) (.seq (.seq (.ops [oX 5 (.assign (iK 0)) 3]) (.block 0 yQ)) (.seq (.ops [oM 18 1 3,oA 4 18 3]) .ret))
theorem A5Y:Tryz.f27.body.map (Bw lends)=some k27:=by kernel_rfl
theorem AHX:CP Tryz.f27 2=true:=by kernel_rfl
theorem c27{a l:List D}{r:D×List D}(h:CG Y.env k27 (FX Ah l.length [ResultVar.tmp 4] r) (entry a l))(ha:a.length=2):Y.call 27 a l=some r:=
 AZ (Y:=Y) rfl Tryz.func27 (ha▸AHX) A5Y h
def Fe(k:Int)(k1:Int)(i:Int)(BA:AO)(s:St):Prop:=(∃w_,s.v 0=D.vw [100000] (s.k 100000) w_)∧s.v 1=D.int .i64 k1∧s.v 5=D.int .i64 i∧s.v 100000=D.own 27 (AV KQ BA)
def KR(k:Int)(r:Int×AO)(ex:Ex)(s:St):Prop:=ex= .exit 0∧s.v 1=D.int .i64 r.1∧s.v 100000=D.own 27 (AV KQ r.2)
theorem V7(k:Int){v:Int×Int×AO}{s:St}{r:Int×AO}(h:IG k v=some r)(hM:Fe k v.1 v.2.1 v.2.2 s):CG Y.env yQ (KR k r) s:=by
 unfold IG at h;refine BD (c:=fZ) (fun v=>IE k v.1 v.2.1 v.2.2) (fun v s=>Fe k v.1 v.2.1 v.2.2 s) (KR k) ?_ h hM;clear h hM s v r;intro v s o hM h;obtain⟨k1,i,BA⟩:=v;dsimp only at h hM;unfold IE at h;unfold Fe at hM;obtain⟨⟨w0_,m0⟩,m1,m2,m3⟩:=hM;unfold fZ;rcases iS h with⟨e1,h⟩|⟨e1,h⟩
 ·obtain⟨e2,e3,e4,h⟩:=XE h;have c5:=Q3 (BA.getD i.toNat default) k1 e3 e4
  obtain rfl:=Option.some.inj h
  simp only [↓AR,AU,↓reduceIte,Nat.reduceEqDiff,Nat.reduceLT,m0,m1,m2,m3,e1,e2.1,e2.2,c5,Fe,FV]<;>(repeat' apply A7)<;>first|rfl|exact⟨_,rfl⟩|exact⟨_,_,rfl⟩|simp [AV,Ad]
 ·obtain rfl:=Option.some.inj h
  simp only [↓AR,AU,↓reduceIte,Nat.reduceEqDiff,Nat.reduceLT,m0,m1,m2,m3,e1,Fe,KR,KF]
theorem Vv(a:AO)(k:Int){r:Int×AO}(h:Pe a k=some r):Y.call 27 [D.vw [100000] 0 0,D.int .i64 k] [D.own 27 (AV KQ a)]=some (D.int .i64 r.1,[D.own 27 (AV KQ r.2)]):=by
 refine c27 ?_ rfl;unfold k27;unfold Pe at h;obtain⟨AC,hl2,h⟩:=Aa h;try dsimp only at h
 simp only [↓AR,AU,↓reduceIte,Nat.reduceEqDiff,Nat.reduceLT,Nat.reduceAdd];refine Ai (V7 k hl2 ?_) ?_
 ·simp only [Bd,Da,↓reduceIte,Nat.reduceEqDiff,Nat.reduceLT,Nat.reduceSub,Fe]<;>(repeat' apply A7)<;>first|rfl|exact⟨_,rfl⟩|exact⟨_,_,rfl⟩|simp [AV,Ad]
 ·intro ex2 s2 hX2;unfold KR at hX2;obtain⟨rfl,n2_0,n2_1⟩:=hX2
  obtain rfl:=Option.some.inj h
  simp only [↓AR,AU,↓reduceIte,Nat.reduceEqDiff,Nat.reduceLT,n2_0,n2_1]
theorem V8(kk:Int): ∀(b a:AO) (k:Int),BB b→a.length+b.length<1099511627776→0≤k→k+DC b<1099511627776→
  IG kk (k,(a.length:Int),a++b)=some (k+DC b,a++Gy k b):=by
 intro b
 induction b with
 |nil=>
  intro a k hb hab hk hkt;unfold IG;rw [GV (r:=(k,a++[]))]
  ·rw [V3,Int.add_zero];rfl
  ·simp only [IE];rw [if_neg (V5 _)]
 |cons x b ih=>
  intro a k hb hab hk hkt;rw [MJ]at hkt;simp only [Ji]at hab;have hx:x.length<1099511627776:=hb.2 x (Jq ..);have ht:=DL b;have:=ih (a++[upto k x.length]) (k+x.length) ⟨by omega,fun y hy=>hb.2 y (Kn _ hy)⟩ (by simp;omega) (by omega) (by omega)
  unfold IG at this ⊢;have eg:(a++x::b).getD (a.length:Int).toNat default=x:=by rw [JD];exact EG a (x::b) a.length rfl (by simp)
  rw [NM (s':=(k+x.length,((a++[upto k x.length]).length:Int),(a++[upto k x.length])++b)),this]
  ·rw [MJ,show k+(x.length:Int)+DC b=k+(x.length+DC b) by omega]
   simp [Gy]
  ·simp only [IE];rw [if_pos (U7 ..),BF (U8 ..),BF (by rw [eg];exact hx),BF ⟨hk,by omega⟩,eg,JS _ (by omega),JD,mg _ _ (JE _),X6,List.set_cons_zero]
   simp
theorem Yt(a:AO)(k:Int)(ha:BB a)(hk:0≤k∧k+DC a<1099511627776):Pe a k=some (k+DC a,Gy k a):=by
 unfold Pe;have:=V8 k a [] k ha (by have:=ha.1;simp;omega) hk.1 hk.2
 simp only [Re,RP,Kr]at this;rw [this];rfl
theorem SI(a:AO)(k:Int)(h0:BB a)(h1:0≤k∧k+DC a<1099511627776):Y.call 27 [D.vw [100000] 0 0,D.int .i64 k] [D.own 27 (AV KQ a)]=some (D.int .i64 (k+DC a),[D.own 27 (AV KQ (Gy k a))]):=Vv a k (Yt a k h0 h1)
def Py:Int→AL→Int
 |k,[]=>k
 |k,x::l=>if x=k then Py (k+1) l else-1
noncomputable def Gf(a:AL)(k1:Int)(i:Int):Option ((Int×Int)⊕(Unit⊕Int)):= if i<(a.length:Int)then ck (0≤i∧i.toNat<a.length)<| if(a.getD i.toNat default)=k1 then some (Sum.inl (IntKind.i64.wrap (k1+1),IntKind.i64.wrap (i+1))) else some (Sum.inr (Sum.inl ())) else some (Sum.inr (Sum.inr k1))
noncomputable def He(a:AL)(v:Int×Int):Option (Unit⊕Int):=Hu (fun v=>Gf a v.1 v.2) v
noncomputable def Qu(a:AL)(k:Int):Option (Int):=
 (He a (k,0)).bind fun AC=>
 match AC with
 | .inl q1000_=>
  some (-1)
 | .inr q1000_=>
  some q1000_
def fe:SC:= .seq (.seq (.ops [oM 6 5 3,oM 7 0 27,oN 8 7 27,oB 9 .lss 3 (tK 6) (tK 8) 3 4]) (.cond (tK 9) .skip (.exit 0))) (.seq (.block 1 (.seq (.seq (.ops [oM 12 0 27,oM 13 5 3,oI 14 27 12 13,oL 15 3 14 3,oM 16 1 3,oB 17 .neq 3 (tK 15) (tK 16) 3 4]) (.cond (tK 17) (.seq (.ops [oX 4 U6 3]) .ret) .skip)) (.ops [oM 18 1 3,oB 19 .add 3 (tK 18) (iK 1) 3 3,oA 1 19 3]))) (.ops [oM 10 5 3,oB 11 .add 3 (tK 10) (iK 1) 3 3,oA 5 11 3]))
def yR:SC:= .loop fe
def k15:SC:= .seq (.ops [oX 4 (.assign (iK 0)) 3]) (.seq (.seq (.ops [oX 5 (.assign (iK 0)) 3]) (.block 0 yR)) (.seq (.ops [oM 20 1 3,oA 4 20 3]) .ret))
theorem A5Z:Tryz.f15.body.map (Bw lends)=some k15:=by kernel_rfl
theorem AHa:CP Tryz.f15 2=true:=by kernel_rfl
theorem c15{a l:List D}{r:D×List D}(h:CG Y.env k15 (FX Ah l.length [ResultVar.tmp 4] r) (entry a l))(ha:a.length=2):Y.call 15 a l=some r:=
 AZ (Y:=Y) rfl Tryz.func15 (ha▸AHa) A5Z h
def FK(a:AL)(k1:Int)(i:Int)(s:St):Prop:=s.v 0=D.sl 3 (AV (D.int .i64) a)∧s.v 1=D.int .i64 k1∧s.v 5=D.int .i64 i
def Gg(a:AL)(r:Unit⊕Int)(ex:Ex)(s:St):Prop:=match r with
 | .inl q=>ex= .ret∧s.v 4=D.int .i64 (-1)
 | .inr q=>ex= .exit 0∧s.v 1=D.int .i64 q
theorem Vw(a:AL){v:Int×Int}{s:St}{r:Unit⊕Int}(h:He a v=some r)(hM:FK a v.1 v.2 s):CG Y.env yR (Gg a r) s:=by
 unfold He at h;refine BD (c:=fe) (fun v=>Gf a v.1 v.2) (fun v s=>FK a v.1 v.2 s) (Gg a) ?_ h hM;clear h hM s v r;intro v s o hM h;obtain⟨k1,i⟩:=v;dsimp only at h hM;unfold Gf at h;unfold FK at hM;obtain⟨m0,m1,m2⟩:=hM;unfold fe;rcases iS h with⟨e1,h⟩|⟨e1,h⟩
 ·obtain⟨e2,h⟩:=EQ h;rcases iS h with⟨e3,h⟩|⟨e3,h⟩
  ·obtain rfl:=Option.some.inj h
   simp only [↓AR,AU,↓reduceIte,Nat.reduceEqDiff,Nat.reduceLT,m0,m1,m2,e1,e2.1,e2.2,decide_eq_true e3,FK,FV]
  ·obtain rfl:=Option.some.inj h
   simp only [↓AR,AU,↓reduceIte,Nat.reduceEqDiff,Nat.reduceLT,m0,m1,m2,e1,e2.1,e2.2,e3,FK,Gg,U2]
 ·obtain rfl:=Option.some.inj h
  simp only [↓AR,AU,↓reduceIte,Nat.reduceEqDiff,Nat.reduceLT,m0,m1,m2,e1,FK,Gg,KF]
theorem XL(a:AL)(k:Int){r:Int}(h:Qu a k=some r):Y.call 15 [D.sl 3 (AV (D.int .i64) a),D.int .i64 k] []=some (D.int .i64 r,[]):=by
 refine c15 ?_ rfl;unfold k15;unfold Qu at h;obtain⟨AC,hl2,h⟩:=Aa h;try dsimp only at h
 simp only [↓AR,AU,↓reduceIte,Nat.reduceEqDiff,Nat.reduceLT];refine Ai (Vw a hl2 ?_) ?_
 ·simp only [Bd,Da,↓reduceIte,Nat.reduceEqDiff,Nat.reduceLT,FK]
 ·intro ex2 s2 hX2;rcases AC with q1000_|q1000_
  ·unfold Gg at hX2;dsimp only at hX2 h;obtain⟨rfl,n2_0⟩:=hX2
   obtain rfl:=Option.some.inj h
   simp only [↓AR,AU,↓reduceIte,n2_0]
  ·unfold Gg at hX2;dsimp only at hX2 h;obtain⟨rfl,n2_0⟩:=hX2
   obtain rfl:=Option.some.inj h
   simp only [↓AR,AU,↓reduceIte,Nat.reduceEqDiff,Nat.reduceLT,n2_0]
theorem Vx: ∀(b a:AL) (k:Int),a.length+b.length<1099511627776→0≤k→k+b.length<1099511627776→
  He (a++b) (k,(a.length:Int))=some (if Py k b= -1 then .inl ()else .inr (Py k b)):=by
 intro b
 induction b with
 |nil=>
  intro a k hab hk hkt;unfold He;rw [GV (r:=Sum.inr k)]
  ·unfold Py;rw [if_neg (by omega)]
  ·simp only [Gf];rw [if_neg (V5 _)]
 |cons x b ih=>
  intro a k hab hk hkt;simp only [Ji]at hab hkt;have eg:(a++x::b).getD (a.length:Int).toNat default=x:=by rw [JD];exact EG a (x::b) a.length rfl (by simp)
  unfold Py;by_cases hq:x=k
  ·rw [if_pos hq];have:=ih (a++[x]) (k+1) (by simp;omega) (by omega) (by omega)
   unfold He at this ⊢;rw [NM (s':=(k+1,((a++[x]).length:Int)))]
   ·rw [show a++x::b=a++[x]++b by simp];exact this
   ·simp only [Gf];rw [if_pos (U7 ..),BF (U8 ..),eg,if_pos hq,JS _ (by omega),Ec _ (by omega)];simp
  ·rw [if_neg hq];unfold He;rw [GV (r:=Sum.inl ())]
   ·rfl
   ·simp only [Gf];rw [if_pos (U7 ..),BF (U8 ..),eg,if_neg hq]
theorem aQ(a:AL)(k:Int)(ha:a.length<1099511627776)(hk:0≤k∧k+a.length<1099511627776):Qu a k=some (Py k a):=by
 unfold Qu;have:=Vx a [] k (by simpa using ha) hk.1 hk.2
 simp only [Re,RP,Kr]at this;rw [this,Cs];by_cases h:Py k a= -1
 ·rw [if_pos h,h]
 ·rw [if_neg h]
theorem LA(a:AL)(k:Int)(h0:a.length<1099511627776)(h1:0≤k∧k+a.length<1099511627776):Y.call 15 [D.sl 3 (AV (D.int .i64) a),D.int .i64 k] []=some (D.int .i64 (Py k a),[]):=XL a k (aQ a k h0 h1)
theorem bn(n:Nat): ∀k,Py k (upto k n)=k+n:=by
 induction n with
 |zero=>intro k;simp [upto,Py]
 |succ n ih=>
  intro k
  have e:upto k (n+1)=k::upto (k+1) n:=by
   simp only [upto,List.range_succ_eq_map,RQ,List.map_map]
   congr 1
   ·simp
   ·apply List.map_congr_left;intro i _;simp;omega
  rw [e,Py,if_pos rfl,ih];omega
noncomputable def II(a:AO)(k1:Int)(i:Int):Option ((Int×Int)⊕(Unit⊕Int)):= if i<(a.length:Int)then ck (0≤i∧i.toNat<a.length)<| ck ((a.getD i.toNat default).length<1099511627776)<| ck (0≤k1∧k1+(a.getD i.toNat default).length<1099511627776)<| if(Py k1 (a.getD i.toNat default))<0 then some (Sum.inr (Sum.inl ())) else some (Sum.inl ((Py k1 (a.getD i.toNat default)),IntKind.i64.wrap (i+1))) else some (Sum.inr (Sum.inr k1))
noncomputable def IJ(a:AO)(v:Int×Int):Option (Unit⊕Int):=Hu (fun v=>II a v.1 v.2) v
noncomputable def Lt(a:AO)(k:Int):Option (Int):=
 (IJ a (k,0)).bind fun AC=>
 match AC with
 | .inl q1000_=>
  some (-1)
 | .inr q1000_=>
  some q1000_
def fq:SC:= .seq (.seq (.ops [oM 6 5 3,oM 7 0 22,oN 8 7 22,oB 9 .lss 3 (tK 6) (tK 8) 3 4]) (.cond (tK 9) .skip (.exit 0))) (.seq (.block 1 (.seq (.ops [oM 12 0 22,oM 13 5 3,oI 14 22 12 13,oL 15 27 14 27,oM 16 1 3,oC 17 15 [(tK 15),(tK 16)] [27,3] 3,oA 1 17 3]) (.seq (.ops [oM 18 1 3,oB 19 .lss 3 (tK 18) (iK 0) 3 4]) (.cond (tK 19) (.seq (.ops [oX 4 U6 3]) .ret) .skip)))) (.ops [oM 10 5 3,oB 11 .add 3 (tK 10) (iK 1) 3 3,oA 5 11 3]))
def yS:SC:= .loop fq
def k28:SC:= .seq (.ops [oX 4 (.assign (iK 0)) 3]) (.seq (.seq (.ops [oX 5 (.assign (iK 0)) 3]) (.block 0 yS)) (.seq (.ops [oM 20 1 3,oA 4 20 3]) .ret))
theorem A5a:Tryz.f28.body.map (Bw lends)=some k28:=by kernel_rfl
theorem AHc:CP Tryz.f28 2=true:=by kernel_rfl
theorem c28{a l:List D}{r:D×List D}(h:CG Y.env k28 (FX Ah l.length [ResultVar.tmp 4] r) (entry a l))(ha:a.length=2):Y.call 28 a l=some r:=
 AZ (Y:=Y) rfl Tryz.func28 (ha▸AHc) A5a h
def Ed(a:AO)(k1:Int)(i:Int)(s:St):Prop:=s.v 0=D.sl 27 (AV Aw a)∧s.v 1=D.int .i64 k1∧s.v 5=D.int .i64 i
def Ff(a:AO)(r:Unit⊕Int)(ex:Ex)(s:St):Prop:=match r with
 | .inl q=>ex= .ret∧s.v 4=D.int .i64 (-1)
 | .inr q=>ex= .exit 0∧s.v 1=D.int .i64 q
theorem V9(a:AO){v:Int×Int}{s:St}{r:Unit⊕Int}(h:IJ a v=some r)(hM:Ed a v.1 v.2 s):CG Y.env yS (Ff a r) s:=by
 unfold IJ at h;refine BD (c:=fq) (fun v=>II a v.1 v.2) (fun v s=>Ed a v.1 v.2 s) (Ff a) ?_ h hM;clear h hM s v r;intro v s o hM h;obtain⟨k1,i⟩:=v;dsimp only at h hM;unfold II at h;unfold Ed at hM;obtain⟨m0,m1,m2⟩:=hM;unfold fq;rcases iS h with⟨e1,h⟩|⟨e1,h⟩
 ·obtain⟨e2,e3,e4,h⟩:=XE h;have c5:=LA (a.getD i.toNat default) k1 e3 e4;rcases iS h with⟨e6,h⟩|⟨e6,h⟩
  ·obtain rfl:=Option.some.inj h
   simp only [↓AR,AU,↓reduceIte,Nat.reduceEqDiff,Nat.reduceLT,m0,m1,m2,e1,e2.1,e2.2,c5,e6,Ed,Ff,U2]
  ·obtain rfl:=Option.some.inj h
   simp only [↓AR,AU,↓reduceIte,Nat.reduceEqDiff,Nat.reduceLT,m0,m1,m2,e1,e2.1,e2.2,c5,e6,Ed,FV]
 ·obtain rfl:=Option.some.inj h
  simp only [↓AR,AU,↓reduceIte,Nat.reduceEqDiff,Nat.reduceLT,m0,m1,m2,e1,Ed,Ff,KF]
theorem QV(a:AO)(k:Int){r:Int}(h:Lt a k=some r):Y.call 28 [D.sl 27 (AV Aw a),D.int .i64 k] []=some (D.int .i64 r,[]):=by
 refine c28 ?_ rfl;unfold k28;unfold Lt at h;obtain⟨AC,hl2,h⟩:=Aa h;try dsimp only at h
 simp only [↓AR,AU,↓reduceIte,Nat.reduceEqDiff,Nat.reduceLT];refine Ai (V9 a hl2 ?_) ?_
 ·simp only [Bd,Da,↓reduceIte,Nat.reduceEqDiff,Nat.reduceLT,Ed]
 ·intro ex2 s2 hX2;rcases AC with q1000_|q1000_
  ·unfold Ff at hX2;dsimp only at hX2 h;obtain⟨rfl,n2_0⟩:=hX2
   obtain rfl:=Option.some.inj h
   simp only [↓AR,AU,↓reduceIte,n2_0]
  ·unfold Ff at hX2;dsimp only at hX2 h;obtain⟨rfl,n2_0⟩:=hX2
   obtain rfl:=Option.some.inj h
   simp only [↓AR,AU,↓reduceIte,Nat.reduceEqDiff,Nat.reduceLT,n2_0]
theorem VA: ∀(b a:AO) (k:Int),BB b→a.length+b.length<1099511627776→0≤k→k+DC b<1099511627776→
  IJ (a++Gy k b) (k,(a.length:Int))=some (.inr (k+DC b)):=by
 intro b
 induction b with
 |nil=>
  intro a k hb hab hk hkt;unfold IJ;rw [GV (r:=Sum.inr k)]
  ·rw [V3,Int.add_zero]
  ·rw [show Gy k []=[]from rfl];simp only [II];rw [if_neg (V5 _)]
 |cons x b ih=>
  intro a k hb hab hk hkt;rw [MJ]at hkt;simp only [Ji]at hab;have hx:x.length<1099511627776:=hb.2 x (Jq ..);have ht:=DL b;have:=ih (a++[upto k x.length]) (k+x.length) ⟨by omega,fun y hy=>hb.2 y (Kn _ hy)⟩ (by simp;omega) (by omega) (by omega)
  unfold IJ at this ⊢;have eg:(a++Gy k (x::b)).getD (a.length:Int).toNat default=upto k x.length:=by rw [JD];exact EG a (Gy k (x::b)) a.length rfl (by simp [Gy])
  rw [NM (s':=(k+x.length,((a++[upto k x.length]).length:Int)))]
  ·rw [show a++Gy k (x::b)=a++[upto k x.length]++Gy (k+x.length) b by simp [Gy],this,MJ]
   rw [show k+(x.length:Int)+DC b=k+(x.length+DC b) by omega]
  ·simp only [II];rw [Gy]at eg ⊢;rw [if_pos (U7 ..),BF (U8 ..),BF (by rw [eg,Nl];exact hx),BF (by rw [eg,Nl];omega),eg,bn,if_neg (by omega),JS _ (by omega)];simp
theorem SK(a:AO)(k:Int)(ha:BB a)(hk:0≤k∧k+DC a<1099511627776):Lt (Gy k a) k=some (k+DC a):=by
 unfold Lt;have:=VA a [] k ha (by have:=ha.1;simp;omega) hk.1 hk.2
 simp only [Re,RP,Kr]at this;rw [this];rfl
end Go.Proofs.YtjhjkfoabhplfaaGreat
