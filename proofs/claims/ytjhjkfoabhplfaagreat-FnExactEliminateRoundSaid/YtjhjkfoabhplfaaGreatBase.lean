/- Copies, comparisons, sizes and marks of numbers in lists, as plain functions. Conditions: the lists are short. -/
import Derived.Test.YtjhjkfoabhplfaaGreatL6
import Derived.Test.YtjhjkfoabhplfaaGreatDt
namespace Go.Proofs.YtjhjkfoabhplfaaGreat
open Go Dv
set_option linter.unusedSimpArgs false
set_option linter.unusedVariables false
set_option maxRecDepth 100000
set_option maxHeartbeats 4000000
def Ah(l:AL):Prop:=l.length<1099511627776∧ ∀x∈l,x.length<1099511627776
theorem Ah.nil:Ah []:=⟨by decide,fun _ h=>by cases h⟩
theorem Ah.at{l:AL}(h:Ah l)(i:Nat)(hi:i<l.length):l[i].length<1099511627776:=h.2 _ (FT hi)
instance (l:AL):Decidable (Ah l):=by unfold Ah;infer_instance
theorem um{α:Type}[Inhabited α](xs:List α)(i:Nat)(h:i<xs.length)(z:α):(xs.take i++List.replicate (xs.length-i) z).set i xs[i]=xs.take (i+1)++List.replicate (xs.length-(i+1)) z:=by
 have e:xs.length-i=(xs.length-(i+1))+1:=by omega
 rw [e,qK,qG _ _ (by simp;omega),S9 h]
 have:i-(xs.take i).length=0:=by simp;omega
 rw [this,List.set_cons_zero,Tv];rfl
noncomputable def J8(a out:AA)(i:Int):Option ((AA×Int)⊕(AA)):= if i<(a.length:Int)then ck (0≤i∧i.toNat<a.length)<| ck (0≤i∧i.toNat<out.length)<| some (Sum.inl ((out.set i.toNat (a.getD i.toNat default)),IntKind.i64.wrap (i+1))) else some (Sum.inr out)
noncomputable def Po(a:AA)(v:AA×Int):Option (AA):=Fv (fun v=>J8 a v.1 v.2) v
noncomputable def VU(a:AA):Option (AA):= ck (0≤(a.length:Int)∧(a.length:Int)<1099511627776)<| (Po a ((List.replicate a.length 0),0)).bind fun A8=> some A8
def iZ:SC:= .seq (.seq (.ops [oM 8 4 3,oM 9 0 27,oN 10 9 27,oB 11 .lss 3 (tK 8) (tK 10) 3 4]) (.cond (tK 11) .skip (.exit 0))) (.seq (.block 1 (.ops [oM 14 3 27,oM 15 4 3,oM 16 0 27,oM 17 4 3,oI 18 27 16 17,oL 19 3 18 3,oI 20 27 14 15,oS 3 20 19])) (.ops [oM 12 4 3,oB 13 .add 3 (tK 12) (iK 1) 3 3,oA 4 13 3]))
def A0L:SC:= .loop iZ
def k37:SC:= .seq (.ops [oX 2 CG 27]) (.seq (.ops [oM 5 0 27,oN 6 5 27,oX 7 (.makeSlice 27 (tK 6) (tK 6)) 27,oA 3 7 27]) (.seq (.seq (.ops [oX 4 (.assign (iK 0)) 3]) (.block 0 A0L)) (.seq (.ops [oM 21 3 27,oA 2 21 27]) .ret)))
theorem A7D:Tryz.f37.body.map (BI lends)=some k37:=by kernel_rfl
theorem AJS:BR Tryz.f37 1=true:=by kernel_rfl
theorem xN{a l:List D}{r:D×List D}(h:BU Y.env k37 (Du Ab l.length [ResultVar.tmp 2] r) (entry a l))(ha:a.length=1):Y.call 37 a l=some r:=
 AP (Y:=Y) rfl Tryz.func37 (ha▸AJS) A7D h
def J9(a out:AA)(i:Int)(s:St):Prop:=s.v 0=D.sl 3 (AJ (D.int .i64) a)∧s.v 3=D.own 3 (AJ (D.int .i64) out)∧s.v 4=D.int .i64 i
def NI(a:AA)(r:AA)(ex:Ex)(s:St):Prop:=ex= .exit 0∧s.v 3=D.own 3 (AJ (D.int .i64) r)
theorem ZZ(a:AA){v:AA×Int}{s:St}{r:AA}(h:Po a v=some r)(hM:J9 a v.1 v.2 s):BU Y.env A0L (NI a r) s:=by
 unfold Po at h;refine Ap (c:=iZ) (fun v=>J8 a v.1 v.2) (fun v s=>J9 a v.1 v.2 s) (NI a) ?_ h hM;clear h hM s v r;intro v s o hM h;obtain⟨out,i⟩:=v;dsimp only at h hM;unfold J8 at h;unfold J9 at hM;obtain⟨m0,m1,m2⟩:=hM;unfold iZ;rcases iS h with⟨e2,h⟩|⟨e2,h⟩
 ·obtain⟨e3,e4,h⟩:=Fy h;cases h;simp only [↓AB,AC,↓reduceIte,Nat.reduceEqDiff,Nat.reduceLT,m0,m1,m2,e2,e3.1,e3.2,e4.2,J9,Dw]
 ·cases h;simp only [↓AB,AC,↓reduceIte,Nat.reduceEqDiff,Nat.reduceLT,m0,m1,m2,e2,J9,NI,Ir]
theorem bi(a:AA){r:AA}(h:VU a=some r):Y.call 37 [D.sl 3 (AJ (D.int .i64) a)] []=some (D.own 3 (AJ (D.int .i64) r),[]):=by
 refine xN ?_ rfl;unfold k37;unfold VU at h;obtain⟨e1,h⟩:=DL h;obtain⟨A8,hl3,h⟩:=AQ h;try dsimp only at h
 simp only [↓AB,AC,↓reduceIte,Nat.reduceEqDiff,Nat.reduceLT,Nat.reduceLeDiff,e1.1,e1.2];refine AZ (ZZ a hl3 ?_) ?_
 ·simp only [BC,Ce,↓reduceIte,Nat.reduceEqDiff,Nat.reduceLT,J9]
 ·intro ex3 s3 hX3;unfold NI at hX3;obtain⟨rfl,n3_0⟩:=hX3;cases h;simp only [↓AB,AC,↓reduceIte,Nat.reduceEqDiff,Nat.reduceLT,n3_0]
theorem o5(a:AA)(h:a.length<1099511627776):VU a=some a:=by
 have key:=BD (fun v=>J8 a v.1 v.2) (fun i=>(a.take i++List.replicate (a.length-i) 0,(i:Int))) a.length a ?_ ?_
 ·unfold VU Po;rw [Ao (by omega)]
  simp only [List.take_zero,R5,Nat.sub_zero,Jb]at key;rw [key];rfl
 ·intro i hi;simp only [J8];rw [if_pos (BZ hi),Ao (Gj hi),Ao (Gj (by simp;omega)),M7 _ _ hi,H5,um a i hi 0,H9 i (by omega)]
 ·simp only [J8];rw [if_neg (Ae _)];simp
theorem o6(a:AA)(h0:a.length<1099511627776):Y.call 37 [D.sl 3 (AJ (D.int .i64) a)] []=some (D.own 3 (AJ (D.int .i64) a),[]):=bi a (o5 a h0)
noncomputable def HV(a out:AL)(i:Int):Option ((AL×Int)⊕(AL)):= if i<(a.length:Int)then ck (0≤i∧i.toNat<a.length)<| ck ((a.getD i.toNat default).length<1099511627776)<| ck (0≤i∧i.toNat<out.length)<| some (Sum.inl ((out.set i.toNat (a.getD i.toNat default)),IntKind.i64.wrap (i+1))) else some (Sum.inr out)
noncomputable def OO(a:AL)(v:AL×Int):Option (AL):=Fv (fun v=>HV a v.1 v.2) v
noncomputable def TZ(a:AL):Option (AL):= ck (0≤(a.length:Int)∧(a.length:Int)<1099511627776)<| (OO a ((List.replicate a.length ([]:AA)),0)).bind fun A8=> some A8
def ib:SC:= .seq (.seq (.ops [oM 8 4 3,oM 9 0 22,oN 10 9 22,oB 11 .lss 3 (tK 8) (tK 10) 3 4]) (.cond (tK 11) .skip (.exit 0))) (.seq (.block 1 (.ops [oM 14 3 22,oM 15 4 3,oM 16 0 22,oM 17 4 3,oI 18 22 16 17,oL 19 27 18 27,oC 20 37 [(tK 19)] [27] 27,oI 21 22 14 15,oS 27 21 20])) (.ops [oM 12 4 3,oB 13 .add 3 (tK 12) (iK 1) 3 3,oA 4 13 3]))
def A0M:SC:= .loop ib
def k23:SC:= .seq (.ops [oX 2 CG 22]) (.seq (.ops [oM 5 0 22,oN 6 5 22,oX 7 (.makeSlice 22 (tK 6) (tK 6)) 22,oA 3 7 22]) (.seq (.seq (.ops [oX 4 (.assign (iK 0)) 3]) (.block 0 A0M)) (.seq (.ops [oM 22 3 22,oA 2 22 22]) .ret)))
theorem A7E:Tryz.f23.body.map (BI lends)=some k23:=by kernel_rfl
theorem AJU:BR Tryz.f23 1=true:=by kernel_rfl
theorem c23{a l:List D}{r:D×List D}(h:BU Y.env k23 (Du Ab l.length [ResultVar.tmp 2] r) (entry a l))(ha:a.length=1):Y.call 23 a l=some r:=
 AP (Y:=Y) rfl Tryz.func23 (ha▸AJU) A7E h
def HY(a out:AL)(i:Int)(s:St):Prop:=s.v 0=D.sl 27 (AJ Ac a)∧s.v 3=D.own 27 (AJ IX out)∧s.v 4=D.int .i64 i
def M8(a:AL)(r:AL)(ex:Ex)(s:St):Prop:=ex= .exit 0∧s.v 3=D.own 27 (AJ IX r)
theorem Xz(a:AL){v:AL×Int}{s:St}{r:AL}(h:OO a v=some r)(hM:HY a v.1 v.2 s):BU Y.env A0M (M8 a r) s:=by
 unfold OO at h;refine Ap (c:=ib) (fun v=>HV a v.1 v.2) (fun v s=>HY a v.1 v.2 s) (M8 a) ?_ h hM;clear h hM s v r;intro v s o hM h;obtain⟨out,i⟩:=v;dsimp only at h hM;unfold HV at h;unfold HY at hM;obtain⟨m0,m1,m2⟩:=hM;unfold ib;rcases iS h with⟨e2,h⟩|⟨e2,h⟩
 ·obtain⟨e3,e4,h⟩:=Fy h;have c5:=o6 (a.getD i.toNat default) e4;obtain⟨e6,h⟩:=DL h;cases h;simp only [↓AB,AC,↓reduceIte,Nat.reduceEqDiff,Nat.reduceLT,m0,m1,m2,e2,e3.1,e3.2,c5,e6.2,HY,Dw]
 ·cases h;simp only [↓AB,AC,↓reduceIte,Nat.reduceEqDiff,Nat.reduceLT,m0,m1,m2,e2,HY,M8,Ir]
theorem Za(a:AL){r:AL}(h:TZ a=some r):Y.call 23 [D.sl 27 (AJ Ac a)] []=some (D.own 27 (AJ IX r),[]):=by
 refine c23 ?_ rfl;unfold k23;unfold TZ at h;obtain⟨e1,h⟩:=DL h;obtain⟨A8,hl3,h⟩:=AQ h;try dsimp only at h
 simp only [↓AB,AC,↓reduceIte,Nat.reduceEqDiff,Nat.reduceLT,Nat.reduceLeDiff,e1.1,e1.2];refine AZ (Xz a hl3 ?_) ?_
 ·simp only [BC,Ce,↓reduceIte,Nat.reduceEqDiff,Nat.reduceLT,HY]
 ·intro ex3 s3 hX3;unfold M8 at hX3;obtain⟨rfl,n3_0⟩:=hX3;cases h;simp only [↓AB,AC,↓reduceIte,Nat.reduceEqDiff,Nat.reduceLT,n3_0]
theorem ic(a:AL)(h:Ah a):TZ a=some a:=by
 have h1:=h.1;have key:=BD (fun v=>HV a v.1 v.2) (fun i=>(a.take i++List.replicate (a.length-i) [],(i:Int))) a.length a ?_ ?_
 ·unfold TZ OO;rw [Ao (by omega)]
  simp only [List.take_zero,R5,Nat.sub_zero,Jb]at key;rw [key];rfl
 ·intro i hi;simp only [HV];rw [if_pos (BZ hi),Ao (Gj hi),Ao (by rw [M7 _ _ hi];exact h.at i hi),Ao (Gj (by simp;omega)),M7 _ _ hi,H5,um a i hi [],H9 i (by omega)]
 ·simp only [HV];rw [if_neg (Ae _)];simp
theorem VV(a:AL)(h0:Ah a):Y.call 23 [D.sl 27 (AJ Ac a)] []=some (D.own 27 (AJ IX a),[]):=Za a (ic a h0)
noncomputable def JA(a b:AA)(i:Int):Option ((Int)⊕(Unit⊕Unit)):= if i<(a.length:Int)then ck (0≤i∧i.toNat<a.length)<| ck (0≤i∧i.toNat<b.length)<| if(a.getD i.toNat default)=(b.getD i.toNat default)then some (Sum.inl (IntKind.i64.wrap (i+1))) else some (Sum.inr (Sum.inl ())) else some (Sum.inr (Sum.inr ()))
noncomputable def Pp(a b:AA)(v:Int):Option (Unit⊕Unit):=Fv (fun v=>JA a b v) v
noncomputable def VW(a b:AA):Option (Bool):=
 if(a.length:Int)=(b.length:Int)then
  (Pp a b 0).bind fun A8=>
  match A8 with
  | .inl q1000_=>
   some false
  | .inr q1000_=>
   some true
 else
  some false
abbrev qd4:List Nat:=[17,18,19,20,21,22,23,24,25]
def ig:SC:= .seq (.seq (.ops [oM 11 5 3,oM 12 0 27,oN 13 12 27,oB 14 .lss 3 (tK 11) (tK 13) 3 4]) (.cond (tK 14) .skip (.exit 0))) (.seq (.block 1 (.seq (.draws [(⟨[17,0,0],qd4,[17]⟩,oM 17 0 27),(⟨[18,5,5],qd4,[18]⟩,oM 18 5 3),(⟨[19,17,18,0,5],qd4,[19]⟩,oI 19 27 17 18),(⟨[20,19,0],qd4,[20]⟩,oL 20 3 19 3),(⟨[21,1,1],qd4,[21]⟩,oM 21 1 27),(⟨[22,5,5],qd4,[22]⟩,oM 22 5 3),(⟨[23,21,22,1,5],qd4,[23]⟩,oI 23 27 21 22),(⟨[24,23,1],qd4,[24]⟩,oL 24 3 23 3),(⟨[25,20,24,0,1],qd4,[25]⟩,oB 25 .neq 3 (tK 20) (tK 24) 3 4)]) (.cond (tK 25) (.seq (.ops [oX 4 BX 4]) .ret) .skip))) (.ops [oM 15 5 3,oB 16 .add 3 (tK 15) (iK 1) 3 3,oA 5 16 3]))
def A0N:SC:= .loop ig
def k11:SC:= .seq (.ops [oX 4 BX 4]) (.seq (.seq (.ops [oM 6 0 27,oN 7 6 27,oM 8 1 27,oN 9 8 27,oB 10 .neq 3 (tK 7) (tK 9) 3 4]) (.cond (tK 10) (.seq (.ops [oX 4 BX 4]) .ret) .skip)) (.seq (.seq (.ops [oX 5 (.assign (iK 0)) 3]) (.block 0 A0N)) (.seq (.ops [oX 4 (.assign Gx) 4]) .ret)))
theorem A7F:Tryz.f11.body.map (BI lends)=some k11:=by kernel_rfl
theorem AJX:BR Tryz.f11 2=true:=by kernel_rfl
theorem eY{a l:List D}{r:D×List D}(h:BU Y.env k11 (Du Ab l.length [ResultVar.tmp 4] r) (entry a l))(ha:a.length=2):Y.call 11 a l=some r:=
 AP (Y:=Y) rfl Tryz.func11 (ha▸AJX) A7F h
def Gl(a b:AA)(i:Int)(s:St):Prop:=s.v 0=D.sl 3 (AJ (D.int .i64) a)∧s.v 1=D.sl 3 (AJ (D.int .i64) b)∧s.v 5=D.int .i64 i
def JB(a b:AA)(r:Unit⊕Unit)(ex:Ex)(s:St):Prop:=match r with
 | .inl q=>ex= .ret∧s.v 4=D.bool false
 | .inr q=>ex= .exit 0
theorem Zb(a b:AA){v:Int}{s:St}{r:Unit⊕Unit}(h:Pp a b v=some r)(hM:Gl a b v s):BU Y.env A0N (JB a b r) s:=by
 unfold Pp at h;refine Ap (c:=ig) (fun v=>JA a b v) (fun v s=>Gl a b v s) (JB a b) ?_ h hM;clear h hM s v r;intro i s o hM h;unfold JA at h;unfold Gl at hM;obtain⟨m0,m1,m2⟩:=hM;unfold ig;rcases iS h with⟨e2,h⟩|⟨e2,h⟩
 ·obtain⟨e3,e4,h⟩:=Fy h;rcases iS h with⟨e5,h⟩|⟨e5,h⟩
  ·cases h;simp only [↓AB,AC,↓reduceIte,Nat.reduceEqDiff,Nat.reduceLT,m0,m1,m2,e2,e3.1,e3.2,e4.2,decide_eq_true e5,Gl,Dw]
  ·cases h;simp only [↓AB,AC,↓reduceIte,Nat.reduceEqDiff,Nat.reduceLT,m0,m1,m2,e2,e3.1,e3.2,e4.2,e5,Gl,JB,Tz]
 ·cases h;simp only [↓AB,AC,↓reduceIte,Nat.reduceEqDiff,Nat.reduceLT,m0,m2,e2,Gl,JB,Ir]
theorem bn(a b:AA){r:Bool}(h:VW a b=some r):Y.call 11 [D.sl 3 (AJ (D.int .i64) a),D.sl 3 (AJ (D.int .i64) b)] []=some (D.bool r,[]):=by
 refine eY ?_ rfl;unfold k11;unfold VW at h;rcases iS h with⟨e1,h⟩|⟨e1,h⟩
 ·obtain⟨A8,hl3,h⟩:=AQ h;try dsimp only at h
  simp only [↓AB,AC,↓reduceIte,Nat.reduceEqDiff,Nat.reduceLT,decide_eq_true e1];refine AZ (Zb a b hl3 ?_) ?_
  ·simp only [BC,Ce,↓reduceIte,Nat.reduceEqDiff,Nat.reduceLT,Gl]
  ·intro ex3 s3 hX3;rcases A8 with q1000_|q1000_
   ·unfold JB at hX3;dsimp only at hX3 h;obtain⟨rfl,n3_0⟩:=hX3;cases h;simp only [↓AB,AC,↓reduceIte,n3_0]
   ·unfold JB at hX3;dsimp only at hX3 h
    obtain rfl:=hX3
    cases h;simp only [↓AB,AC,↓reduceIte,Nat.reduceEqDiff,Nat.reduceLT]
 ·cases h;simp only [↓AB,AC,↓reduceIte,Nat.reduceEqDiff,Nat.reduceLT,e1]
theorem o8(a b:AA)(ha:a.length<1099511627776):VW a b=some (decide (a=b)):=by
 unfold VW Pp;by_cases hl:a.length=b.length
 ·rw [if_pos (by omega)]
  have key:=Pi (fun v=>JA a b v) (fun i=>(i:Int)) a.length (fun i=>decide (a.getD i default=b.getD i default)) (.inl ()) (.inr ()) ?_ ?_
  ·simp only [Jb]at key;rw [key,ZU a b hl];by_cases he:a=b<;>simp [he]
  ·intro i hi;simp only [JA];rw [if_pos (BZ hi),Ao (Gj hi),Ao (Gj (by omega)),H5,H9 i (by omega)]<;>simp only [decide_eq_true_eq]
  ·simp only [JA];rw [if_neg (Ae _)]
 ·rw [if_neg (by omega)]
  have: ¬a=b:=fun e=>hl (by rw [e])
  simp [this]
theorem EY(a b:AA)(h0:a.length<1099511627776):Y.call 11 [D.sl 3 (AJ (D.int .i64) a),D.sl 3 (AJ (D.int .i64) b)] []=some (D.bool (decide (a=b)),[]):=bn a b (o8 a b h0)
noncomputable def Ha(a b:AL)(i:Int):Option ((Int)⊕(Unit⊕Unit)):= if i<(a.length:Int)then ck (0≤i∧i.toNat<a.length)<| ck (0≤i∧i.toNat<b.length)<| ck ((a.getD i.toNat default).length<1099511627776)<| if(decide ((a.getD i.toNat default)=(b.getD i.toNat default)))=true then some (Sum.inl (IntKind.i64.wrap (i+1))) else some (Sum.inr (Sum.inl ())) else some (Sum.inr (Sum.inr ()))
noncomputable def OP(a b:AL)(v:Int):Option (Unit⊕Unit):=Fv (fun v=>Ha a b v) v
noncomputable def Ta(a b:AL):Option (Bool):=
 if(a.length:Int)=(b.length:Int)then
  (OP a b 0).bind fun A8=>
  match A8 with
  | .inl q1000_=>
   some false
  | .inr q1000_=>
   some true
 else
  some false
abbrev qd5:List Nat:=[17,18,19,20,21,22,23,24,25,26]
def ik:SC:= .seq (.seq (.ops [oM 11 5 3,oM 12 0 22,oN 13 12 22,oB 14 .lss 3 (tK 11) (tK 13) 3 4]) (.cond (tK 14) .skip (.exit 0))) (.seq (.block 1 (.seq (.draws [(⟨[17,0,0],qd5,[17]⟩,oM 17 0 22),(⟨[18,5,5],qd5,[18]⟩,oM 18 5 3),(⟨[19,17,18,0,5],qd5,[19]⟩,oI 19 22 17 18),(⟨[20,19,0],qd5,[20]⟩,oL 20 27 19 27),(⟨[21,1,1],qd5,[21]⟩,oM 21 1 22),(⟨[22,5,5],qd5,[22]⟩,oM 22 5 3),(⟨[23,21,22,1,5],qd5,[23]⟩,oI 23 22 21 22),(⟨[24,23,1],qd5,[24]⟩,oL 24 27 23 27),(⟨[25,20,24,0,1],qd5,[25]⟩,oC 25 11 [(tK 20),(tK 24)] [27,27] 4),(⟨[26,25,25],qd5,[26]⟩,oX 26 (.unOp .not 4 (tK 25)) 4)]) (.cond (tK 26) (.seq (.ops [oX 4 BX 4]) .ret) .skip))) (.ops [oM 15 5 3,oB 16 .add 3 (tK 15) (iK 1) 3 3,oA 5 16 3]))
def A0O:SC:= .loop ik
def k26:SC:= .seq (.ops [oX 4 BX 4]) (.seq (.seq (.ops [oM 6 0 22,oN 7 6 22,oM 8 1 22,oN 9 8 22,oB 10 .neq 3 (tK 7) (tK 9) 3 4]) (.cond (tK 10) (.seq (.ops [oX 4 BX 4]) .ret) .skip)) (.seq (.seq (.ops [oX 5 (.assign (iK 0)) 3]) (.block 0 A0O)) (.seq (.ops [oX 4 (.assign Gx) 4]) .ret)))
theorem A7G:Tryz.f26.body.map (BI lends)=some k26:=by kernel_rfl
theorem AJZ:BR Tryz.f26 2=true:=by kernel_rfl
theorem c26{a l:List D}{r:D×List D}(h:BU Y.env k26 (Du Ab l.length [ResultVar.tmp 4] r) (entry a l))(ha:a.length=2):Y.call 26 a l=some r:=
 AP (Y:=Y) rfl Tryz.func26 (ha▸AJZ) A7G h
def FX(a b:AL)(i:Int)(s:St):Prop:=s.v 0=D.sl 27 (AJ Ac a)∧s.v 1=D.sl 27 (AJ Ac b)∧s.v 5=D.int .i64 i
def Hd(a b:AL)(r:Unit⊕Unit)(ex:Ex)(s:St):Prop:=match r with
 | .inl q=>ex= .ret∧s.v 4=D.bool false
 | .inr q=>ex= .exit 0
theorem Y1(a b:AL){v:Int}{s:St}{r:Unit⊕Unit}(h:OP a b v=some r)(hM:FX a b v s):BU Y.env A0O (Hd a b r) s:=by
 unfold OP at h;refine Ap (c:=ik) (fun v=>Ha a b v) (fun v s=>FX a b v s) (Hd a b) ?_ h hM;clear h hM s v r;intro i s o hM h;unfold Ha at h;unfold FX at hM;obtain⟨m0,m1,m2⟩:=hM;unfold ik;rcases iS h with⟨e2,h⟩|⟨e2,h⟩
 ·obtain⟨e3,e4,e5,h⟩:=Wm h;have c6:=EY (a.getD i.toNat default) (b.getD i.toNat default) e5;rcases iS h with⟨e7,h⟩|⟨e7,h⟩
  ·cases h;simp only [↓AB,AC,↓reduceIte,Nat.reduceEqDiff,Nat.reduceLT,m0,m1,m2,e2,e3.1,e3.2,e4.2,c6,e7,FX,Dw]
  ·have e7f:(decide ((a.getD i.toNat default)=(b.getD i.toNat default)))=false:=Gf.mpr e7;cases h;simp only [↓AB,AC,↓reduceIte,Nat.reduceEqDiff,Nat.reduceLT,m0,m1,m2,e2,e3.1,e3.2,e4.2,c6,e7f,FX,Hd,Tz]
 ·cases h;simp only [↓AB,AC,↓reduceIte,Nat.reduceEqDiff,Nat.reduceLT,m0,m2,e2,FX,Hd,Ir]
theorem Zc(a b:AL){r:Bool}(h:Ta a b=some r):Y.call 26 [D.sl 27 (AJ Ac a),D.sl 27 (AJ Ac b)] []=some (D.bool r,[]):=by
 refine c26 ?_ rfl;unfold k26;unfold Ta at h;rcases iS h with⟨e1,h⟩|⟨e1,h⟩
 ·obtain⟨A8,hl3,h⟩:=AQ h;try dsimp only at h
  simp only [↓AB,AC,↓reduceIte,Nat.reduceEqDiff,Nat.reduceLT,decide_eq_true e1];refine AZ (Y1 a b hl3 ?_) ?_
  ·simp only [BC,Ce,↓reduceIte,Nat.reduceEqDiff,Nat.reduceLT,FX]
  ·intro ex3 s3 hX3;rcases A8 with q1000_|q1000_
   ·unfold Hd at hX3;dsimp only at hX3 h;obtain⟨rfl,n3_0⟩:=hX3;cases h;simp only [↓AB,AC,↓reduceIte,n3_0]
   ·unfold Hd at hX3;dsimp only at hX3 h
    obtain rfl:=hX3
    cases h;simp only [↓AB,AC,↓reduceIte,Nat.reduceEqDiff,Nat.reduceLT]
 ·cases h;simp only [↓AB,AC,↓reduceIte,Nat.reduceEqDiff,Nat.reduceLT,e1]
theorem il(a b:AL)(ha:Ah a):Ta a b=some (decide (a=b)):=by
 have h1:=ha.1;unfold Ta OP;by_cases hl:a.length=b.length
 ·rw [if_pos (by omega)]
  have key:=Pi (fun v=>Ha a b v) (fun i=>(i:Int)) a.length (fun i=>decide (a.getD i default=b.getD i default)) (.inl ()) (.inr ()) ?_ ?_
  ·simp only [Jb]at key;rw [key,ZU a b hl];by_cases he:a=b<;>simp [he]
  ·intro i hi;simp only [Ha];rw [if_pos (BZ hi),Ao (Gj hi),Ao (Gj (by omega)),Ao (by rw [M7 _ _ hi];exact ha.at i hi),H5,H9 i (by omega)]<;>simp only [decide_eq_true_eq]
  ·simp only [Ha];rw [if_neg (Ae _)]
 ·rw [if_neg (by omega)]
  have: ¬a=b:=fun e=>hl (by rw [e])
  simp [this]
theorem VX(a b:AL)(h0:Ah a):Y.call 26 [D.sl 27 (AJ Ac a),D.sl 27 (AJ Ac b)] []=some (D.bool (decide (a=b)),[]):=Zc a b (il a b h0)
def Rz(left n:Int):Int:=if left-n<0 then-1 else left-n
theorem Tc(left n:Int):Rz left n= -1∨(Rz left n=left-n∧0≤left-n):=by unfold Rz;split<;>omega
def Bi(l:AL):Int:=(l.map fun xs=>(xs.length:Int)).sum
theorem VY:Bi []=0:=rfl
theorem M9(x:AA)(l:AL):Bi (x::l)=x.length+Bi l:=rfl
theorem Cj(l:AL):0≤Bi l:=by
 induction l with
 |nil=>rw [VY];omega
 |cons x l ih=>rw [M9];omega
theorem A31{l:AL}{x:AA}(h:x∈l):(x.length:Int)≤Bi l:=by
 induction l with
 |nil=>cases h
 |cons y l ih=>
  rw [M9];have:=Cj l
  rcases MW.1 h with rfl|h
  ·omega
  ·have:=ih h;omega
theorem eZ{l:AL}(h:l.length+Bi l<1099511627776):Ah l:=by
 have:=Cj l
 exact⟨by omega,fun x hx=>by have:=A31 hx;omega⟩
noncomputable def VZ(a:AA)(left:Int):Option (Int):= if(IntKind.i64.wrap (left-(a.length:Int)))<0 then some (-1) else some (IntKind.i64.wrap (left-(a.length:Int)))
def k32:SC:= .seq (.ops [oX 4 (.assign (iK 0)) 3]) (.seq (.ops [oM 5 1 3,oM 6 0 27,oN 7 6 27,oB 8 .sub 3 (tK 5) (tK 7) 3 3,oA 1 8 3]) (.seq (.seq (.ops [oM 9 1 3,oB 10 .lss 3 (tK 9) (iK 0) 3 4]) (.cond (tK 10) (.seq (.ops [oX 4 Uc 3]) .ret) .skip)) (.seq (.ops [oM 11 1 3,oA 4 11 3]) .ret)))
theorem A7H:Tryz.f32.body.map (BI lends)=some k32:=by kernel_rfl
theorem AJb:BR Tryz.f32 2=true:=by kernel_rfl
theorem c32{a l:List D}{r:D×List D}(h:BU Y.env k32 (Du Ab l.length [ResultVar.tmp 4] r) (entry a l))(ha:a.length=2):Y.call 32 a l=some r:=
 AP (Y:=Y) rfl Tryz.func32 (ha▸AJb) A7H h
theorem bq(a:AA)(left:Int){r:Int}(h:VZ a left=some r):Y.call 32 [D.sl 3 (AJ (D.int .i64) a),D.int .i64 left] []=some (D.int .i64 r,[]):=by
 refine c32 ?_ rfl;unfold k32;unfold VZ at h;rcases iS h with⟨e1,h⟩|⟨e1,h⟩
 ·cases h;simp only [↓AB,AC,↓reduceIte,Nat.reduceEqDiff,Nat.reduceLT,e1]
 ·cases h;simp only [↓AB,AC,↓reduceIte,Nat.reduceEqDiff,Nat.reduceLT,e1]
theorem o9(a:AA)(left:Int)(ha:a.length<9223372036854775808)(hl:0≤left∧left≤1048576):VZ a left=some (Rz left a.length):=by
 unfold VZ Rz;rw [Db _ (by omega)]
 split<;>rfl
theorem oD(a:AA)(left:Int)(h0:a.length<9223372036854775808)(h1:0≤left∧left≤1048576):Y.call 32 [D.sl 3 (AJ (D.int .i64) a),D.int .i64 left] []=some (D.int .i64 (Rz left a.length),[]):=bq a left (o9 a left h0 h1)
noncomputable def He(a:AL)(left1 i:Int):Option ((Int×Int)⊕(Unit⊕Int)):= if i<(a.length:Int)then ck (0≤i∧i.toNat<a.length)<| ck ((a.getD i.toNat default).length<9223372036854775808)<| ck (0≤left1∧left1≤1048576)<| if(Rz left1 (a.getD i.toNat default).length)<0 then some (Sum.inr (Sum.inl ())) else some (Sum.inl ((Rz left1 (a.getD i.toNat default).length),IntKind.i64.wrap (i+1))) else some (Sum.inr (Sum.inr left1))
noncomputable def IY(a:AL)(v:Int×Int):Option (Unit⊕Int):=Fv (fun v=>He a v.1 v.2) v
noncomputable def Qf(a:AL)(left:Int):Option (Int):=
 if(IntKind.i64.wrap (left-(a.length:Int)))<0 then
  some (-1)
 else
  (IY a (IntKind.i64.wrap (left-(a.length:Int)),0)).bind fun A8=>
  match A8 with
  | .inl q1000_=>
   some (-1)
  | .inr q1000_=>
   some q1000_
def iq:SC:= .seq (.seq (.ops [oM 12 5 3,oM 13 0 22,oN 14 13 22,oB 15 .lss 3 (tK 12) (tK 14) 3 4]) (.cond (tK 15) .skip (.exit 0))) (.seq (.block 1 (.seq (.ops [oM 18 0 22,oM 19 5 3,oI 20 22 18 19,oL 21 27 20 27,oM 22 1 3,oC 23 32 [(tK 21),(tK 22)] [27,3] 3,oA 1 23 3]) (.seq (.ops [oM 24 1 3,oB 25 .lss 3 (tK 24) (iK 0) 3 4]) (.cond (tK 25) (.seq (.ops [oX 4 Uc 3]) .ret) .skip)))) (.ops [oM 16 5 3,oB 17 .add 3 (tK 16) (iK 1) 3 3,oA 5 17 3]))
def A0P:SC:= .loop iq
def k20:SC:= .seq (.ops [oX 4 (.assign (iK 0)) 3]) (.seq (.ops [oM 6 1 3,oM 7 0 22,oN 8 7 22,oB 9 .sub 3 (tK 6) (tK 8) 3 3,oA 1 9 3]) (.seq (.seq (.ops [oM 10 1 3,oB 11 .lss 3 (tK 10) (iK 0) 3 4]) (.cond (tK 11) (.seq (.ops [oX 4 Uc 3]) .ret) .skip)) (.seq (.seq (.ops [oX 5 (.assign (iK 0)) 3]) (.block 0 A0P)) (.seq (.ops [oM 26 1 3,oA 4 26 3]) .ret))))
theorem A7I:Tryz.f20.body.map (BI lends)=some k20:=by kernel_rfl
theorem AJd:BR Tryz.f20 2=true:=by kernel_rfl
theorem qB{a l:List D}{r:D×List D}(h:BU Y.env k20 (Du Ab l.length [ResultVar.tmp 4] r) (entry a l))(ha:a.length=2):Y.call 20 a l=some r:=
 AP (Y:=Y) rfl Tryz.func20 (ha▸AJd) A7I h
def FY(a:AL)(left1 i:Int)(s:St):Prop:=s.v 0=D.sl 27 (AJ Ac a)∧s.v 1=D.int .i64 left1∧s.v 5=D.int .i64 i
def Hf(a:AL)(r:Unit⊕Int)(ex:Ex)(s:St):Prop:=match r with
 | .inl q=>ex= .ret∧s.v 4=D.int .i64 (-1)
 | .inr q=>ex= .exit 0∧s.v 1=D.int .i64 q
theorem Y2(a:AL){v:Int×Int}{s:St}{r:Unit⊕Int}(h:IY a v=some r)(hM:FY a v.1 v.2 s):BU Y.env A0P (Hf a r) s:=by
 unfold IY at h;refine Ap (c:=iq) (fun v=>He a v.1 v.2) (fun v s=>FY a v.1 v.2 s) (Hf a) ?_ h hM;clear h hM s v r;intro v s o hM h;obtain⟨left1,i⟩:=v;dsimp only at h hM;unfold He at h;unfold FY at hM;obtain⟨m0,m1,m2⟩:=hM;unfold iq;rcases iS h with⟨e2,h⟩|⟨e2,h⟩
 ·obtain⟨e3,e4,e5,h⟩:=Wm h;have c6:=oD (a.getD i.toNat default) left1 e4 e5;rcases iS h with⟨e7,h⟩|⟨e7,h⟩
  ·cases h;simp only [↓AB,AC,↓reduceIte,Nat.reduceEqDiff,Nat.reduceLT,m0,m1,m2,e2,e3.1,e3.2,c6,e7,FY,Hf,Tz]
  ·cases h;simp only [↓AB,AC,↓reduceIte,Nat.reduceEqDiff,Nat.reduceLT,m0,m1,m2,e2,e3.1,e3.2,c6,e7,FY,Dw]
 ·cases h;simp only [↓AB,AC,↓reduceIte,Nat.reduceEqDiff,Nat.reduceLT,m0,m1,m2,e2,FY,Hf,Ir]
theorem Zd(a:AL)(left:Int){r:Int}(h:Qf a left=some r):Y.call 20 [D.sl 27 (AJ Ac a),D.int .i64 left] []=some (D.int .i64 r,[]):=by
 refine qB ?_ rfl;unfold k20;unfold Qf at h;rcases iS h with⟨e1,h⟩|⟨e1,h⟩
 ·cases h;simp only [↓AB,AC,↓reduceIte,Nat.reduceEqDiff,Nat.reduceLT,e1]
 ·obtain⟨A8,hl3,h⟩:=AQ h;try dsimp only at h
  simp only [↓AB,AC,↓reduceIte,Nat.reduceEqDiff,Nat.reduceLT,e1];refine AZ (Y2 a hl3 ?_) ?_
  ·simp only [BC,Ce,↓reduceIte,Nat.reduceEqDiff,Nat.reduceLT,FY]
  ·intro ex3 s3 hX3;rcases A8 with q1000_|q1000_
   ·unfold Hf at hX3;dsimp only at hX3 h;obtain⟨rfl,n3_0⟩:=hX3;cases h;simp only [↓AB,AC,↓reduceIte,n3_0]
   ·unfold Hf at hX3;dsimp only at hX3 h;obtain⟨rfl,n3_0⟩:=hX3;cases h;simp only [↓AB,AC,↓reduceIte,Nat.reduceEqDiff,Nat.reduceLT,n3_0]
def szL:Int→AL→Int
 |left,[]=>left
 |left,x::l=>if left-x.length<0 then-1 else szL (left-x.length) l
theorem A7J(l:AL): ∀(left:Int),0≤left→szL left l=Rz left (Bi l):=by
 induction l with
 |nil=>intro left h;unfold szL Rz;rw [VY,if_neg (by omega)];omega
 |cons x l ih=>
  intro left h;have:=Cj l
  unfold szL;by_cases hq:left-x.length<0
  ·rw [if_pos hq];unfold Rz;rw [M9,if_pos (by omega)]
  ·rw [if_neg hq,ih _ (by omega)]
   unfold Rz;rw [M9];by_cases hr:left-x.length-Bi l<0
   ·rw [if_pos hr,if_pos (by omega)]
   ·rw [if_neg hr,if_neg (by omega)];omega
theorem Y3(a:AL)(ha:a.length<4611686018427387904)(hx: ∀x∈a,x.length<9223372036854775808): ∀(n i:Nat) (left:Int),n=a.length-i→i≤a.length→0≤left∧left≤1048576→
  IY a (left,(i:Int))=some (if szL left (a.drop i)= -1 then .inl ()else .inr (szL left (a.drop i))):=by
 intro n
 induction n with
 |zero=>
  intro i left hn hi hl;have e:i=a.length:=by omega
  subst e;unfold IY;rw [Fp (r:=Sum.inr left)]
  ·rw [List.drop_length];unfold szL;rw [if_neg (by omega)]
  ·simp only [He];rw [if_neg (Ae _)]
 |succ n ih=>
  intro i left hn hi hl;have hlt:i<a.length:=by omega
  have hm:a[i]∈a:=FT hlt;have hxm:=hx _ hm
  have step:He a left i=if Rz left a[i].length<0 then some (Sum.inr (Sum.inl ()))else some (Sum.inl (Rz left a[i].length,((i+1:Nat):Int))):=by
   unfold He;rw [if_pos (BZ hlt),Ao (Gj hlt),Ao (by rw [M7 _ _ hlt];exact hxm),Ao hl,M7 _ _ hlt,H9 i (by omega)]
  rw [fw hlt];unfold szL;by_cases hq:left-(a[i].length:Int)<0
  ·rw [if_pos hq];unfold IY;rw [Fp (r:=Sum.inl ())]
   ·rfl
   ·rw [step];unfold Rz;rw [if_pos hq];rfl
  ·rw [if_neg hq];have e2:Rz left a[i].length=left-a[i].length:=by unfold Rz;rw [if_neg hq]
   have:=ih (i+1) (left-a[i].length) (by omega) (by omega) (by omega)
   unfold IY at this ⊢;rw [NH (s':=(left-(a[i].length:Int),((i+1:Nat):Int))),this]
   ·rw [step,e2,if_neg hq]
theorem bu(a:AL)(left:Int)(ha:a.length<9223372036854775808)(hx: ∀x∈a,x.length<9223372036854775808)(hl:0≤left∧left≤1048576):Qf a left=some (Rz left (a.length+Bi a)):=by
 have ht:=Cj a;unfold Qf;rw [Db _ (by omega)]
 by_cases hq:left-(a.length:Int)<0
 ·rw [if_pos hq];unfold Rz;rw [if_pos (by omega)]
 ·rw [if_neg hq];have h0:=Y3 a (by omega) hx a.length 0 (left-a.length) (by omega) (by omega) (by omega)
  simp only [Jb,UT]at h0;rw [h0,Bl,A7J _ _ (by omega)]
  have e:Rz (left-a.length) (Bi a)=Rz left (a.length+Bi a):=by unfold Rz;rw [show left- ↑a.length-Bi a=left-(↑a.length+Bi a) by omega]
  rw [e];by_cases h1:Rz left (a.length+Bi a)= -1
  ·rw [if_pos h1,h1]
  ·rw [if_neg h1]
theorem Ud{α:Type}(a b:List α)(x:α):(a.length:Int)<((a++x::b).length:Int):=by rw [KU,JS];omega
theorem Ue{α:Type}(a b:List α)(x:α):0≤(a.length:Int)∧(a.length:Int).toNat<(a++x::b).length:=by rw [KU,JS];omega
theorem Va{α:Type}(a:List α): ¬(a.length:Int)<((a++[]).length:Int):=by rw [O6];omega
def Uf(l:AL):Prop:=l.length<9223372036854775808∧ ∀x∈l,x.length<9223372036854775808
instance (l:AL):Decidable (Uf l):=by unfold Uf;infer_instance
theorem iw(a:AL)(left:Int)(hw:Uf a)(hl:0≤left∧left≤1048576):Qf a left=some (Rz left (a.length+Bi a)):=bu a left hw.1 hw.2 hl
theorem Vb(a:AL)(left:Int)(h0:Uf a)(h1:0≤left∧left≤1048576):Y.call 20 [D.sl 27 (AJ Ac a),D.int .i64 left] []=some (D.int .i64 (Rz left (a.length+Bi a)),[]):=Zd a left (iw a left h0 h1)
def upto(k:Int)(n:Nat):AA:=(List.range n).map fun(i:Nat)=>k+i
theorem Oz(k:Int)(n:Nat):(upto k n).length=n:=by simp [upto]
theorem A0Q(xs:AA)(k:Int)(i:Nat)(h:i<xs.length):(upto k i++xs.drop i).set i (k+i)=upto k (i+1)++xs.drop (i+1):=by
 rw [qG _ _ (by simp [Oz]),Oz,Xp,fw h,List.set_cons_zero]
 simp [upto,YU]
noncomputable def G6(k k1 i:Int)(Ar:AA):Option ((Int×Int×AA)⊕(Int×AA)):= if i<(Ar.length:Int)then ck (0≤i∧i.toNat<Ar.length)<| some (Sum.inl (IntKind.i64.wrap (k1+1),IntKind.i64.wrap (i+1),(Ar.set i.toNat k1))) else some (Sum.inr (k1,Ar))
noncomputable def NJ(k:Int)(v:Int×Int×AA):Option (Int×AA):=Fv (fun v=>G6 k v.1 v.2.1 v.2.2) v
noncomputable def RI(a:AA)(k:Int):Option (Int×AA):= (NJ k (k,0,a)).bind fun A8=> some (A8.1,A8.2)
def iy:SC:= .seq (.seq (.ops [oM 6 5 3,oM 7 0 27,oN 8 7 27,oB 9 .lss 3 (tK 6) (tK 8) 3 4]) (.cond (tK 9) .skip (.exit 0))) (.seq (.block 1 (.seq (.ops [oM 12 0 27,oM 13 5 3,oM 14 1 3,oI 15 27 12 13,oS 3 15 14]) (.ops [oM 16 1 3,oB 17 .add 3 (tK 16) (iK 1) 3 3,oA 1 17 3]))) (.ops [oM 10 5 3,oB 11 .add 3 (tK 10) (iK 1) 3 3,oA 5 11 3]))
def A0R:SC:= .loop iy
def k13:SC:= .seq (.ops [oX 4 (.assign (iK 0)) 3]) (.seq (.seq (.ops [oX 5 (.assign (iK 0)) 3]) (.block 0 A0R)) (.seq (.ops [oM 18 1 3,oA 4 18 3]) .ret))
theorem A7K:Tryz.f13.body.map (BI lends)=some k13:=by kernel_rfl
theorem AJf:BR Tryz.f13 2=true:=by kernel_rfl
theorem c13{a l:List D}{r:D×List D}(h:BU Y.env k13 (Du Ab l.length [ResultVar.tmp 4] r) (entry a l))(ha:a.length=2):Y.call 13 a l=some r:=
 AP (Y:=Y) rfl Tryz.func13 (ha▸AJf) A7K h
def G7(k k1 i:Int)(Ar:AA)(s:St):Prop:=(∃w_,s.v 0=D.vw [100000] (s.k 100000) w_)∧s.v 1=D.int .i64 k1∧s.v 5=D.int .i64 i∧s.v 100000=D.own 3 (AJ (D.int .i64) Ar)
def LA(k:Int)(r:Int×AA)(ex:Ex)(s:St):Prop:=ex= .exit 0∧s.v 1=D.int .i64 r.1∧s.v 100000=D.own 3 (AJ (D.int .i64) r.2)
theorem Wn(k:Int){v:Int×Int×AA}{s:St}{r:Int×AA}(h:NJ k v=some r)(hM:G7 k v.1 v.2.1 v.2.2 s):BU Y.env A0R (LA k r) s:=by
 unfold NJ at h;refine Ap (c:=iy) (fun v=>G6 k v.1 v.2.1 v.2.2) (fun v s=>G7 k v.1 v.2.1 v.2.2 s) (LA k) ?_ h hM;clear h hM s v r;intro v s o hM h;obtain⟨k1,i,Ar⟩:=v;dsimp only at h hM;unfold G6 at h;unfold G7 at hM;obtain⟨⟨w0_,m0⟩,m1,m2,m3⟩:=hM;unfold iy;rcases iS h with⟨e1,h⟩|⟨e1,h⟩
 ·obtain⟨e2,h⟩:=DL h;cases h;simp only [↓AB,AC,↓reduceIte,Nat.reduceEqDiff,Nat.reduceLT,m0,m1,m2,m3,e1,e2.1,e2.2,G7,Dw]<;>(repeat' apply A7)<;>first|rfl|exact⟨_,rfl⟩|exact⟨_,_,rfl⟩|simp [AJ,AU]
 ·cases h;simp only [↓AB,AC,↓reduceIte,Nat.reduceEqDiff,Nat.reduceLT,m0,m1,m2,m3,e1,G7,LA,Ir]
theorem Y4(a:AA)(k:Int){r:Int×AA}(h:RI a k=some r):Y.call 13 [D.vw [100000] 0 0,D.int .i64 k] [D.own 3 (AJ (D.int .i64) a)]=some (D.int .i64 r.1,[D.own 3 (AJ (D.int .i64) r.2)]):=by
 refine c13 ?_ rfl;unfold k13;unfold RI at h;obtain⟨A8,hl2,h⟩:=AQ h;try dsimp only at h
 simp only [↓AB,AC,↓reduceIte,Nat.reduceEqDiff,Nat.reduceLT,Nat.reduceAdd];refine AZ (Wn k hl2 ?_) ?_
 ·simp only [BC,Ce,↓reduceIte,Nat.reduceEqDiff,Nat.reduceLT,Nat.reduceSub,G7]<;>(repeat' apply A7)<;>first|rfl|exact⟨_,rfl⟩|exact⟨_,_,rfl⟩|simp [AJ,AU]
 ·intro ex2 s2 hX2;unfold LA at hX2;obtain⟨rfl,n2_0,n2_1⟩:=hX2;cases h;simp only [↓AB,AC,↓reduceIte,Nat.reduceEqDiff,Nat.reduceLT,n2_0,n2_1]
theorem bv(a:AA)(k:Int)(ha:a.length<1099511627776)(hk:0≤k∧k<1099511627776):RI a k=some (k+a.length,upto k a.length):=by
 have key:=BD (fun v=>G6 k v.1 v.2.1 v.2.2) (fun i=>(k+i,(i:Int),upto k i++a.drop i)) a.length (k+a.length,upto k a.length) ?_ ?_
 ·unfold RI NJ;have e0:upto k 0=[]:=rfl;simp only [Jb,Int.add_zero,UT,e0,R5]at key;rw [key];rfl
 ·intro i hi;simp only [G6];have el:(upto k i++a.drop i).length=a.length:=by simp [Oz];omega
  rw [el,if_pos (BZ hi),Ao (Gj hi),H5,A0Q a k i hi,H9 i (by omega),Db _ (by omega)]
  rw [show k+(i:Int)+1=k+((i+1:Nat):Int) by omega]
 ·simp only [G6];have el:(upto k a.length++a.drop a.length).length=a.length:=by simp [Oz]
  rw [el,if_neg (Ae _)];simp
theorem Kj(a:AA)(k:Int)(h0:a.length<1099511627776)(h1:0≤k∧k<1099511627776):Y.call 13 [D.vw [100000] 0 0,D.int .i64 k] [D.own 3 (AJ (D.int .i64) a)]=some (D.int .i64 (k+a.length),[D.own 3 (AJ (D.int .i64) (upto k a.length))]):=Y4 a k (bv a k h0 h1)
def GU:Int→AL→AL
 |_,[]=>[]
 |k,x::l=>upto k x.length::GU (k+x.length) l
noncomputable def Hg(k k1 i:Int)(Ar:AL):Option ((Int×Int×AL)⊕(Int×AL)):= if i<(Ar.length:Int)then ck (0≤i∧i.toNat<Ar.length)<| ck ((Ar.getD i.toNat default).length<1099511627776)<| ck (0≤k1∧k1<1099511627776)<| some (Sum.inl ((k1+(Ar.getD i.toNat default).length),IntKind.i64.wrap (i+1),(Ar.set i.toNat (upto k1 (Ar.getD i.toNat default).length)))) else some (Sum.inr (k1,Ar))
noncomputable def Hl(k:Int)(v:Int×Int×AL):Option (Int×AL):=Fv (fun v=>Hg k v.1 v.2.1 v.2.2) v
noncomputable def Pq(a:AL)(k:Int):Option (Int×AL):= (Hl k (k,0,a)).bind fun A8=> some (A8.1,A8.2)
def j3:SC:= .seq (.seq (.ops [oM 6 5 3,oM 7 0 22,oN 8 7 22,oB 9 .lss 3 (tK 6) (tK 8) 3 4]) (.cond (tK 9) .skip (.exit 0))) (.seq (.block 1 (.ops [oM 12 0 22,oM 13 5 3,oI 14 22 12 13,oL 15 27 14 27,oM 16 1 3,oC 17 13 [(tK 15),(tK 16)] [27,3] 3,oA 1 17 3])) (.ops [oM 10 5 3,oB 11 .add 3 (tK 10) (iK 1) 3 3,oA 5 11 3]))
def A0S:SC:= .loop j3
def k27:SC:= .seq (.ops [oX 4 (.assign (iK 0)) 3]) (.seq (.seq (.ops [oX 5 (.assign (iK 0)) 3]) (.block 0 A0S)) (.seq (.ops [oM 18 1 3,oA 4 18 3]) .ret))
theorem A7L:Tryz.f27.body.map (BI lends)=some k27:=by kernel_rfl
theorem AJh:BR Tryz.f27 2=true:=by kernel_rfl
theorem tF{a l:List D}{r:D×List D}(h:BU Y.env k27 (Du Ab l.length [ResultVar.tmp 4] r) (entry a l))(ha:a.length=2):Y.call 27 a l=some r:=
 AP (Y:=Y) rfl Tryz.func27 (ha▸AJh) A7L h
def F4(k k1 i:Int)(Ar:AL)(s:St):Prop:=(∃w_,s.v 0=D.vw [100000] (s.k 100000) w_)∧s.v 1=D.int .i64 k1∧s.v 5=D.int .i64 i∧s.v 100000=D.own 27 (AJ IX Ar)
def K7(k:Int)(r:Int×AL)(ex:Ex)(s:St):Prop:=ex= .exit 0∧s.v 1=D.int .i64 r.1∧s.v 100000=D.own 27 (AJ IX r.2)
theorem Vd(k:Int){v:Int×Int×AL}{s:St}{r:Int×AL}(h:Hl k v=some r)(hM:F4 k v.1 v.2.1 v.2.2 s):BU Y.env A0S (K7 k r) s:=by
 unfold Hl at h;refine Ap (c:=j3) (fun v=>Hg k v.1 v.2.1 v.2.2) (fun v s=>F4 k v.1 v.2.1 v.2.2 s) (K7 k) ?_ h hM;clear h hM s v r;intro v s o hM h;obtain⟨k1,i,Ar⟩:=v;dsimp only at h hM;unfold Hg at h;unfold F4 at hM;obtain⟨⟨w0_,m0⟩,m1,m2,m3⟩:=hM;unfold j3;rcases iS h with⟨e1,h⟩|⟨e1,h⟩
 ·obtain⟨e2,e3,e4,h⟩:=Wm h;have c5:=Kj (Ar.getD i.toNat default) k1 e3 e4;cases h;simp only [↓AB,AC,↓reduceIte,Nat.reduceEqDiff,Nat.reduceLT,m0,m1,m2,m3,e1,e2.1,e2.2,c5,F4,Dw]<;>(repeat' apply A7)<;>first|rfl|exact⟨_,rfl⟩|exact⟨_,_,rfl⟩|simp [AJ,AU]
 ·cases h;simp only [↓AB,AC,↓reduceIte,Nat.reduceEqDiff,Nat.reduceLT,m0,m1,m2,m3,e1,F4,K7,Ir]
theorem Wo(a:AL)(k:Int){r:Int×AL}(h:Pq a k=some r):Y.call 27 [D.vw [100000] 0 0,D.int .i64 k] [D.own 27 (AJ IX a)]=some (D.int .i64 r.1,[D.own 27 (AJ IX r.2)]):=by
 refine tF ?_ rfl;unfold k27;unfold Pq at h;obtain⟨A8,hl2,h⟩:=AQ h;try dsimp only at h
 simp only [↓AB,AC,↓reduceIte,Nat.reduceEqDiff,Nat.reduceLT,Nat.reduceAdd];refine AZ (Vd k hl2 ?_) ?_
 ·simp only [BC,Ce,↓reduceIte,Nat.reduceEqDiff,Nat.reduceLT,Nat.reduceSub,F4]<;>(repeat' apply A7)<;>first|rfl|exact⟨_,rfl⟩|exact⟨_,_,rfl⟩|simp [AJ,AU]
 ·intro ex2 s2 hX2;unfold K7 at hX2;obtain⟨rfl,n2_0,n2_1⟩:=hX2;cases h;simp only [↓AB,AC,↓reduceIte,Nat.reduceEqDiff,Nat.reduceLT,n2_0,n2_1]
theorem Ve(kk:Int): ∀(b a:AL) (k:Int),Ah b→a.length+b.length<1099511627776→0≤k→k+Bi b<1099511627776→
  Hl kk (k,(a.length:Int),a++b)=some (k+Bi b,a++GU k b):=by
 intro b
 induction b with
 |nil=>
  intro a k hb hab hk hkt;unfold Hl;rw [Fp (r:=(k,a++[]))]
  ·rw [VY,Int.add_zero];rfl
  ·simp only [Hg];rw [if_neg (Va _)]
 |cons x b ih=>
  intro a k hb hab hk hkt;rw [M9]at hkt;simp only [JS]at hab;have hx:x.length<1099511627776:=hb.2 x (Ja ..);have ht:=Cj b;have:=ih (a++[upto k x.length]) (k+x.length) ⟨by omega,fun y hy=>hb.2 y (KT _ hy)⟩ (by simp;omega) (by omega) (by omega)
  unfold Hl at this ⊢;have eg:(a++x::b).getD (a.length:Int).toNat default=x:=by rw [H5];exact Dc a (x::b) a.length rfl (by simp)
  rw [NH (s':=(k+x.length,((a++[upto k x.length]).length:Int),(a++[upto k x.length])++b)),this]
  ·rw [M9,show k+(x.length:Int)+Bi b=k+(x.length+Bi b) by omega]
   simp [GU]
  ·simp only [Hg];rw [if_pos (Ud ..),Ao (Ue ..),Ao (by rw [eg];exact hx),Ao ⟨hk,by omega⟩,eg,H9 _ (by omega),H5,qG _ _ (Io _),Xp,List.set_cons_zero]
   simp
theorem Ze(a:AL)(k:Int)(ha:Ah a)(hk:0≤k∧k+Bi a<1099511627776):Pq a k=some (k+Bi a,GU k a):=by
 unfold Pq;have:=Ve k a [] k ha (by have:=ha.1;simp;omega) hk.1 hk.2
 simp only [SB,R5,Jb]at this;rw [this];rfl
theorem Sr(a:AL)(k:Int)(h0:Ah a)(h1:0≤k∧k+Bi a<1099511627776):Y.call 27 [D.vw [100000] 0 0,D.int .i64 k] [D.own 27 (AJ IX a)]=some (D.int .i64 (k+Bi a),[D.own 27 (AJ IX (GU k a))]):=Wo a k (Ze a k h0 h1)
def M6:Int→AA→Int
 |k,[]=>k
 |k,x::l=>if x=k then M6 (k+1) l else-1
noncomputable def G8(a:AA)(k1 i:Int):Option ((Int×Int)⊕(Unit⊕Int)):= if i<(a.length:Int)then ck (0≤i∧i.toNat<a.length)<| if(a.getD i.toNat default)=k1 then some (Sum.inl (IntKind.i64.wrap (k1+1),IntKind.i64.wrap (i+1))) else some (Sum.inr (Sum.inl ())) else some (Sum.inr (Sum.inr k1))
noncomputable def Gm(a:AA)(v:Int×Int):Option (Unit⊕Int):=Fv (fun v=>G8 a v.1 v.2) v
noncomputable def RJ(a:AA)(k:Int):Option (Int):=
 (Gm a (k,0)).bind fun A8=>
 match A8 with
 | .inl q1000_=>
  some (-1)
 | .inr q1000_=>
  some q1000_
def j4:SC:= .seq (.seq (.ops [oM 6 5 3,oM 7 0 27,oN 8 7 27,oB 9 .lss 3 (tK 6) (tK 8) 3 4]) (.cond (tK 9) .skip (.exit 0))) (.seq (.block 1 (.seq (.seq (.ops [oM 12 0 27,oM 13 5 3,oI 14 27 12 13,oL 15 3 14 3,oM 16 1 3,oB 17 .neq 3 (tK 15) (tK 16) 3 4]) (.cond (tK 17) (.seq (.ops [oX 4 Uc 3]) .ret) .skip)) (.ops [oM 18 1 3,oB 19 .add 3 (tK 18) (iK 1) 3 3,oA 1 19 3]))) (.ops [oM 10 5 3,oB 11 .add 3 (tK 10) (iK 1) 3 3,oA 5 11 3]))
def A0T:SC:= .loop j4
def k15:SC:= .seq (.ops [oX 4 (.assign (iK 0)) 3]) (.seq (.seq (.ops [oX 5 (.assign (iK 0)) 3]) (.block 0 A0T)) (.seq (.ops [oM 20 1 3,oA 4 20 3]) .ret))
theorem A7M:Tryz.f15.body.map (BI lends)=some k15:=by kernel_rfl
theorem AJj:BR Tryz.f15 2=true:=by kernel_rfl
theorem c15{a l:List D}{r:D×List D}(h:BU Y.env k15 (Du Ab l.length [ResultVar.tmp 4] r) (entry a l))(ha:a.length=2):Y.call 15 a l=some r:=
 AP (Y:=Y) rfl Tryz.func15 (ha▸AJj) A7M h
def Ej(a:AA)(k1 i:Int)(s:St):Prop:=s.v 0=D.sl 3 (AJ (D.int .i64) a)∧s.v 1=D.int .i64 k1∧s.v 5=D.int .i64 i
def G9(a:AA)(r:Unit⊕Int)(ex:Ex)(s:St):Prop:=match r with
 | .inl q=>ex= .ret∧s.v 4=D.int .i64 (-1)
 | .inr q=>ex= .exit 0∧s.v 1=D.int .i64 q
theorem Wp(a:AA){v:Int×Int}{s:St}{r:Unit⊕Int}(h:Gm a v=some r)(hM:Ej a v.1 v.2 s):BU Y.env A0T (G9 a r) s:=by
 unfold Gm at h;refine Ap (c:=j4) (fun v=>G8 a v.1 v.2) (fun v s=>Ej a v.1 v.2 s) (G9 a) ?_ h hM;clear h hM s v r;intro v s o hM h;obtain⟨k1,i⟩:=v;dsimp only at h hM;unfold G8 at h;unfold Ej at hM;obtain⟨m0,m1,m2⟩:=hM;unfold j4;rcases iS h with⟨e1,h⟩|⟨e1,h⟩
 ·obtain⟨e2,h⟩:=DL h;rcases iS h with⟨e3,h⟩|⟨e3,h⟩
  ·cases h;simp only [↓AB,AC,↓reduceIte,Nat.reduceEqDiff,Nat.reduceLT,m0,m1,m2,e1,e2.1,e2.2,decide_eq_true e3,Ej,Dw]
  ·cases h;simp only [↓AB,AC,↓reduceIte,Nat.reduceEqDiff,Nat.reduceLT,m0,m1,m2,e1,e2.1,e2.2,e3,Ej,G9,Tz]
 ·cases h;simp only [↓AB,AC,↓reduceIte,Nat.reduceEqDiff,Nat.reduceLT,m0,m1,m2,e1,Ej,G9,Ir]
theorem Y5(a:AA)(k:Int){r:Int}(h:RJ a k=some r):Y.call 15 [D.sl 3 (AJ (D.int .i64) a),D.int .i64 k] []=some (D.int .i64 r,[]):=by
 refine c15 ?_ rfl;unfold k15;unfold RJ at h;obtain⟨A8,hl2,h⟩:=AQ h;try dsimp only at h
 simp only [↓AB,AC,↓reduceIte,Nat.reduceEqDiff,Nat.reduceLT];refine AZ (Wp a hl2 ?_) ?_
 ·simp only [BC,Ce,↓reduceIte,Nat.reduceEqDiff,Nat.reduceLT,Ej]
 ·intro ex2 s2 hX2;rcases A8 with q1000_|q1000_
  ·unfold G9 at hX2;dsimp only at hX2 h;obtain⟨rfl,n2_0⟩:=hX2;cases h;simp only [↓AB,AC,↓reduceIte,n2_0]
  ·unfold G9 at hX2;dsimp only at hX2 h;obtain⟨rfl,n2_0⟩:=hX2;cases h;simp only [↓AB,AC,↓reduceIte,Nat.reduceEqDiff,Nat.reduceLT,n2_0]
theorem Wq: ∀(b a:AA) (k:Int),a.length+b.length<1099511627776→0≤k→k+b.length<1099511627776→
  Gm (a++b) (k,(a.length:Int))=some (if M6 k b= -1 then .inl ()else .inr (M6 k b)):=by
 intro b
 induction b with
 |nil=>
  intro a k hab hk hkt;unfold Gm;rw [Fp (r:=Sum.inr k)]
  ·unfold M6;rw [if_neg (by omega)]
  ·simp only [G8];rw [if_neg (Va _)]
 |cons x b ih=>
  intro a k hab hk hkt;simp only [JS]at hab hkt;have eg:(a++x::b).getD (a.length:Int).toNat default=x:=by rw [H5];exact Dc a (x::b) a.length rfl (by simp)
  unfold M6;by_cases hq:x=k
  ·rw [if_pos hq];have:=ih (a++[x]) (k+1) (by simp;omega) (by omega) (by omega)
   unfold Gm at this ⊢;rw [NH (s':=(k+1,((a++[x]).length:Int)))]
   ·rw [show a++x::b=a++[x]++b by simp];exact this
   ·simp only [G8];rw [if_pos (Ud ..),Ao (Ue ..),eg,if_pos hq,H9 _ (by omega),Db _ (by omega)];simp
  ·rw [if_neg hq];unfold Gm;rw [Fp (r:=Sum.inl ())]
   ·rfl
   ·simp only [G8];rw [if_pos (Ud ..),Ao (Ue ..),eg,if_neg hq]
theorem bz(a:AA)(k:Int)(ha:a.length<1099511627776)(hk:0≤k∧k+a.length<1099511627776):RJ a k=some (M6 k a):=by
 unfold RJ;have:=Wq a [] k (by simpa using ha) hk.1 hk.2
 simp only [SB,R5,Jb]at this;rw [this,Bl];by_cases h:M6 k a= -1
 ·rw [if_pos h,h]
 ·rw [if_neg h]
theorem EP(a:AA)(k:Int)(h0:a.length<1099511627776)(h1:0≤k∧k+a.length<1099511627776):Y.call 15 [D.sl 3 (AJ (D.int .i64) a),D.int .i64 k] []=some (D.int .i64 (M6 k a),[]):=Y5 a k (bz a k h0 h1)
theorem eu(n:Nat): ∀k,M6 k (upto k n)=k+n:=by
 induction n with
 |zero=>intro k;simp [upto,M6]
 |succ n ih=>
  intro k
  have e:upto k (n+1)=k::upto (k+1) n:=by
   simp only [upto,List.range_succ_eq_map,Rp,List.map_map]
   congr 1
   ·simp
   ·apply List.map_congr_left;intro i _;simp;omega
  rw [e,M6,if_pos rfl,ih];omega
noncomputable def Hm(a:AL)(k1 i:Int):Option ((Int×Int)⊕(Unit⊕Int)):= if i<(a.length:Int)then ck (0≤i∧i.toNat<a.length)<| ck ((a.getD i.toNat default).length<1099511627776)<| ck (0≤k1∧k1+(a.getD i.toNat default).length<1099511627776)<| if(M6 k1 (a.getD i.toNat default))<0 then some (Sum.inr (Sum.inl ())) else some (Sum.inl ((M6 k1 (a.getD i.toNat default)),IntKind.i64.wrap (i+1))) else some (Sum.inr (Sum.inr k1))
noncomputable def Ho(a:AL)(v:Int×Int):Option (Unit⊕Int):=Fv (fun v=>Hm a v.1 v.2) v
noncomputable def Lc(a:AL)(k:Int):Option (Int):=
 (Ho a (k,0)).bind fun A8=>
 match A8 with
 | .inl q1000_=>
  some (-1)
 | .inr q1000_=>
  some q1000_
def j5:SC:= .seq (.seq (.ops [oM 6 5 3,oM 7 0 22,oN 8 7 22,oB 9 .lss 3 (tK 6) (tK 8) 3 4]) (.cond (tK 9) .skip (.exit 0))) (.seq (.block 1 (.seq (.ops [oM 12 0 22,oM 13 5 3,oI 14 22 12 13,oL 15 27 14 27,oM 16 1 3,oC 17 15 [(tK 15),(tK 16)] [27,3] 3,oA 1 17 3]) (.seq (.ops [oM 18 1 3,oB 19 .lss 3 (tK 18) (iK 0) 3 4]) (.cond (tK 19) (.seq (.ops [oX 4 Uc 3]) .ret) .skip)))) (.ops [oM 10 5 3,oB 11 .add 3 (tK 10) (iK 1) 3 3,oA 5 11 3]))
def A0U:SC:= .loop j5
def k28:SC:= .seq (.ops [oX 4 (.assign (iK 0)) 3]) (.seq (.seq (.ops [oX 5 (.assign (iK 0)) 3]) (.block 0 A0U)) (.seq (.ops [oM 20 1 3,oA 4 20 3]) .ret))
theorem A7N:Tryz.f28.body.map (BI lends)=some k28:=by kernel_rfl
theorem AJl:BR Tryz.f28 2=true:=by kernel_rfl
theorem c28{a l:List D}{r:D×List D}(h:BU Y.env k28 (Du Ab l.length [ResultVar.tmp 4] r) (entry a l))(ha:a.length=2):Y.call 28 a l=some r:=
 AP (Y:=Y) rfl Tryz.func28 (ha▸AJl) A7N h
def EA(a:AL)(k1 i:Int)(s:St):Prop:=s.v 0=D.sl 27 (AJ Ac a)∧s.v 1=D.int .i64 k1∧s.v 5=D.int .i64 i
def F5(a:AL)(r:Unit⊕Int)(ex:Ex)(s:St):Prop:=match r with
 | .inl q=>ex= .ret∧s.v 4=D.int .i64 (-1)
 | .inr q=>ex= .exit 0∧s.v 1=D.int .i64 q
theorem Vf(a:AL){v:Int×Int}{s:St}{r:Unit⊕Int}(h:Ho a v=some r)(hM:EA a v.1 v.2 s):BU Y.env A0U (F5 a r) s:=by
 unfold Ho at h;refine Ap (c:=j5) (fun v=>Hm a v.1 v.2) (fun v s=>EA a v.1 v.2 s) (F5 a) ?_ h hM;clear h hM s v r;intro v s o hM h;obtain⟨k1,i⟩:=v;dsimp only at h hM;unfold Hm at h;unfold EA at hM;obtain⟨m0,m1,m2⟩:=hM;unfold j5;rcases iS h with⟨e1,h⟩|⟨e1,h⟩
 ·obtain⟨e2,e3,e4,h⟩:=Wm h;have c5:=EP (a.getD i.toNat default) k1 e3 e4;rcases iS h with⟨e6,h⟩|⟨e6,h⟩
  ·cases h;simp only [↓AB,AC,↓reduceIte,Nat.reduceEqDiff,Nat.reduceLT,m0,m1,m2,e1,e2.1,e2.2,c5,e6,EA,F5,Tz]
  ·cases h;simp only [↓AB,AC,↓reduceIte,Nat.reduceEqDiff,Nat.reduceLT,m0,m1,m2,e1,e2.1,e2.2,c5,e6,EA,Dw]
 ·cases h;simp only [↓AB,AC,↓reduceIte,Nat.reduceEqDiff,Nat.reduceLT,m0,m1,m2,e1,EA,F5,Ir]
theorem Qg(a:AL)(k:Int){r:Int}(h:Lc a k=some r):Y.call 28 [D.sl 27 (AJ Ac a),D.int .i64 k] []=some (D.int .i64 r,[]):=by
 refine c28 ?_ rfl;unfold k28;unfold Lc at h;obtain⟨A8,hl2,h⟩:=AQ h;try dsimp only at h
 simp only [↓AB,AC,↓reduceIte,Nat.reduceEqDiff,Nat.reduceLT];refine AZ (Vf a hl2 ?_) ?_
 ·simp only [BC,Ce,↓reduceIte,Nat.reduceEqDiff,Nat.reduceLT,EA]
 ·intro ex2 s2 hX2;rcases A8 with q1000_|q1000_
  ·unfold F5 at hX2;dsimp only at hX2 h;obtain⟨rfl,n2_0⟩:=hX2;cases h;simp only [↓AB,AC,↓reduceIte,n2_0]
  ·unfold F5 at hX2;dsimp only at hX2 h;obtain⟨rfl,n2_0⟩:=hX2;cases h;simp only [↓AB,AC,↓reduceIte,Nat.reduceEqDiff,Nat.reduceLT,n2_0]
theorem Vg: ∀(b a:AL) (k:Int),Ah b→a.length+b.length<1099511627776→0≤k→k+Bi b<1099511627776→
  Ho (a++GU k b) (k,(a.length:Int))=some (.inr (k+Bi b)):=by
 intro b
 induction b with
 |nil=>
  intro a k hb hab hk hkt;unfold Ho;rw [Fp (r:=Sum.inr k)]
  ·rw [VY,Int.add_zero]
  ·rw [show GU k []=[]from rfl];simp only [Hm];rw [if_neg (Va _)]
 |cons x b ih=>
  intro a k hb hab hk hkt;rw [M9]at hkt;simp only [JS]at hab;have hx:x.length<1099511627776:=hb.2 x (Ja ..);have ht:=Cj b;have:=ih (a++[upto k x.length]) (k+x.length) ⟨by omega,fun y hy=>hb.2 y (KT _ hy)⟩ (by simp;omega) (by omega) (by omega)
  unfold Ho at this ⊢;have eg:(a++GU k (x::b)).getD (a.length:Int).toNat default=upto k x.length:=by rw [H5];exact Dc a (GU k (x::b)) a.length rfl (by simp [GU])
  rw [NH (s':=(k+x.length,((a++[upto k x.length]).length:Int)))]
  ·rw [show a++GU k (x::b)=a++[upto k x.length]++GU (k+x.length) b by simp [GU],this,M9]
   rw [show k+(x.length:Int)+Bi b=k+(x.length+Bi b) by omega]
  ·simp only [Hm];rw [GU]at eg ⊢;rw [if_pos (Ud ..),Ao (Ue ..),Ao (by rw [eg,Oz];exact hx),Ao (by rw [eg,Oz];omega),eg,eu,if_neg (by omega),H9 _ (by omega)];simp
theorem Su(a:AL)(k:Int)(ha:Ah a)(hk:0≤k∧k+Bi a<1099511627776):Lc (GU k a) k=some (k+Bi a):=by
 unfold Lc;have:=Vg a [] k ha (by have:=ha.1;simp;omega) hk.1 hk.2
 simp only [SB,R5,Jb]at this;rw [this];rfl
end Go.Proofs.YtjhjkfoabhplfaaGreat
