/- Copies, comparisons, sizes and marks of numbers in lists, as plain functions. Conditions: the lists are short. -/
import Derived.Test.YtiehjihckndgkaaGreatL6
import Derived.Test.YtiehjihckndgkaaGreatDt
namespace Go.Proofs.YtiehjihckndgkaaGreat
open Go Dv
set_option linter.unusedSimpArgs false
set_option linter.unusedVariables false
set_option maxRecDepth 100000
set_option maxHeartbeats 4000000
def BB(l:List (List Int)):Prop:=l.length<1099511627776∧ ∀x∈l,x.length<1099511627776
theorem BB.nil:BB []:=⟨by decide,fun _ h=>by cases h⟩
theorem BB.at{l:List (List Int)}(h:BB l)(i:Nat)(hi:i<l.length):l[i].length<1099511627776:=h.2 _ (OA hi)
instance (l:List (List Int)):Decidable (BB l):=by unfold BB;infer_instance
theorem Vw{α:Type}[Inhabited α](xs:List α)(i:Nat)(h:i<xs.length)(z:α):(xs.take i++List.replicate (xs.length-i) z).set i xs[i]=xs.take (i+1)++List.replicate (xs.length-(i+1)) z:=by
 have e:xs.length-i=(xs.length-(i+1))+1:=by omega
 rw [e,p8,jr _ _ (by simp;omega),jo h]
 have:i-(xs.take i).length=0:=by simp;omega
 rw [this,kD,Qy];rfl
noncomputable def Ij(a:List Int)(out:List Int)(i:Int):Option (((List Int)×Int)⊕((List Int))):= if i<(a.length:Int)then ck (0≤i∧i.toNat<a.length)<| ck (0≤i∧i.toNat<out.length)<| some (Sum.inl ((out.set i.toNat (a.getD i.toNat default)),IntKind.i64.wrap (i+1))) else some (Sum.inr out)
noncomputable def Ni(a:List Int)(v:(List Int)×Int):Option ((List Int)):=I4 (fun v=>Ij a v.1 v.2) v
noncomputable def Sq(a:List Int):Option ((List Int)):= ck (0≤(a.length:Int)∧(a.length:Int)<1099511627776)<| (Ni a ((List.replicate a.length 0),0)).bind fun AY=> some AY
def bW:SC:= .seq (.seq (.ops [oM 8 4 3,oM 9 0 26,oN 10 9 26,oB 11 .lss 3 (tK 8) (tK 10) 3 4]) (.cond (tK 11) .skip (.exit 0))) (.seq (.block 1 (.ops [oM 14 3 26,oM 15 4 3,oM 16 0 26,oM 17 4 3,oI 18 26 16 17,oL 19 3 18 3,oI 20 26 14 15,oS 3 20 19])) (.ops [oM 12 4 3,oB 13 .add 3 (tK 12) (iK 1) 3 3,oA 4 13 3]))
def vM:SC:= .loop bW
def k38:SC:= .seq (.ops [oX 2 (.assign (.const (.slice none 0 0))) 26]) (.seq (.ops [oM 5 0 26,oN 6 5 26,oX 7 (.makeSlice 26 (tK 6) (tK 6)) 26,oA 3 7 26]) (.seq (.seq (.ops [oX 4 (.assign (iK 0)) 3]) (.block 0 vM)) (.seq (.ops [oM 21 3 26,oA 2 21 26]) .ret)))
theorem A4R:Tryz.f38.body.map (Bf lends)=some k38:=by kernel_rfl
theorem AGQ:Bz Tryz.f38 1=true:=by kernel_rfl
theorem c38{a l:List D}{r:D×List D}(h:CF Y.env k38 (ES Ae l.length [ResultVar.tmp 2] r) (entry a l))(ha:a.length=1):Y.call 38 a l=some r:=
 Ab (Y:=Y) rfl Tryz.func38 (ha▸AGQ) A4R h
def Ik(a:List Int)(out:List Int)(i:Int)(s:St):Prop:=s.v 0=D.sl 3 (AL (D.int .i64) a)∧s.v 3=D.own 3 (AL (D.int .i64) out)∧s.v 4=D.int .i64 i
def Lc(a:List Int)(r:(List Int))(ex:Ex)(s:St):Prop:=ex= .exit 0∧s.v 3=D.own 3 (AL (D.int .i64) r)
theorem XR(a:List Int){v:(List Int)×Int}{s:St}{r:(List Int)}(h:Ni a v=some r)(hM:Ik a v.1 v.2 s):CF Y.env vM (Lc a r) s:=by
 unfold Ni at h;refine BN (c:=bW) (fun v=>Ij a v.1 v.2) (fun v s=>Ik a v.1 v.2 s) (Lc a) ?_ h hM;clear h hM s v r;intro v s o hM h;obtain⟨out,i⟩:=v;dsimp only at h hM;unfold Ij at h;unfold Ik at hM;obtain⟨m0,m1,m2⟩:=hM;unfold bW;rcases iS h with⟨e2,h⟩|⟨e2,h⟩
 ·obtain⟨e3,e4,h⟩:=Ei h
  obtain rfl:=Option.some.inj h
  simp (maxDischargeDepth:=9) only [↓AP,AQ,↓reduceIte,Nat.reduceEqDiff,Nat.reduceLT,m0,m1,m2,e2,e3.1,e3.2,e4.2,Ik,GZ]
 ·obtain rfl:=Option.some.inj h
  simp (maxDischargeDepth:=9) only [↓AP,AQ,↓reduceIte,Nat.reduceEqDiff,Nat.reduceLT,m0,m1,m2,e2,Ik,Lc,KW]
theorem Z5(a:List Int){r:(List Int)}(h:Sq a=some r):Y.call 38 [D.sl 3 (AL (D.int .i64) a)] []=some (D.own 3 (AL (D.int .i64) r),[]):=by
 refine c38 ?_ rfl;unfold k38;unfold Sq at h;obtain⟨e1,h⟩:=FK h;obtain⟨AY,hl3,h⟩:=Ag h;try dsimp only at h
 simp (maxDischargeDepth:=9) only [↓AP,AQ,↓reduceIte,Nat.reduceEqDiff,Nat.reduceLT,Nat.reduceLeDiff,e1.1,e1.2];refine Av (XR a hl3 ?_) ?_
 ·simp (maxDischargeDepth:=9) only [C9,DK,↓reduceIte,Nat.reduceEqDiff,Nat.reduceLT,Ik]
 ·intro ex3 s3 hX3;unfold Lc at hX3;obtain⟨rfl,n3_0⟩:=hX3
  obtain rfl:=Option.some.inj h
  simp (maxDischargeDepth:=9) only [↓AP,AQ,↓reduceIte,Nat.reduceEqDiff,Nat.reduceLT,n3_0]
theorem jE(a:List Int)(h:a.length<1099511627776):Sq a=some a:=by
 have key:=EX (fun v=>Ij a v.1 v.2) (fun i=>(a.take i++List.replicate (a.length-i) 0,(i:Int))) a.length a ?_ ?_
 ·unfold Sq Ni;rw [BJ (by omega)]
  simp only [Yk,NV,Nat.sub_zero,GY]at key;rw [key];rfl
 ·intro i hi;simp only [Ij];rw [if_pos (CJ hi),BJ (Df hi),BJ (Df (by simp;omega)),G5 _ _ hi,IV,Vw a i hi 0,Kh i (by omega)]
 ·simp only [Ij];rw [if_neg (Ar _)];simp
theorem QI(a:List Int)(h0:a.length<1099511627776):Y.call 38 [D.sl 3 (AL (D.int .i64) a)] []=some (D.own 3 (AL (D.int .i64) a),[]):=Z5 a (jE a h0)
noncomputable def Gh(a:List (List Int))(out:List (List Int))(i:Int):Option (((List (List Int))×Int)⊕((List (List Int)))):= if i<(a.length:Int)then ck (0≤i∧i.toNat<a.length)<| ck ((a.getD i.toNat default).length<1099511627776)<| ck (0≤i∧i.toNat<out.length)<| some (Sum.inl ((out.set i.toNat (a.getD i.toNat default)),IntKind.i64.wrap (i+1))) else some (Sum.inr out)
noncomputable def Me(a:List (List Int))(v:(List (List Int))×Int):Option ((List (List Int))):=I4 (fun v=>Gh a v.1 v.2) v
noncomputable def Qi(a:List (List Int)):Option ((List (List Int))):= ck (0≤(a.length:Int)∧(a.length:Int)<1099511627776)<| (Me a ((List.replicate a.length ([]:List Int)),0)).bind fun AY=> some AY
def bX:SC:= .seq (.seq (.ops [oM 8 4 3,oM 9 0 22,oN 10 9 22,oB 11 .lss 3 (tK 8) (tK 10) 3 4]) (.cond (tK 11) .skip (.exit 0))) (.seq (.block 1 (.ops [oM 14 3 22,oM 15 4 3,oM 16 0 22,oM 17 4 3,oI 18 22 16 17,oL 19 26 18 26,oC 20 38 [(tK 19)] [26] 26,oI 21 22 14 15,oS 26 21 20])) (.ops [oM 12 4 3,oB 13 .add 3 (tK 12) (iK 1) 3 3,oA 4 13 3]))
def vN:SC:= .loop bX
def k13:SC:= .seq (.ops [oX 2 (.assign (.const (.slice none 0 0))) 22]) (.seq (.ops [oM 5 0 22,oN 6 5 22,oX 7 (.makeSlice 22 (tK 6) (tK 6)) 22,oA 3 7 22]) (.seq (.seq (.ops [oX 4 (.assign (iK 0)) 3]) (.block 0 vN)) (.seq (.ops [oM 22 3 22,oA 2 22 22]) .ret)))
theorem A4S:Tryz.f13.body.map (Bf lends)=some k13:=by kernel_rfl
theorem AGT:Bz Tryz.f13 1=true:=by kernel_rfl
theorem c13{a l:List D}{r:D×List D}(h:CF Y.env k13 (ES Ae l.length [ResultVar.tmp 2] r) (entry a l))(ha:a.length=1):Y.call 13 a l=some r:=
 Ab (Y:=Y) rfl Tryz.func13 (ha▸AGT) A4S h
def Gj(a:List (List Int))(out:List (List Int))(i:Int)(s:St):Prop:=s.v 0=D.sl 26 (AL (fun x=>D.sl 3 (AL (D.int .i64) x)) a)∧s.v 3=D.own 26 (AL (fun x=>D.own 3 (AL (D.int .i64) x)) out)∧s.v 4=D.int .i64 i
def Ki(a:List (List Int))(r:(List (List Int)))(ex:Ex)(s:St):Prop:=ex= .exit 0∧s.v 3=D.own 26 (AL (fun x=>D.own 3 (AL (D.int .i64) x)) r)
theorem VQ(a:List (List Int)){v:(List (List Int))×Int}{s:St}{r:(List (List Int))}(h:Me a v=some r)(hM:Gj a v.1 v.2 s):CF Y.env vN (Ki a r) s:=by
 unfold Me at h;refine BN (c:=bX) (fun v=>Gh a v.1 v.2) (fun v s=>Gj a v.1 v.2 s) (Ki a) ?_ h hM;clear h hM s v r;intro v s o hM h;obtain⟨out,i⟩:=v;dsimp only at h hM;unfold Gh at h;unfold Gj at hM;obtain⟨m0,m1,m2⟩:=hM;unfold bX;rcases iS h with⟨e2,h⟩|⟨e2,h⟩
 ·obtain⟨e3,e4,h⟩:=Ei h;have c5:=QI (a.getD i.toNat default) e4;obtain⟨e6,h⟩:=FK h
  obtain rfl:=Option.some.inj h
  simp (maxDischargeDepth:=9) only [↓AP,AQ,↓reduceIte,Nat.reduceEqDiff,Nat.reduceLT,Nat.reduceAdd,m0,m1,m2,e2,e3.1,e3.2,c5,e6.2,Gj,GZ]
 ·obtain rfl:=Option.some.inj h
  simp (maxDischargeDepth:=9) only [↓AP,AQ,↓reduceIte,Nat.reduceEqDiff,Nat.reduceLT,m0,m1,m2,e2,Gj,Ki,KW]
theorem XT(a:List (List Int)){r:(List (List Int))}(h:Qi a=some r):Y.call 13 [D.sl 26 (AL (fun x=>D.sl 3 (AL (D.int .i64) x)) a)] []=some (D.own 26 (AL (fun x=>D.own 3 (AL (D.int .i64) x)) r),[]):=by
 refine c13 ?_ rfl;unfold k13;unfold Qi at h;obtain⟨e1,h⟩:=FK h;obtain⟨AY,hl3,h⟩:=Ag h;try dsimp only at h
 simp (maxDischargeDepth:=9) only [↓AP,AQ,↓reduceIte,Nat.reduceEqDiff,Nat.reduceLT,Nat.reduceLeDiff,e1.1,e1.2];refine Av (VQ a hl3 ?_) ?_
 ·simp (maxDischargeDepth:=9) only [C9,DK,↓reduceIte,Nat.reduceEqDiff,Nat.reduceLT,Gj]
 ·intro ex3 s3 hX3;unfold Ki at hX3;obtain⟨rfl,n3_0⟩:=hX3
  obtain rfl:=Option.some.inj h
  simp (maxDischargeDepth:=9) only [↓AP,AQ,↓reduceIte,Nat.reduceEqDiff,Nat.reduceLT,n3_0]
theorem bY(a:List (List Int))(h:BB a):Qi a=some a:=by
 have h1:=h.1;have key:=EX (fun v=>Gh a v.1 v.2) (fun i=>(a.take i++List.replicate (a.length-i) [],(i:Int))) a.length a ?_ ?_
 ·unfold Qi Me;rw [BJ (by omega)]
  simp only [Yk,NV,Nat.sub_zero,GY]at key;rw [key];rfl
 ·intro i hi;simp only [Gh];rw [if_pos (CJ hi),BJ (Df hi),BJ (by rw [G5 _ _ hi];exact h.at i hi),BJ (Df (by simp;omega)),G5 _ _ hi,IV,Vw a i hi [],Kh i (by omega)]
 ·simp only [Gh];rw [if_neg (Ar _)];simp
theorem G6(a:List (List Int))(h0:BB a):Y.call 13 [D.sl 26 (AL (fun x=>D.sl 3 (AL (D.int .i64) x)) a)] []=some (D.own 26 (AL (fun x=>D.own 3 (AL (D.int .i64) x)) a),[]):=XT a (bY a h0)
noncomputable def Il(a:List Int)(b:List Int)(i:Int):Option ((Int)⊕(Unit⊕Unit)):= if i<(a.length:Int)then ck (0≤i∧i.toNat<a.length)<| ck (0≤i∧i.toNat<b.length)<| if(a.getD i.toNat default)=(b.getD i.toNat default)then some (Sum.inl (IntKind.i64.wrap (i+1))) else some (Sum.inr (Sum.inl ())) else some (Sum.inr (Sum.inr ()))
noncomputable def Nj(a:List Int)(b:List Int)(v:Int):Option (Unit⊕Unit):=I4 (fun v=>Il a b v) v
noncomputable def Sr(a:List Int)(b:List Int):Option (Bool):=
 if(a.length:Int)=(b.length:Int)then
  (Nj a b 0).bind fun AY=>
  match AY with
  | .inl q1000_=>
   some false
  | .inr q1000_=>
   some true
 else
  some false
def bZ:SC:= .seq (.seq (.ops [oM 11 5 3,oM 12 0 26,oN 13 12 26,oB 14 .lss 3 (tK 11) (tK 13) 3 4]) (.cond (tK 14) .skip (.exit 0))) (.seq (.block 1 (.seq (.draws [(⟨[17,0,0],[17,18,19,20,21,22,23,24,25],[17]⟩,oM 17 0 26),(⟨[18,5,5],[17,18,19,20,21,22,23,24,25],[18]⟩,oM 18 5 3),(⟨[19,17,18,0,5],[17,18,19,20,21,22,23,24,25],[19]⟩,oI 19 26 17 18),(⟨[20,19,0],[17,18,19,20,21,22,23,24,25],[20]⟩,oL 20 3 19 3),(⟨[21,1,1],[17,18,19,20,21,22,23,24,25],[21]⟩,oM 21 1 26),(⟨[22,5,5],[17,18,19,20,21,22,23,24,25],[22]⟩,oM 22 5 3),(⟨[23,21,22,1,5],[17,18,19,20,21,22,23,24,25],[23]⟩,oI 23 26 21 22),(⟨[24,23,1],[17,18,19,20,21,22,23,24,25],[24]⟩,oL 24 3 23 3),(⟨[25,20,24,0,1],[17,18,19,20,21,22,23,24,25],[25]⟩,oB 25 .neq 3 (tK 20) (tK 24) 3 4)]) (.cond (tK 25) (.seq (.ops [oX 4 (.assign (.const (.bool false))) 4]) .ret) .skip))) (.ops [oM 15 5 3,oB 16 .add 3 (tK 15) (iK 1) 3 3,oA 5 16 3]))
def vO:SC:= .loop bZ
def k26:SC:= .seq (.ops [oX 4 (.assign (.const (.bool false))) 4]) (.seq (.seq (.ops [oM 6 0 26,oN 7 6 26,oM 8 1 26,oN 9 8 26,oB 10 .neq 3 (tK 7) (tK 9) 3 4]) (.cond (tK 10) (.seq (.ops [oX 4 (.assign (.const (.bool false))) 4]) .ret) .skip)) (.seq (.seq (.ops [oX 5 (.assign (iK 0)) 3]) (.block 0 vO)) (.seq (.ops [oX 4 (.assign (.const (.bool true))) 4]) .ret)))
theorem A4T:Tryz.f26.body.map (Bf lends)=some k26:=by kernel_rfl
theorem AGV:Bz Tryz.f26 2=true:=by kernel_rfl
theorem c26{a l:List D}{r:D×List D}(h:CF Y.env k26 (ES Ae l.length [ResultVar.tmp 4] r) (entry a l))(ha:a.length=2):Y.call 26 a l=some r:=
 Ab (Y:=Y) rfl Tryz.func26 (ha▸AGV) A4T h
def GL(a:List Int)(b:List Int)(i:Int)(s:St):Prop:=s.v 0=D.sl 3 (AL (D.int .i64) a)∧s.v 1=D.sl 3 (AL (D.int .i64) b)∧s.v 5=D.int .i64 i
def Im(a:List Int)(b:List Int)(r:Unit⊕Unit)(ex:Ex)(s:St):Prop:=match r with
 | .inl q=>ex= .ret∧s.v 4=D.bool false
 | .inr q=>ex= .exit 0
theorem XU(a:List Int)(b:List Int){v:Int}{s:St}{r:Unit⊕Unit}(h:Nj a b v=some r)(hM:GL a b v s):CF Y.env vO (Im a b r) s:=by
 unfold Nj at h;refine BN (c:=bZ) (fun v=>Il a b v) (fun v s=>GL a b v s) (Im a b) ?_ h hM;clear h hM s v r;intro i s o hM h;unfold Il at h;unfold GL at hM;obtain⟨m0,m1,m2⟩:=hM;unfold bZ;rcases iS h with⟨e2,h⟩|⟨e2,h⟩
 ·obtain⟨e3,e4,h⟩:=Ei h;rcases iS h with⟨e5,h⟩|⟨e5,h⟩
  ·obtain rfl:=Option.some.inj h
   simp (maxDischargeDepth:=9) only [↓AP,AQ,↓reduceIte,Nat.reduceEqDiff,Nat.reduceLT,m0,m1,m2,e2,e3.1,e3.2,e4.2,decide_eq_true e5,GL,GZ]
  ·obtain rfl:=Option.some.inj h
   simp (maxDischargeDepth:=9) only [↓AP,AQ,↓reduceIte,Nat.reduceEqDiff,Nat.reduceLT,m0,m1,m2,e2,e3.1,e3.2,e4.2,e5,GL,Im,MP]
 ·obtain rfl:=Option.some.inj h
  simp (maxDischargeDepth:=9) only [↓AP,AQ,↓reduceIte,Nat.reduceEqDiff,Nat.reduceLT,m0,m2,e2,GL,Im,KW]
theorem Z6(a:List Int)(b:List Int){r:Bool}(h:Sr a b=some r):Y.call 26 [D.sl 3 (AL (D.int .i64) a),D.sl 3 (AL (D.int .i64) b)] []=some (D.bool r,[]):=by
 refine c26 ?_ rfl;unfold k26;unfold Sr at h;rcases iS h with⟨e1,h⟩|⟨e1,h⟩
 ·obtain⟨AY,hl3,h⟩:=Ag h;try dsimp only at h
  simp (maxDischargeDepth:=9) only [↓AP,AQ,↓reduceIte,Nat.reduceEqDiff,Nat.reduceLT,decide_eq_true e1];refine Av (XU a b hl3 ?_) ?_
  ·simp (maxDischargeDepth:=9) only [C9,DK,↓reduceIte,Nat.reduceEqDiff,Nat.reduceLT,GL]
  ·intro ex3 s3 hX3;rcases AY with q1000_|q1000_
   ·unfold Im at hX3;dsimp only at hX3 h;obtain⟨rfl,n3_0⟩:=hX3
    obtain rfl:=Option.some.inj h
    simp (maxDischargeDepth:=9) only [↓AP,AQ,↓reduceIte,n3_0]
   ·unfold Im at hX3;dsimp only at hX3 h
    obtain rfl:=hX3
    obtain rfl:=Option.some.inj h
    simp (maxDischargeDepth:=9) only [↓AP,AQ,↓reduceIte,Nat.reduceEqDiff,Nat.reduceLT]
 ·obtain rfl:=Option.some.inj h
  simp (maxDischargeDepth:=9) only [↓AP,AQ,↓reduceIte,Nat.reduceEqDiff,Nat.reduceLT,e1]
theorem jF(a b:List Int)(ha:a.length<1099511627776):Sr a b=some (decide (a=b)):=by
 unfold Sr Nj;by_cases hl:a.length=b.length
 ·rw [if_pos (by omega)]
  have key:=Db (fun v=>Il a b v) (fun i=>(i:Int)) a.length (fun i=>decide (a.getD i default=b.getD i default)) (.inl ()) (.inr ()) ?_ ?_
  ·simp only [GY]at key;rw [key,QF a b hl];by_cases he:a=b<;>simp [he]
  ·intro i hi;simp only [Il];rw [if_pos (CJ hi),BJ (Df hi),BJ (Df (by omega)),IV,Kh i (by omega)]<;>simp only [decide_eq_true_eq]
  ·simp only [Il];rw [if_neg (Ar _)]
 ·rw [if_neg (by omega)]
  have: ¬a=b:=fun e=>hl (by rw [e])
  simp [this]
theorem QJ(a:List Int)(b:List Int)(h0:a.length<1099511627776):Y.call 26 [D.sl 3 (AL (D.int .i64) a),D.sl 3 (AL (D.int .i64) b)] []=some (D.bool (decide (a=b)),[]):=Z6 a b (jF a b h0)
noncomputable def Gl(a:List (List Int))(b:List (List Int))(i:Int):Option ((Int)⊕(Unit⊕Unit)):= if i<(a.length:Int)then ck (0≤i∧i.toNat<a.length)<| ck (0≤i∧i.toNat<b.length)<| ck ((a.getD i.toNat default).length<1099511627776)<| if(decide ((a.getD i.toNat default)=(b.getD i.toNat default)))=true then some (Sum.inl (IntKind.i64.wrap (i+1))) else some (Sum.inr (Sum.inl ())) else some (Sum.inr (Sum.inr ()))
noncomputable def Mf(a:List (List Int))(b:List (List Int))(v:Int):Option (Unit⊕Unit):=I4 (fun v=>Gl a b v) v
noncomputable def Qj(a:List (List Int))(b:List (List Int)):Option (Bool):=
 if(a.length:Int)=(b.length:Int)then
  (Mf a b 0).bind fun AY=>
  match AY with
  | .inl q1000_=>
   some false
  | .inr q1000_=>
   some true
 else
  some false
def bf:SC:= .seq (.seq (.ops [oM 11 5 3,oM 12 0 22,oN 13 12 22,oB 14 .lss 3 (tK 11) (tK 13) 3 4]) (.cond (tK 14) .skip (.exit 0))) (.seq (.block 1 (.seq (.draws [(⟨[17,0,0],[17,18,19,20,21,22,23,24,25,26],[17]⟩,oM 17 0 22),(⟨[18,5,5],[17,18,19,20,21,22,23,24,25,26],[18]⟩,oM 18 5 3),(⟨[19,17,18,0,5],[17,18,19,20,21,22,23,24,25,26],[19]⟩,oI 19 22 17 18),(⟨[20,19,0],[17,18,19,20,21,22,23,24,25,26],[20]⟩,oL 20 26 19 26),(⟨[21,1,1],[17,18,19,20,21,22,23,24,25,26],[21]⟩,oM 21 1 22),(⟨[22,5,5],[17,18,19,20,21,22,23,24,25,26],[22]⟩,oM 22 5 3),(⟨[23,21,22,1,5],[17,18,19,20,21,22,23,24,25,26],[23]⟩,oI 23 22 21 22),(⟨[24,23,1],[17,18,19,20,21,22,23,24,25,26],[24]⟩,oL 24 26 23 26),(⟨[25,20,24,0,1],[17,18,19,20,21,22,23,24,25,26],[25]⟩,oC 25 26 [(tK 20),(tK 24)] [26,26] 4),(⟨[26,25,25],[17,18,19,20,21,22,23,24,25,26],[26]⟩,oX 26 (.unOp .not 4 (tK 25)) 4)]) (.cond (tK 26) (.seq (.ops [oX 4 (.assign (.const (.bool false))) 4]) .ret) .skip))) (.ops [oM 15 5 3,oB 16 .add 3 (tK 15) (iK 1) 3 3,oA 5 16 3]))
def vP:SC:= .loop bf
def k15:SC:= .seq (.ops [oX 4 (.assign (.const (.bool false))) 4]) (.seq (.seq (.ops [oM 6 0 22,oN 7 6 22,oM 8 1 22,oN 9 8 22,oB 10 .neq 3 (tK 7) (tK 9) 3 4]) (.cond (tK 10) (.seq (.ops [oX 4 (.assign (.const (.bool false))) 4]) .ret) .skip)) (.seq (.seq (.ops [oX 5 (.assign (iK 0)) 3]) (.block 0 vP)) (.seq (.ops [oX 4 (.assign (.const (.bool true))) 4]) .ret)))
theorem A4U:Tryz.f15.body.map (Bf lends)=some k15:=by kernel_rfl
theorem AGX:Bz Tryz.f15 2=true:=by kernel_rfl
theorem c15{a l:List D}{r:D×List D}(h:CF Y.env k15 (ES Ae l.length [ResultVar.tmp 4] r) (entry a l))(ha:a.length=2):Y.call 15 a l=some r:=
 Ab (Y:=Y) rfl Tryz.func15 (ha▸AGX) A4U h
def FM(a:List (List Int))(b:List (List Int))(i:Int)(s:St):Prop:=s.v 0=D.sl 26 (AL (fun x=>D.sl 3 (AL (D.int .i64) x)) a)∧s.v 1=D.sl 26 (AL (fun x=>D.sl 3 (AL (D.int .i64) x)) b)∧s.v 5=D.int .i64 i
def Gm(a:List (List Int))(b:List (List Int))(r:Unit⊕Unit)(ex:Ex)(s:St):Prop:=match r with
 | .inl q=>ex= .ret∧s.v 4=D.bool false
 | .inr q=>ex= .exit 0
theorem VS(a:List (List Int))(b:List (List Int)){v:Int}{s:St}{r:Unit⊕Unit}(h:Mf a b v=some r)(hM:FM a b v s):CF Y.env vP (Gm a b r) s:=by
 unfold Mf at h;refine BN (c:=bf) (fun v=>Gl a b v) (fun v s=>FM a b v s) (Gm a b) ?_ h hM;clear h hM s v r;intro i s o hM h;unfold Gl at h;unfold FM at hM;obtain⟨m0,m1,m2⟩:=hM;unfold bf;rcases iS h with⟨e2,h⟩|⟨e2,h⟩
 ·obtain⟨e3,e4,e5,h⟩:=Oa h;have c6:=QJ (a.getD i.toNat default) (b.getD i.toNat default) e5;rcases iS h with⟨e7,h⟩|⟨e7,h⟩
  ·obtain rfl:=Option.some.inj h
   simp (maxDischargeDepth:=9) only [↓AP,AQ,↓reduceIte,Nat.reduceEqDiff,Nat.reduceLT,Nat.reduceAdd,m0,m1,m2,e2,e3.1,e3.2,e4.2,c6,e7,FM,GZ]
  ·have e7f:(decide ((a.getD i.toNat default)=(b.getD i.toNat default)))=false:=Fx.mpr e7
   obtain rfl:=Option.some.inj h
   simp (maxDischargeDepth:=9) only [↓AP,AQ,↓reduceIte,Nat.reduceEqDiff,Nat.reduceLT,Nat.reduceAdd,m0,m1,m2,e2,e3.1,e3.2,e4.2,c6,e7f,FM,Gm,MP]
 ·obtain rfl:=Option.some.inj h
  simp (maxDischargeDepth:=9) only [↓AP,AQ,↓reduceIte,Nat.reduceEqDiff,Nat.reduceLT,m0,m2,e2,FM,Gm,KW]
theorem XV(a:List (List Int))(b:List (List Int)){r:Bool}(h:Qj a b=some r):Y.call 15 [D.sl 26 (AL (fun x=>D.sl 3 (AL (D.int .i64) x)) a),D.sl 26 (AL (fun x=>D.sl 3 (AL (D.int .i64) x)) b)] []=some (D.bool r,[]):=by
 refine c15 ?_ rfl;unfold k15;unfold Qj at h;rcases iS h with⟨e1,h⟩|⟨e1,h⟩
 ·obtain⟨AY,hl3,h⟩:=Ag h;try dsimp only at h
  simp (maxDischargeDepth:=9) only [↓AP,AQ,↓reduceIte,Nat.reduceEqDiff,Nat.reduceLT,decide_eq_true e1];refine Av (VS a b hl3 ?_) ?_
  ·simp (maxDischargeDepth:=9) only [C9,DK,↓reduceIte,Nat.reduceEqDiff,Nat.reduceLT,FM]
  ·intro ex3 s3 hX3;rcases AY with q1000_|q1000_
   ·unfold Gm at hX3;dsimp only at hX3 h;obtain⟨rfl,n3_0⟩:=hX3
    obtain rfl:=Option.some.inj h
    simp (maxDischargeDepth:=9) only [↓AP,AQ,↓reduceIte,n3_0]
   ·unfold Gm at hX3;dsimp only at hX3 h
    obtain rfl:=hX3
    obtain rfl:=Option.some.inj h
    simp (maxDischargeDepth:=9) only [↓AP,AQ,↓reduceIte,Nat.reduceEqDiff,Nat.reduceLT]
 ·obtain rfl:=Option.some.inj h
  simp (maxDischargeDepth:=9) only [↓AP,AQ,↓reduceIte,Nat.reduceEqDiff,Nat.reduceLT,e1]
theorem bg(a b:List (List Int))(ha:BB a):Qj a b=some (decide (a=b)):=by
 have h1:=ha.1;unfold Qj Mf;by_cases hl:a.length=b.length
 ·rw [if_pos (by omega)]
  have key:=Db (fun v=>Gl a b v) (fun i=>(i:Int)) a.length (fun i=>decide (a.getD i default=b.getD i default)) (.inl ()) (.inr ()) ?_ ?_
  ·simp only [GY]at key;rw [key,QF a b hl];by_cases he:a=b<;>simp [he]
  ·intro i hi;simp only [Gl];rw [if_pos (CJ hi),BJ (Df hi),BJ (Df (by omega)),BJ (by rw [G5 _ _ hi];exact ha.at i hi),IV,Kh i (by omega)]<;>simp only [decide_eq_true_eq]
  ·simp only [Gl];rw [if_neg (Ar _)]
 ·rw [if_neg (by omega)]
  have: ¬a=b:=fun e=>hl (by rw [e])
  simp [this]
theorem Ej(a:List (List Int))(b:List (List Int))(h0:BB a):Y.call 15 [D.sl 26 (AL (fun x=>D.sl 3 (AL (D.int .i64) x)) a),D.sl 26 (AL (fun x=>D.sl 3 (AL (D.int .i64) x)) b)] []=some (D.bool (decide (a=b)),[]):=XV a b (bg a b h0)
def FW(left n:Int):Int:=if left-n<0 then-1 else left-n
theorem Fe(left n:Int):FW left n= -1∨(FW left n=left-n∧0≤left-n):=by unfold FW;split<;>omega
def Bl(l:List (List Int)):Int:=(l.map fun xs=>(xs.length:Int)).sum
theorem Vx:Bl []=0:=rfl
theorem KC(x:List Int)(l:List (List Int)):Bl (x::l)=x.length+Bl l:=rfl
theorem CU(l:List (List Int)):0≤Bl l:=by
 induction l with
 |nil=>rw [Vx];omega
 |cons x l ih=>rw [KC];omega
theorem o5{l:List (List Int)}{x:List Int}(h:x∈l):(x.length:Int)≤Bl l:=by
 induction l with
 |nil=>cases h
 |cons y l ih=>
  rw [KC];have:=CU l
  rcases Rv.1 h with rfl|h
  ·omega
  ·have:=ih h;omega
theorem U4{l:List (List Int)}(h:l.length+Bl l<1099511627776):BB l:=by
 have:=CU l
 exact⟨by omega,fun x hx=>by have:=o5 hx;omega⟩
noncomputable def Su(a:List Int)(left:Int):Option (Int):= if(IntKind.i64.wrap (left-(a.length:Int)))<0 then some (-1) else some (IntKind.i64.wrap (left-(a.length:Int)))
def k32:SC:= .seq (.ops [oX 4 (.assign (iK 0)) 3]) (.seq (.ops [oM 5 1 3,oM 6 0 26,oN 7 6 26,oB 8 .sub 3 (tK 5) (tK 7) 3 3,oA 1 8 3]) (.seq (.seq (.ops [oM 9 1 3,oB 10 .lss 3 (tK 9) (iK 0) 3 4]) (.cond (tK 10) (.seq (.ops [oX 4 (.assign (.const (.int .i64 (-1)))) 3]) .ret) .skip)) (.seq (.ops [oM 11 1 3,oA 4 11 3]) .ret)))
theorem A4V:Tryz.f32.body.map (Bf lends)=some k32:=by kernel_rfl
theorem AGZ:Bz Tryz.f32 2=true:=by kernel_rfl
theorem c32{a l:List D}{r:D×List D}(h:CF Y.env k32 (ES Ae l.length [ResultVar.tmp 4] r) (entry a l))(ha:a.length=2):Y.call 32 a l=some r:=
 Ab (Y:=Y) rfl Tryz.func32 (ha▸AGZ) A4V h
theorem Z7(a:List Int)(left:Int){r:Int}(h:Su a left=some r):Y.call 32 [D.sl 3 (AL (D.int .i64) a),D.int .i64 left] []=some (D.int .i64 r,[]):=by
 refine c32 ?_ rfl;unfold k32;unfold Su at h;rcases iS h with⟨e1,h⟩|⟨e1,h⟩
 ·obtain rfl:=Option.some.inj h
  simp (maxDischargeDepth:=9) only [↓AP,AQ,↓reduceIte,Nat.reduceEqDiff,Nat.reduceLT,Int.reduceNeg,e1]
 ·obtain rfl:=Option.some.inj h
  simp (maxDischargeDepth:=9) only [↓AP,AQ,↓reduceIte,Nat.reduceEqDiff,Nat.reduceLT,Int.reduceNeg,e1]
theorem jG(a:List Int)(left:Int)(ha:a.length<9223372036854775808)(hl:0≤left∧left≤1048576):Su a left=some (FW left a.length):=by
 unfold Su FW;rw [J9 _ (by omega)]
 split<;>rfl
theorem QK(a:List Int)(left:Int)(h0:a.length<9223372036854775808)(h1:0≤left∧left≤1048576):Y.call 32 [D.sl 3 (AL (D.int .i64) a),D.int .i64 left] []=some (D.int .i64 (FW left a.length),[]):=Z7 a left (jG a left h0 h1)
noncomputable def Gn(a:List (List Int))(left1:Int)(i:Int):Option ((Int×Int)⊕(Unit⊕Int)):= if i<(a.length:Int)then ck (0≤i∧i.toNat<a.length)<| ck ((a.getD i.toNat default).length<9223372036854775808)<| ck (0≤left1∧left1≤1048576)<| if(FW left1 (a.getD i.toNat default).length)<0 then some (Sum.inr (Sum.inl ())) else some (Sum.inl ((FW left1 (a.getD i.toNat default).length),IntKind.i64.wrap (i+1))) else some (Sum.inr (Sum.inr left1))
noncomputable def I9(a:List (List Int))(v:Int×Int):Option (Unit⊕Int):=I4 (fun v=>Gn a v.1 v.2) v
noncomputable def Od(a:List (List Int))(left:Int):Option (Int):=
 if(IntKind.i64.wrap (left-(a.length:Int)))<0 then
  some (-1)
 else
  (I9 a (IntKind.i64.wrap (left-(a.length:Int)),0)).bind fun AY=>
  match AY with
  | .inl q1000_=>
   some (-1)
  | .inr q1000_=>
   some q1000_
def mI:SC:= .seq (.seq (.ops [oM 12 5 3,oM 13 0 22,oN 14 13 22,oB 15 .lss 3 (tK 12) (tK 14) 3 4]) (.cond (tK 15) .skip (.exit 0))) (.seq (.block 1 (.seq (.ops [oM 18 0 22,oM 19 5 3,oI 20 22 18 19,oL 21 26 20 26,oM 22 1 3,oC 23 32 [(tK 21),(tK 22)] [26,3] 3,oA 1 23 3]) (.seq (.ops [oM 24 1 3,oB 25 .lss 3 (tK 24) (iK 0) 3 4]) (.cond (tK 25) (.seq (.ops [oX 4 (.assign (.const (.int .i64 (-1)))) 3]) .ret) .skip)))) (.ops [oM 16 5 3,oB 17 .add 3 (tK 16) (iK 1) 3 3,oA 5 17 3]))
def A2s:SC:= .loop mI
def k9:SC:= .seq (.ops [oX 4 (.assign (iK 0)) 3]) (.seq (.ops [oM 6 1 3,oM 7 0 22,oN 8 7 22,oB 9 .sub 3 (tK 6) (tK 8) 3 3,oA 1 9 3]) (.seq (.seq (.ops [oM 10 1 3,oB 11 .lss 3 (tK 10) (iK 0) 3 4]) (.cond (tK 11) (.seq (.ops [oX 4 (.assign (.const (.int .i64 (-1)))) 3]) .ret) .skip)) (.seq (.seq (.ops [oX 5 (.assign (iK 0)) 3]) (.block 0 A2s)) (.seq (.ops [oM 26 1 3,oA 4 26 3]) .ret))))
theorem AC8:Tryz.f9.body.map (Bf lends)=some k9:=by kernel_rfl
theorem ok9:Bz Tryz.f9 2=true:=by kernel_rfl
theorem c9{a l:List D}{r:D×List D}(h:CF Y.env k9 (ES Ae l.length [ResultVar.tmp 4] r) (entry a l))(ha:a.length=2):Y.call 9 a l=some r:=
 Ab (Y:=Y) rfl Tryz.func9 (ha▸ok9) AC8 h
def FN(a:List (List Int))(left1:Int)(i:Int)(s:St):Prop:=s.v 0=D.sl 26 (AL (fun x=>D.sl 3 (AL (D.int .i64) x)) a)∧s.v 1=D.int .i64 left1∧s.v 5=D.int .i64 i
def Gp(a:List (List Int))(r:Unit⊕Int)(ex:Ex)(s:St):Prop:=match r with
 | .inl q=>ex= .ret∧s.v 4=D.int .i64 (-1)
 | .inr q=>ex= .exit 0∧s.v 1=D.int .i64 q
theorem VT(a:List (List Int)){v:Int×Int}{s:St}{r:Unit⊕Int}(h:I9 a v=some r)(hM:FN a v.1 v.2 s):CF Y.env A2s (Gp a r) s:=by
 unfold I9 at h;refine BN (c:=mI) (fun v=>Gn a v.1 v.2) (fun v s=>FN a v.1 v.2 s) (Gp a) ?_ h hM;clear h hM s v r;intro v s o hM h;obtain⟨left1,i⟩:=v;dsimp only at h hM;unfold Gn at h;unfold FN at hM;obtain⟨m0,m1,m2⟩:=hM;unfold mI;rcases iS h with⟨e2,h⟩|⟨e2,h⟩
 ·obtain⟨e3,e4,e5,h⟩:=Oa h;have c6:=QK (a.getD i.toNat default) left1 e4 e5;rcases iS h with⟨e7,h⟩|⟨e7,h⟩
  ·obtain rfl:=Option.some.inj h
   simp (maxDischargeDepth:=9) only [↓AP,AQ,↓reduceIte,Nat.reduceEqDiff,Nat.reduceLT,Nat.reduceAdd,Int.reduceNeg,m0,m1,m2,e2,e3.1,e3.2,c6,e7,FN,Gp,MP]
  ·obtain rfl:=Option.some.inj h
   simp (maxDischargeDepth:=9) only [↓AP,AQ,↓reduceIte,Nat.reduceEqDiff,Nat.reduceLT,Nat.reduceAdd,Int.reduceNeg,m0,m1,m2,e2,e3.1,e3.2,c6,e7,FN,GZ]
 ·obtain rfl:=Option.some.inj h
  simp (maxDischargeDepth:=9) only [↓AP,AQ,↓reduceIte,Nat.reduceEqDiff,Nat.reduceLT,Int.reduceNeg,m0,m1,m2,e2,FN,Gp,KW]
theorem XW(a:List (List Int))(left:Int){r:Int}(h:Od a left=some r):Y.call 9 [D.sl 26 (AL (fun x=>D.sl 3 (AL (D.int .i64) x)) a),D.int .i64 left] []=some (D.int .i64 r,[]):=by
 refine c9 ?_ rfl;unfold k9;unfold Od at h;rcases iS h with⟨e1,h⟩|⟨e1,h⟩
 ·obtain rfl:=Option.some.inj h
  simp (maxDischargeDepth:=9) only [↓AP,AQ,↓reduceIte,Nat.reduceEqDiff,Nat.reduceLT,Int.reduceNeg,e1]
 ·obtain⟨AY,hl3,h⟩:=Ag h;try dsimp only at h
  simp (maxDischargeDepth:=9) only [↓AP,AQ,↓reduceIte,Nat.reduceEqDiff,Nat.reduceLT,Int.reduceNeg,e1];refine Av (VT a hl3 ?_) ?_
  ·simp (maxDischargeDepth:=9) only [C9,DK,↓reduceIte,Nat.reduceEqDiff,Nat.reduceLT,FN]
  ·intro ex3 s3 hX3;rcases AY with q1000_|q1000_
   ·unfold Gp at hX3;dsimp only at hX3 h;obtain⟨rfl,n3_0⟩:=hX3
    obtain rfl:=Option.some.inj h
    simp (maxDischargeDepth:=9) only [↓AP,AQ,↓reduceIte,Int.reduceNeg,n3_0]
   ·unfold Gp at hX3;dsimp only at hX3 h;obtain⟨rfl,n3_0⟩:=hX3
    obtain rfl:=Option.some.inj h
    simp (maxDischargeDepth:=9) only [↓AP,AQ,↓reduceIte,Nat.reduceEqDiff,Nat.reduceLT,n3_0]
def rQ:Int→List (List Int)→Int
 |left,[]=>left
 |left,x::l=>if left-x.length<0 then-1 else rQ (left-x.length) l
theorem vQ(l:List (List Int)): ∀(left:Int),0≤left→rQ left l=FW left (Bl l):=by
 induction l with
 |nil=>intro left h;unfold rQ FW;rw [Vx,if_neg (by omega)];omega
 |cons x l ih=>
  intro left h;have:=CU l
  unfold rQ;by_cases hq:left-x.length<0
  ·rw [if_pos hq];unfold FW;rw [KC,if_pos (by omega)]
  ·rw [if_neg hq,ih _ (by omega)]
   unfold FW;rw [KC];by_cases hr:left-x.length-Bl l<0
   ·rw [if_pos hr,if_pos (by omega)]
   ·rw [if_neg hr,if_neg (by omega)];omega
theorem VU(a:List (List Int))(ha:a.length<4611686018427387904)(hx: ∀x∈a,x.length<9223372036854775808): ∀(n i:Nat) (left:Int),n=a.length-i→i≤a.length→0≤left∧left≤1048576→
  I9 a (left,(i:Int))=some (if rQ left (a.drop i)= -1 then .inl ()else .inr (rQ left (a.drop i))):=by
 intro n
 induction n with
 |zero=>
  intro i left hn hi hl;have e:i=a.length:=by omega
  subst e;unfold I9;rw [EH (r:=Sum.inr left)]
  ·rw [List.drop_length];unfold rQ;rw [if_neg (by omega)]
  ·simp only [Gn];rw [if_neg (Ar _)]
 |succ n ih=>
  intro i left hn hi hl;have hlt:i<a.length:=by omega
  have hm:a[i]∈a:=OA hlt;have hxm:=hx _ hm
  have step:Gn a left i=if FW left a[i].length<0 then some (Sum.inr (Sum.inl ()))else some (Sum.inl (FW left a[i].length,((i+1:Nat):Int))):=by
   unfold Gn;rw [if_pos (CJ hlt),BJ (Df hlt),BJ (by rw [G5 _ _ hlt];exact hxm),BJ hl,G5 _ _ hlt,Kh i (by omega)]
  rw [WH hlt];unfold rQ;by_cases hq:left-(a[i].length:Int)<0
  ·rw [if_pos hq];unfold I9;rw [EH (r:=Sum.inl ())]
   ·rfl
   ·rw [step];unfold FW;rw [if_pos hq];rfl
  ·rw [if_neg hq];have e2:FW left a[i].length=left-a[i].length:=by unfold FW;rw [if_neg hq]
   have:=ih (i+1) (left-a[i].length) (by omega) (by omega) (by omega)
   unfold I9 at this ⊢;rw [Jg (s':=(left-(a[i].length:Int),((i+1:Nat):Int))),this]
   ·rw [step,e2,if_neg hq]
theorem Z8(a:List (List Int))(left:Int)(ha:a.length<9223372036854775808)(hx: ∀x∈a,x.length<9223372036854775808)(hl:0≤left∧left≤1048576):Od a left=some (FW left (a.length+Bl a)):=by
 have ht:=CU a;unfold Od;rw [J9 _ (by omega)]
 by_cases hq:left-(a.length:Int)<0
 ·rw [if_pos hq];unfold FW;rw [if_pos (by omega)]
 ·rw [if_neg hq];have h0:=VU a (by omega) hx a.length 0 (left-a.length) (by omega) (by omega) (by omega)
  simp only [GY,Ru]at h0;rw [h0,DJ,vQ _ _ (by omega)]
  have e:FW (left-a.length) (Bl a)=FW left (a.length+Bl a):=by unfold FW;rw [show left- ↑a.length-Bl a=left-(↑a.length+Bl a) by omega]
  rw [e];by_cases h1:FW left (a.length+Bl a)= -1
  ·rw [if_pos h1,h1]
  ·rw [if_neg h1]
theorem QL{α:Type}(a b:List α)(x:α):(a.length:Int)<((a++x::b).length:Int):=by rw [Rp,Lt];omega
theorem QM{α:Type}(a b:List α)(x:α):0≤(a.length:Int)∧(a.length:Int).toNat<(a++x::b).length:=by rw [Rp,Lt];omega
theorem Qk{α:Type}(a:List α): ¬(a.length:Int)<((a++[]).length:Int):=by rw [WK];omega
def QN(l:List (List Int)):Prop:=l.length<9223372036854775808∧ ∀x∈l,x.length<9223372036854775808
instance (l:List (List Int)):Decidable (QN l):=by unfold QN;infer_instance
theorem bi(a:List (List Int))(left:Int)(hw:QN a)(hl:0≤left∧left≤1048576):Od a left=some (FW left (a.length+Bl a)):=Z8 a left hw.1 hw.2 hl
theorem PH(a:List (List Int))(left:Int)(h0:QN a)(h1:0≤left∧left≤1048576):Y.call 9 [D.sl 26 (AL (fun x=>D.sl 3 (AL (D.int .i64) x)) a),D.int .i64 left] []=some (D.int .i64 (FW left (a.length+Bl a)),[]):=XW a left (bi a left h0 h1)
def upto(k:Int)(n:Nat):List Int:=(List.range n).map fun(i:Nat)=>k+i
theorem Oe(k:Int)(n:Nat):(upto k n).length=n:=by simp [upto]
theorem vR(xs:List Int)(k:Int)(i:Nat)(h:i<xs.length):(upto k i++xs.drop i).set i (k+i)=upto k (i+1)++xs.drop (i+1):=by
 rw [jr _ _ (by simp [Oe]),Oe,Nat.sub_self,WH h,kD]
 simp [upto,List.range_succ]
noncomputable def Ff(k:Int)(k1:Int)(i:Int)(BD:List Int):Option ((Int×Int×(List Int))⊕(Int×(List Int))):= if i<(BD.length:Int)then ck (0≤i∧i.toNat<BD.length)<| some (Sum.inl (IntKind.i64.wrap (k1+1),IntKind.i64.wrap (i+1),(BD.set i.toNat k1))) else some (Sum.inr (k1,BD))
noncomputable def Ld(k:Int)(v:Int×Int×(List Int)):Option (Int×(List Int)):=I4 (fun v=>Ff k v.1 v.2.1 v.2.2) v
noncomputable def PI(a:List Int)(k:Int):Option (Int×(List Int)):= (Ld k (k,0,a)).bind fun AY=> some (AY.1,AY.2)
def bn:SC:= .seq (.seq (.ops [oM 6 5 3,oM 7 0 26,oN 8 7 26,oB 9 .lss 3 (tK 6) (tK 8) 3 4]) (.cond (tK 9) .skip (.exit 0))) (.seq (.block 1 (.seq (.ops [oM 12 0 26,oM 13 5 3,oM 14 1 3,oI 15 26 12 13,oS 3 15 14]) (.ops [oM 16 1 3,oB 17 .add 3 (tK 16) (iK 1) 3 3,oA 1 17 3]))) (.ops [oM 10 5 3,oB 11 .add 3 (tK 10) (iK 1) 3 3,oA 5 11 3]))
def vS:SC:= .loop bn
def k27:SC:= .seq (.ops [oX 4 (.assign (iK 0)) 3]) (.seq (.seq (.ops [oX 5 (.assign (iK 0)) 3]) (.block 0 vS)) (.seq (.ops [oM 18 1 3,oA 4 18 3]) .ret))
theorem A4W:Tryz.f27.body.map (Bf lends)=some k27:=by kernel_rfl
theorem AGb:Bz Tryz.f27 2=true:=by kernel_rfl
theorem c27{a l:List D}{r:D×List D}(h:CF Y.env k27 (ES Ae l.length [ResultVar.tmp 4] r) (entry a l))(ha:a.length=2):Y.call 27 a l=some r:=
 Ab (Y:=Y) rfl Tryz.func27 (ha▸AGb) A4W h
def Fg(k:Int)(k1:Int)(i:Int)(BD:List Int)(s:St):Prop:=(∃w_,s.v 0=D.vw [100000] (s.k 100000) w_)∧s.v 1=D.int .i64 k1∧s.v 5=D.int .i64 i∧s.v 100000=D.own 3 (AL (D.int .i64) BD)
def KJ(k:Int)(r:Int×(List Int))(ex:Ex)(s:St):Prop:=ex= .exit 0∧s.v 1=D.int .i64 r.1∧s.v 100000=D.own 3 (AL (D.int .i64) r.2)
theorem U5(k:Int){v:Int×Int×(List Int)}{s:St}{r:Int×(List Int)}(h:Ld k v=some r)(hM:Fg k v.1 v.2.1 v.2.2 s):CF Y.env vS (KJ k r) s:=by
 unfold Ld at h;refine BN (c:=bn) (fun v=>Ff k v.1 v.2.1 v.2.2) (fun v s=>Fg k v.1 v.2.1 v.2.2 s) (KJ k) ?_ h hM;clear h hM s v r;intro v s o hM h;obtain⟨k1,i,BD⟩:=v;dsimp only at h hM;unfold Ff at h;unfold Fg at hM;obtain⟨⟨w0_,m0⟩,m1,m2,m3⟩:=hM;unfold bn;rcases iS h with⟨e1,h⟩|⟨e1,h⟩
 ·obtain⟨e2,h⟩:=FK h
  obtain rfl:=Option.some.inj h
  simp (maxDischargeDepth:=9) only [↓AP,AQ,↓reduceIte,Nat.reduceEqDiff,Nat.reduceLT,m0,m1,m2,m3,e1,e2.1,e2.2,Fg,GZ]<;>(repeat' apply A7)<;>first|rfl|exact⟨_,rfl⟩|exact⟨_,_,rfl⟩|simp [AL,BP]
 ·obtain rfl:=Option.some.inj h
  simp (maxDischargeDepth:=9) only [↓AP,AQ,↓reduceIte,Nat.reduceEqDiff,Nat.reduceLT,m0,m1,m2,m3,e1,Fg,KJ,KW]
theorem VV(a:List Int)(k:Int){r:Int×(List Int)}(h:PI a k=some r):Y.call 27 [D.vw [100000] 0 0,D.int .i64 k] [D.own 3 (AL (D.int .i64) a)]=some (D.int .i64 r.1,[D.own 3 (AL (D.int .i64) r.2)]):=by
 refine c27 ?_ rfl;unfold k27;unfold PI at h;obtain⟨AY,hl2,h⟩:=Ag h;try dsimp only at h
 simp (maxDischargeDepth:=9) only [↓AP,AQ,↓reduceIte,Nat.reduceEqDiff,Nat.reduceLT,Nat.reduceAdd];refine Av (U5 k hl2 ?_) ?_
 ·simp (maxDischargeDepth:=9) only [C9,DK,↓reduceIte,Nat.reduceEqDiff,Nat.reduceLT,Nat.reduceSub,Fg]<;>(repeat' apply A7)<;>first|rfl|exact⟨_,rfl⟩|exact⟨_,_,rfl⟩|simp [AL,BP]
 ·intro ex2 s2 hX2;unfold KJ at hX2;obtain⟨rfl,n2_0,n2_1⟩:=hX2
  obtain rfl:=Option.some.inj h
  simp (maxDischargeDepth:=9) only [↓AP,AQ,↓reduceIte,Nat.reduceEqDiff,Nat.reduceLT,n2_0,n2_1]
theorem Z9(a:List Int)(k:Int)(ha:a.length<1099511627776)(hk:0≤k∧k<1099511627776):PI a k=some (k+a.length,upto k a.length):=by
 have key:=EX (fun v=>Ff k v.1 v.2.1 v.2.2) (fun i=>(k+i,(i:Int),upto k i++a.drop i)) a.length (k+a.length,upto k a.length) ?_ ?_
 ·unfold PI Ld;have e0:upto k 0=[]:=rfl;simp only [GY,Int.add_zero,Ru,e0,NV]at key;rw [key];rfl
 ·intro i hi;simp only [Ff];have el:(upto k i++a.drop i).length=a.length:=by simp [Oe];omega
  rw [el,if_pos (CJ hi),BJ (Df hi),IV,vR a k i hi,Kh i (by omega),J9 _ (by omega)]
  rw [show k+(i:Int)+1=k+((i+1:Nat):Int) by omega]
 ·simp only [Ff];have el:(upto k a.length++a.drop a.length).length=a.length:=by simp [Oe]
  rw [el,if_neg (Ar _)];simp
theorem OC(a:List Int)(k:Int)(h0:a.length<1099511627776)(h1:0≤k∧k<1099511627776):Y.call 27 [D.vw [100000] 0 0,D.int .i64 k] [D.own 3 (AL (D.int .i64) a)]=some (D.int .i64 (k+a.length),[D.own 3 (AL (D.int .i64) (upto k a.length))]):=VV a k (Z9 a k h0 h1)
def IZ:Int→List (List Int)→List (List Int)
 |_,[]=>[]
 |k,x::l=>upto k x.length::IZ (k+x.length) l
noncomputable def Gq(k:Int)(k1:Int)(i:Int)(BD:List (List Int)):Option ((Int×Int×(List (List Int)))⊕(Int×(List (List Int)))):= if i<(BD.length:Int)then ck (0≤i∧i.toNat<BD.length)<| ck ((BD.getD i.toNat default).length<1099511627776)<| ck (0≤k1∧k1<1099511627776)<| some (Sum.inl ((k1+(BD.getD i.toNat default).length),IntKind.i64.wrap (i+1),(BD.set i.toNat (upto k1 (BD.getD i.toNat default).length)))) else some (Sum.inr (k1,BD))
noncomputable def Gr(k:Int)(v:Int×Int×(List (List Int))):Option (Int×(List (List Int))):=I4 (fun v=>Gq k v.1 v.2.1 v.2.2) v
noncomputable def Nk(a:List (List Int))(k:Int):Option (Int×(List (List Int))):= (Gr k (k,0,a)).bind fun AY=> some (AY.1,AY.2)
def bq:SC:= .seq (.seq (.ops [oM 6 5 3,oM 7 0 22,oN 8 7 22,oB 9 .lss 3 (tK 6) (tK 8) 3 4]) (.cond (tK 9) .skip (.exit 0))) (.seq (.block 1 (.ops [oM 12 0 22,oM 13 5 3,oI 14 22 12 13,oL 15 26 14 26,oM 16 1 3,oC 17 27 [(tK 15),(tK 16)] [26,3] 3,oA 1 17 3])) (.ops [oM 10 5 3,oB 11 .add 3 (tK 10) (iK 1) 3 3,oA 5 11 3]))
def vT:SC:= .loop bq
def k20:SC:= .seq (.ops [oX 4 (.assign (iK 0)) 3]) (.seq (.seq (.ops [oX 5 (.assign (iK 0)) 3]) (.block 0 vT)) (.seq (.ops [oM 18 1 3,oA 4 18 3]) .ret))
theorem A4X:Tryz.f20.body.map (Bf lends)=some k20:=by kernel_rfl
theorem AGd:Bz Tryz.f20 2=true:=by kernel_rfl
theorem c20{a l:List D}{r:D×List D}(h:CF Y.env k20 (ES Ae l.length [ResultVar.tmp 4] r) (entry a l))(ha:a.length=2):Y.call 20 a l=some r:=
 Ab (Y:=Y) rfl Tryz.func20 (ha▸AGd) A4X h
def Et(k:Int)(k1:Int)(i:Int)(BD:List (List Int))(s:St):Prop:=(∃w_,s.v 0=D.vw [100000] (s.k 100000) w_)∧s.v 1=D.int .i64 k1∧s.v 5=D.int .i64 i∧s.v 100000=D.own 26 (AL (fun x=>D.own 3 (AL (D.int .i64) x)) BD)
def Jh(k:Int)(r:Int×(List (List Int)))(ex:Ex)(s:St):Prop:=ex= .exit 0∧s.v 1=D.int .i64 r.1∧s.v 100000=D.own 26 (AL (fun x=>D.own 3 (AL (D.int .i64) x)) r.2)
theorem Sv(k:Int){v:Int×Int×(List (List Int))}{s:St}{r:Int×(List (List Int))}(h:Gr k v=some r)(hM:Et k v.1 v.2.1 v.2.2 s):CF Y.env vT (Jh k r) s:=by
 unfold Gr at h;refine BN (c:=bq) (fun v=>Gq k v.1 v.2.1 v.2.2) (fun v s=>Et k v.1 v.2.1 v.2.2 s) (Jh k) ?_ h hM;clear h hM s v r;intro v s o hM h;obtain⟨k1,i,BD⟩:=v;dsimp only at h hM;unfold Gq at h;unfold Et at hM;obtain⟨⟨w0_,m0⟩,m1,m2,m3⟩:=hM;unfold bq;rcases iS h with⟨e1,h⟩|⟨e1,h⟩
 ·obtain⟨e2,e3,e4,h⟩:=Oa h;have c5:=OC (BD.getD i.toNat default) k1 e3 e4
  obtain rfl:=Option.some.inj h
  simp (maxDischargeDepth:=9) only [↓AP,AQ,↓reduceIte,Nat.reduceEqDiff,Nat.reduceLT,Nat.reduceAdd,m0,m1,m2,m3,e1,e2.1,e2.2,c5,Et,GZ]<;>(repeat' apply A7)<;>first|rfl|exact⟨_,rfl⟩|exact⟨_,_,rfl⟩|simp [AL,BP]
 ·obtain rfl:=Option.some.inj h
  simp (maxDischargeDepth:=9) only [↓AP,AQ,↓reduceIte,Nat.reduceEqDiff,Nat.reduceLT,m0,m1,m2,m3,e1,Et,Jh,KW]
theorem U6(a:List (List Int))(k:Int){r:Int×(List (List Int))}(h:Nk a k=some r):Y.call 20 [D.vw [100000] 0 0,D.int .i64 k] [D.own 26 (AL (fun x=>D.own 3 (AL (D.int .i64) x)) a)]=some (D.int .i64 r.1,[D.own 26 (AL (fun x=>D.own 3 (AL (D.int .i64) x)) r.2)]):=by
 refine c20 ?_ rfl;unfold k20;unfold Nk at h;obtain⟨AY,hl2,h⟩:=Ag h;try dsimp only at h
 simp (maxDischargeDepth:=9) only [↓AP,AQ,↓reduceIte,Nat.reduceEqDiff,Nat.reduceLT,Nat.reduceAdd];refine Av (Sv k hl2 ?_) ?_
 ·simp (maxDischargeDepth:=9) only [C9,DK,↓reduceIte,Nat.reduceEqDiff,Nat.reduceLT,Nat.reduceSub,Et]<;>(repeat' apply A7)<;>first|rfl|exact⟨_,rfl⟩|exact⟨_,_,rfl⟩|simp [AL,BP]
 ·intro ex2 s2 hX2;unfold Jh at hX2;obtain⟨rfl,n2_0,n2_1⟩:=hX2
  obtain rfl:=Option.some.inj h
  simp (maxDischargeDepth:=9) only [↓AP,AQ,↓reduceIte,Nat.reduceEqDiff,Nat.reduceLT,n2_0,n2_1]
theorem Sw(kk:Int): ∀(b a:List (List Int)) (k:Int),BB b→a.length+b.length<1099511627776→0≤k→k+Bl b<1099511627776→
  Gr kk (k,(a.length:Int),a++b)=some (k+Bl b,a++IZ k b):=by
 intro b
 induction b with
 |nil=>
  intro a k hb hab hk hkt;unfold Gr;rw [EH (r:=(k,a++[]))]
  ·rw [Vx,Int.add_zero];rfl
  ·simp only [Gq];rw [if_neg (Qk _)]
 |cons x b ih=>
  intro a k hb hab hk hkt;rw [KC]at hkt;simp only [Lt]at hab;have hx:x.length<1099511627776:=hb.2 x (KV ..);have ht:=CU b;have:=ih (a++[upto k x.length]) (k+x.length) ⟨by omega,fun y hy=>hb.2 y (JY _ hy)⟩ (by simp;omega) (by omega) (by omega)
  unfold Gr at this ⊢;have eg:(a++x::b).getD (a.length:Int).toNat default=x:=by rw [IV];exact EN a (x::b) a.length rfl (by simp)
  rw [Jg (s':=(k+x.length,((a++[upto k x.length]).length:Int),(a++[upto k x.length])++b)),this]
  ·rw [KC,show k+(x.length:Int)+Bl b=k+(x.length+Bl b) by omega]
   simp [IZ]
  ·simp only [Gq];rw [if_pos (QL ..),BJ (QM ..),BJ (by rw [eg];exact hx),BJ ⟨hk,by omega⟩,eg,Kh _ (by omega),IV,jr _ _ (KS _),Nat.sub_self,kD]
   simp
theorem XX(a:List (List Int))(k:Int)(ha:BB a)(hk:0≤k∧k+Bl a<1099511627776):Nk a k=some (k+Bl a,IZ k a):=by
 unfold Nk;have:=Sw k a [] k ha (by have:=ha.1;simp;omega) hk.1 hk.2
 simp only [Pn,NV,GY]at this;rw [this];rfl
theorem Gs(a:List (List Int))(k:Int)(h0:BB a)(h1:0≤k∧k+Bl a<1099511627776):Y.call 20 [D.vw [100000] 0 0,D.int .i64 k] [D.own 26 (AL (fun x=>D.own 3 (AL (D.int .i64) x)) a)]=some (D.int .i64 (k+Bl a),[D.own 26 (AL (fun x=>D.own 3 (AL (D.int .i64) x)) (IZ k a))]):=U6 a k (XX a k h0 h1)
def Pd:Int→List Int→Int
 |k,[]=>k
 |k,x::l=>if x=k then Pd (k+1) l else-1
noncomputable def Fh(a:List Int)(k1:Int)(i:Int):Option ((Int×Int)⊕(Unit⊕Int)):= if i<(a.length:Int)then ck (0≤i∧i.toNat<a.length)<| if(a.getD i.toNat default)=k1 then some (Sum.inl (IntKind.i64.wrap (k1+1),IntKind.i64.wrap (i+1))) else some (Sum.inr (Sum.inl ())) else some (Sum.inr (Sum.inr k1))
noncomputable def GM(a:List Int)(v:Int×Int):Option (Unit⊕Int):=I4 (fun v=>Fh a v.1 v.2) v
noncomputable def PK(a:List Int)(k:Int):Option (Int):=
 (GM a (k,0)).bind fun AY=>
 match AY with
 | .inl q1000_=>
  some (-1)
 | .inr q1000_=>
  some q1000_
def bu:SC:= .seq (.seq (.ops [oM 6 5 3,oM 7 0 26,oN 8 7 26,oB 9 .lss 3 (tK 6) (tK 8) 3 4]) (.cond (tK 9) .skip (.exit 0))) (.seq (.block 1 (.seq (.seq (.ops [oM 12 0 26,oM 13 5 3,oI 14 26 12 13,oL 15 3 14 3,oM 16 1 3,oB 17 .neq 3 (tK 15) (tK 16) 3 4]) (.cond (tK 17) (.seq (.ops [oX 4 (.assign (.const (.int .i64 (-1)))) 3]) .ret) .skip)) (.ops [oM 18 1 3,oB 19 .add 3 (tK 18) (iK 1) 3 3,oA 1 19 3]))) (.ops [oM 10 5 3,oB 11 .add 3 (tK 10) (iK 1) 3 3,oA 5 11 3]))
def vU:SC:= .loop bu
def k28:SC:= .seq (.ops [oX 4 (.assign (iK 0)) 3]) (.seq (.seq (.ops [oX 5 (.assign (iK 0)) 3]) (.block 0 vU)) (.seq (.ops [oM 20 1 3,oA 4 20 3]) .ret))
theorem A4Y:Tryz.f28.body.map (Bf lends)=some k28:=by kernel_rfl
theorem AGf:Bz Tryz.f28 2=true:=by kernel_rfl
theorem c28{a l:List D}{r:D×List D}(h:CF Y.env k28 (ES Ae l.length [ResultVar.tmp 4] r) (entry a l))(ha:a.length=2):Y.call 28 a l=some r:=
 Ab (Y:=Y) rfl Tryz.func28 (ha▸AGf) A4Y h
def Eb(a:List Int)(k1:Int)(i:Int)(s:St):Prop:=s.v 0=D.sl 3 (AL (D.int .i64) a)∧s.v 1=D.int .i64 k1∧s.v 5=D.int .i64 i
def Fj(a:List Int)(r:Unit⊕Int)(ex:Ex)(s:St):Prop:=match r with
 | .inl q=>ex= .ret∧s.v 4=D.int .i64 (-1)
 | .inr q=>ex= .exit 0∧s.v 1=D.int .i64 q
theorem U7(a:List Int){v:Int×Int}{s:St}{r:Unit⊕Int}(h:GM a v=some r)(hM:Eb a v.1 v.2 s):CF Y.env vU (Fj a r) s:=by
 unfold GM at h;refine BN (c:=bu) (fun v=>Fh a v.1 v.2) (fun v s=>Eb a v.1 v.2 s) (Fj a) ?_ h hM;clear h hM s v r;intro v s o hM h;obtain⟨k1,i⟩:=v;dsimp only at h hM;unfold Fh at h;unfold Eb at hM;obtain⟨m0,m1,m2⟩:=hM;unfold bu;rcases iS h with⟨e1,h⟩|⟨e1,h⟩
 ·obtain⟨e2,h⟩:=FK h;rcases iS h with⟨e3,h⟩|⟨e3,h⟩
  ·obtain rfl:=Option.some.inj h
   simp (maxDischargeDepth:=9) only [↓AP,AQ,↓reduceIte,Nat.reduceEqDiff,Nat.reduceLT,Int.reduceNeg,m0,m1,m2,e1,e2.1,e2.2,decide_eq_true e3,Eb,GZ]
  ·obtain rfl:=Option.some.inj h
   simp (maxDischargeDepth:=9) only [↓AP,AQ,↓reduceIte,Nat.reduceEqDiff,Nat.reduceLT,Int.reduceNeg,m0,m1,m2,e1,e2.1,e2.2,e3,Eb,Fj,MP]
 ·obtain rfl:=Option.some.inj h
  simp (maxDischargeDepth:=9) only [↓AP,AQ,↓reduceIte,Nat.reduceEqDiff,Nat.reduceLT,Int.reduceNeg,m0,m1,m2,e1,Eb,Fj,KW]
theorem VW(a:List Int)(k:Int){r:Int}(h:PK a k=some r):Y.call 28 [D.sl 3 (AL (D.int .i64) a),D.int .i64 k] []=some (D.int .i64 r,[]):=by
 refine c28 ?_ rfl;unfold k28;unfold PK at h;obtain⟨AY,hl2,h⟩:=Ag h;try dsimp only at h
 simp (maxDischargeDepth:=9) only [↓AP,AQ,↓reduceIte,Nat.reduceEqDiff,Nat.reduceLT];refine Av (U7 a hl2 ?_) ?_
 ·simp (maxDischargeDepth:=9) only [C9,DK,↓reduceIte,Nat.reduceEqDiff,Nat.reduceLT,Eb]
 ·intro ex2 s2 hX2;rcases AY with q1000_|q1000_
  ·unfold Fj at hX2;dsimp only at hX2 h;obtain⟨rfl,n2_0⟩:=hX2
   obtain rfl:=Option.some.inj h
   simp (maxDischargeDepth:=9) only [↓AP,AQ,↓reduceIte,Int.reduceNeg,n2_0]
  ·unfold Fj at hX2;dsimp only at hX2 h;obtain⟨rfl,n2_0⟩:=hX2
   obtain rfl:=Option.some.inj h
   simp (maxDischargeDepth:=9) only [↓AP,AQ,↓reduceIte,Nat.reduceEqDiff,Nat.reduceLT,n2_0]
theorem U8: ∀(b a:List Int) (k:Int),a.length+b.length<1099511627776→0≤k→k+b.length<1099511627776→
  GM (a++b) (k,(a.length:Int))=some (if Pd k b= -1 then .inl ()else .inr (Pd k b)):=by
 intro b
 induction b with
 |nil=>
  intro a k hab hk hkt;unfold GM;rw [EH (r:=Sum.inr k)]
  ·unfold Pd;rw [if_neg (by omega)]
  ·simp only [Fh];rw [if_neg (Qk _)]
 |cons x b ih=>
  intro a k hab hk hkt;simp only [Lt]at hab hkt;have eg:(a++x::b).getD (a.length:Int).toNat default=x:=by rw [IV];exact EN a (x::b) a.length rfl (by simp)
  unfold Pd;by_cases hq:x=k
  ·rw [if_pos hq];have:=ih (a++[x]) (k+1) (by simp;omega) (by omega) (by omega)
   unfold GM at this ⊢;rw [Jg (s':=(k+1,((a++[x]).length:Int)))]
   ·rw [show a++x::b=a++[x]++b by simp];exact this
   ·simp only [Fh];rw [if_pos (QL ..),BJ (QM ..),eg,if_pos hq,Kh _ (by omega),J9 _ (by omega)];simp
  ·rw [if_neg hq];unfold GM;rw [EH (r:=Sum.inl ())]
   ·rfl
   ·simp only [Fh];rw [if_pos (QL ..),BJ (QM ..),eg,if_neg hq]
theorem ZA(a:List Int)(k:Int)(ha:a.length<1099511627776)(hk:0≤k∧k+a.length<1099511627776):PK a k=some (Pd k a):=by
 unfold PK;have:=U8 a [] k (by simpa using ha) hk.1 hk.2
 simp only [Pn,NV,GY]at this;rw [this,DJ];by_cases h:Pd k a= -1
 ·rw [if_pos h,h]
 ·rw [if_neg h]
theorem ZB(a:List Int)(k:Int)(h0:a.length<1099511627776)(h1:0≤k∧k+a.length<1099511627776):Y.call 28 [D.sl 3 (AL (D.int .i64) a),D.int .i64 k] []=some (D.int .i64 (Pd k a),[]):=VW a k (ZA a k h0 h1)
theorem qj(n:Nat): ∀k,Pd k (upto k n)=k+n:=by
 induction n with
 |zero=>intro k;simp [upto,Pd]
 |succ n ih=>
  intro k
  have e:upto k (n+1)=k::upto (k+1) n:=by
   simp only [upto,List.range_succ_eq_map,Tg,List.map_map]
   congr 1
   ·simp
   ·apply List.map_congr_left;intro i _;simp;omega
  rw [e,Pd,if_pos rfl,ih];omega
noncomputable def Gt(a:List (List Int))(k1:Int)(i:Int):Option ((Int×Int)⊕(Unit⊕Int)):= if i<(a.length:Int)then ck (0≤i∧i.toNat<a.length)<| ck ((a.getD i.toNat default).length<1099511627776)<| ck (0≤k1∧k1+(a.getD i.toNat default).length<1099511627776)<| if(Pd k1 (a.getD i.toNat default))<0 then some (Sum.inr (Sum.inl ())) else some (Sum.inl ((Pd k1 (a.getD i.toNat default)),IntKind.i64.wrap (i+1))) else some (Sum.inr (Sum.inr k1))
noncomputable def Gu(a:List (List Int))(v:Int×Int):Option (Unit⊕Int):=I4 (fun v=>Gt a v.1 v.2) v
noncomputable def KT(a:List (List Int))(k:Int):Option (Int):=
 (Gu a (k,0)).bind fun AY=>
 match AY with
 | .inl q1000_=>
  some (-1)
 | .inr q1000_=>
  some q1000_
def bv:SC:= .seq (.seq (.ops [oM 6 5 3,oM 7 0 22,oN 8 7 22,oB 9 .lss 3 (tK 6) (tK 8) 3 4]) (.cond (tK 9) .skip (.exit 0))) (.seq (.block 1 (.seq (.ops [oM 12 0 22,oM 13 5 3,oI 14 22 12 13,oL 15 26 14 26,oM 16 1 3,oC 17 28 [(tK 15),(tK 16)] [26,3] 3,oA 1 17 3]) (.seq (.ops [oM 18 1 3,oB 19 .lss 3 (tK 18) (iK 0) 3 4]) (.cond (tK 19) (.seq (.ops [oX 4 (.assign (.const (.int .i64 (-1)))) 3]) .ret) .skip)))) (.ops [oM 10 5 3,oB 11 .add 3 (tK 10) (iK 1) 3 3,oA 5 11 3]))
def vV:SC:= .loop bv
def k21:SC:= .seq (.ops [oX 4 (.assign (iK 0)) 3]) (.seq (.seq (.ops [oX 5 (.assign (iK 0)) 3]) (.block 0 vV)) (.seq (.ops [oM 20 1 3,oA 4 20 3]) .ret))
theorem A4Z:Tryz.f21.body.map (Bf lends)=some k21:=by kernel_rfl
theorem AGh:Bz Tryz.f21 2=true:=by kernel_rfl
theorem c21{a l:List D}{r:D×List D}(h:CF Y.env k21 (ES Ae l.length [ResultVar.tmp 4] r) (entry a l))(ha:a.length=2):Y.call 21 a l=some r:=
 Ab (Y:=Y) rfl Tryz.func21 (ha▸AGh) A4Z h
def E8(a:List (List Int))(k1:Int)(i:Int)(s:St):Prop:=s.v 0=D.sl 26 (AL (fun x=>D.sl 3 (AL (D.int .i64) x)) a)∧s.v 1=D.int .i64 k1∧s.v 5=D.int .i64 i
def Eu(a:List (List Int))(r:Unit⊕Int)(ex:Ex)(s:St):Prop:=match r with
 | .inl q=>ex= .ret∧s.v 4=D.int .i64 (-1)
 | .inr q=>ex= .exit 0∧s.v 1=D.int .i64 q
theorem Sy(a:List (List Int)){v:Int×Int}{s:St}{r:Unit⊕Int}(h:Gu a v=some r)(hM:E8 a v.1 v.2 s):CF Y.env vV (Eu a r) s:=by
 unfold Gu at h;refine BN (c:=bv) (fun v=>Gt a v.1 v.2) (fun v s=>E8 a v.1 v.2 s) (Eu a) ?_ h hM;clear h hM s v r;intro v s o hM h;obtain⟨k1,i⟩:=v;dsimp only at h hM;unfold Gt at h;unfold E8 at hM;obtain⟨m0,m1,m2⟩:=hM;unfold bv;rcases iS h with⟨e1,h⟩|⟨e1,h⟩
 ·obtain⟨e2,e3,e4,h⟩:=Oa h;have c5:=ZB (a.getD i.toNat default) k1 e3 e4;rcases iS h with⟨e6,h⟩|⟨e6,h⟩
  ·obtain rfl:=Option.some.inj h
   simp (maxDischargeDepth:=9) only [↓AP,AQ,↓reduceIte,Nat.reduceEqDiff,Nat.reduceLT,Nat.reduceAdd,Int.reduceNeg,m0,m1,m2,e1,e2.1,e2.2,c5,e6,E8,Eu,MP]
  ·obtain rfl:=Option.some.inj h
   simp (maxDischargeDepth:=9) only [↓AP,AQ,↓reduceIte,Nat.reduceEqDiff,Nat.reduceLT,Nat.reduceAdd,Int.reduceNeg,m0,m1,m2,e1,e2.1,e2.2,c5,e6,E8,GZ]
 ·obtain rfl:=Option.some.inj h
  simp (maxDischargeDepth:=9) only [↓AP,AQ,↓reduceIte,Nat.reduceEqDiff,Nat.reduceLT,Int.reduceNeg,m0,m1,m2,e1,E8,Eu,KW]
theorem Og(a:List (List Int))(k:Int){r:Int}(h:KT a k=some r):Y.call 21 [D.sl 26 (AL (fun x=>D.sl 3 (AL (D.int .i64) x)) a),D.int .i64 k] []=some (D.int .i64 r,[]):=by
 refine c21 ?_ rfl;unfold k21;unfold KT at h;obtain⟨AY,hl2,h⟩:=Ag h;try dsimp only at h
 simp (maxDischargeDepth:=9) only [↓AP,AQ,↓reduceIte,Nat.reduceEqDiff,Nat.reduceLT];refine Av (Sy a hl2 ?_) ?_
 ·simp (maxDischargeDepth:=9) only [C9,DK,↓reduceIte,Nat.reduceEqDiff,Nat.reduceLT,E8]
 ·intro ex2 s2 hX2;rcases AY with q1000_|q1000_
  ·unfold Eu at hX2;dsimp only at hX2 h;obtain⟨rfl,n2_0⟩:=hX2
   obtain rfl:=Option.some.inj h
   simp (maxDischargeDepth:=9) only [↓AP,AQ,↓reduceIte,Int.reduceNeg,n2_0]
  ·unfold Eu at hX2;dsimp only at hX2 h;obtain⟨rfl,n2_0⟩:=hX2
   obtain rfl:=Option.some.inj h
   simp (maxDischargeDepth:=9) only [↓AP,AQ,↓reduceIte,Nat.reduceEqDiff,Nat.reduceLT,n2_0]
theorem Sz: ∀(b a:List (List Int)) (k:Int),BB b→a.length+b.length<1099511627776→0≤k→k+Bl b<1099511627776→
  Gu (a++IZ k b) (k,(a.length:Int))=some (.inr (k+Bl b)):=by
 intro b
 induction b with
 |nil=>
  intro a k hb hab hk hkt;unfold Gu;rw [EH (r:=Sum.inr k)]
  ·rw [Vx,Int.add_zero]
  ·rw [show IZ k []=[]from rfl];simp only [Gt];rw [if_neg (Qk _)]
 |cons x b ih=>
  intro a k hb hab hk hkt;rw [KC]at hkt;simp only [Lt]at hab;have hx:x.length<1099511627776:=hb.2 x (KV ..);have ht:=CU b;have:=ih (a++[upto k x.length]) (k+x.length) ⟨by omega,fun y hy=>hb.2 y (JY _ hy)⟩ (by simp;omega) (by omega) (by omega)
  unfold Gu at this ⊢;have eg:(a++IZ k (x::b)).getD (a.length:Int).toNat default=upto k x.length:=by rw [IV];exact EN a (IZ k (x::b)) a.length rfl (by simp [IZ])
  rw [Jg (s':=(k+x.length,((a++[upto k x.length]).length:Int)))]
  ·rw [show a++IZ k (x::b)=a++[upto k x.length]++IZ (k+x.length) b by simp [IZ],this,KC]
   rw [show k+(x.length:Int)+Bl b=k+(x.length+Bl b) by omega]
  ·simp only [Gt];rw [IZ]at eg ⊢;rw [if_pos (QL ..),BJ (QM ..),BJ (by rw [eg,Oe];exact hx),BJ (by rw [eg,Oe];omega),eg,qj,if_neg (by omega),Kh _ (by omega)];simp
theorem XY(a:List (List Int))(k:Int)(ha:BB a)(hk:0≤k∧k+Bl a<1099511627776):KT (IZ k a) k=some (k+Bl a):=by
 unfold KT;have:=Sz a [] k ha (by have:=ha.1;simp;omega) hk.1 hk.2
 simp only [Pn,NV,GY]at this;rw [this];rfl
end Go.Proofs.YtiehjihckndgkaaGreat
