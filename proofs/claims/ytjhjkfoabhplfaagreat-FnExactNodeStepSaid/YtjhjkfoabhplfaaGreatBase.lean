/- Copies, comparisons, sizes and marks of numbers in lists, as plain functions. Conditions: the lists are short. -/
import Derived.Test.YtjhjkfoabhplfaaGreatL6
import Derived.Test.YtjhjkfoabhplfaaGreatDt
namespace Go.Proofs.YtjhjkfoabhplfaaGreat
open Go Dv
set_option linter.unusedSimpArgs false
set_option linter.unusedVariables false
set_option maxRecDepth 100000
set_option maxHeartbeats 4000000
def Ak(l:List (List Int)):Prop:=l.length<1099511627776∧ ∀x∈l,x.length<1099511627776
theorem Ak.nil:Ak []:=⟨by decide,fun _ h=>by cases h⟩
theorem Ak.at{l:List (List Int)}(h:Ak l)(i:Nat)(hi:i<l.length):l[i].length<1099511627776:=h.2 _ (FE hi)
instance (l:List (List Int)):Decidable (Ak l):=by unfold Ak;infer_instance
theorem pF{α:Type}[Inhabited α](xs:List α)(i:Nat)(h:i<xs.length)(z:α):(xs.take i++List.replicate (xs.length-i) z).set i xs[i]=xs.take (i+1)++List.replicate (xs.length-(i+1)) z:=by
 have e:xs.length-i=(xs.length-(i+1))+1:=by omega
 rw [e,kg,kX _ _ (by simp;omega),Rw h]
 have:i-(xs.take i).length=0:=by simp;omega
 rw [this,List.set_cons_zero,Ry];rfl
noncomputable def IU(a out:List Int)(i:Int):Option (((List Int)×Int)⊕((List Int))):= if i<(a.length:Int)then ck (0≤i∧i.toNat<a.length)<| ck (0≤i∧i.toNat<out.length)<| some (Sum.inl ((out.set i.toNat (a.getD i.toNat default)),IntKind.i64.wrap (i+1))) else some (Sum.inr out)
noncomputable def OT(a:List Int)(v:(List Int)×Int):Option ((List Int)):=GQ (fun v=>IU a v.1 v.2) v
noncomputable def U5(a:List Int):Option ((List Int)):= ck (0≤(a.length:Int)∧(a.length:Int)<1099511627776)<| (OT a ((List.replicate a.length 0),0)).bind fun NR=> some NR
def bi:SC:= .seq (.seq (.ops [oM 8 4 3,oM 9 0 27,oN 10 9 27,oB 11 .lss 3 (tK 8) (tK 10) 3 4]) (.cond (tK 11) .skip (.exit 0))) (.seq (.block 1 (.ops [oM 14 3 27,oM 15 4 3,oM 16 0 27,oM 17 4 3,oI 18 27 16 17,oL 19 3 18 3,oI 20 27 14 15,oS 3 20 19])) (.ops [oM 12 4 3,oB 13 .add 3 (tK 12) (iK 1) 3 3,oA 4 13 3]))
def wu:SC:= .loop bi
def k37:SC:= .seq (.ops [oX 2 (.assign (.const (.slice none 0 0))) 27]) (.seq (.ops [oM 5 0 27,oN 6 5 27,oX 7 (.makeSlice 27 (tK 6) (tK 6)) 27,oA 3 7 27]) (.seq (.seq (.ops [oX 4 (.assign (iK 0)) 3]) (.block 0 wu)) (.seq (.ops [oM 21 3 27,oA 2 21 27]) .ret)))
theorem A4e:Tryz.f37.body.map (BP lends)=some k37:=by kernel_rfl
theorem AGc:Be Tryz.f37 1=true:=by kernel_rfl
theorem c37{a l:List D}{r:D×List D}(h:BZ Y.env k37 (Eh AX l.length [ResultVar.tmp 2] r) (entry a l))(ha:a.length=1):Y.call 37 a l=some r:=
 AJ (Y:=Y) rfl Tryz.func37 (ha▸AGc) A4e h
def IV(a out:List Int)(i:Int)(s:St):Prop:=s.v 0=D.sl 3 (A8 (D.int .i64) a)∧s.v 3=D.own 3 (A8 (D.int .i64) out)∧s.v 4=D.int .i64 i
def ME(a:List Int)(r:(List Int))(ex:Ex)(s:St):Prop:=ex= .exit 0∧s.v 3=D.own 3 (A8 (D.int .i64) r)
theorem Xt(a:List Int){v:(List Int)×Int}{s:St}{r:(List Int)}(h:OT a v=some r)(hM:IV a v.1 v.2 s):BZ Y.env wu (ME a r) s:=by
 unfold OT at h;refine Ao (c:=bi) (fun v=>IU a v.1 v.2) (fun v s=>IV a v.1 v.2 s) (ME a) ?_ h hM;clear h hM s v r;intro v s o hM h;obtain⟨out,i⟩:=v;dsimp only at h hM;unfold IU at h;unfold IV at hM;obtain⟨m0,m1,m2⟩:=hM;unfold bi;by_cases e2:i<(a.length:Int)
 ·rw [if_pos e2]at h;obtain⟨e3,h⟩:=Ar h;obtain⟨e4,h⟩:=Ar h;cases h;simp only [↓AB,AC,↓reduceIte,Nat.reduceEqDiff,Nat.reduceLT,m0,m1,m2,e2,e3.1,e3.2,e4.2,IV,Ef]
 ·rw [if_neg e2]at h;cases h;simp only [↓AB,AC,↓reduceIte,Nat.reduceEqDiff,Nat.reduceLT,m0,m1,m2,e2,IV,ME,JK]
theorem ZB(a:List Int){r:(List Int)}(h:U5 a=some r):Y.call 37 [D.sl 3 (A8 (D.int .i64) a)] []=some (D.own 3 (A8 (D.int .i64) r),[]):=by
 refine c37 ?_ rfl;unfold k37;unfold U5 at h;obtain⟨e1,h⟩:=Ar h;obtain⟨NR,hl3,h⟩:=AO h;try dsimp only at h
 simp only [↓AB,AC,↓reduceIte,Nat.reduceEqDiff,Nat.reduceLT,Nat.reduceLeDiff,e1.1,e1.2];refine AY (Xt a hl3 ?_) ?_
 ·simp only [BG,Co,↓reduceIte,Nat.reduceEqDiff,Nat.reduceLT,IV]
 ·intro ex3 s3 hX3;unfold ME at hX3;obtain⟨rfl,n3_0⟩:=hX3;cases h;simp only [↓AB,AC,↓reduceIte,Nat.reduceEqDiff,Nat.reduceLT,n3_0]
theorem jd(a:List Int)(h:a.length<1099511627776):U5 a=some a:=by
 have key:=BO (fun v=>IU a v.1 v.2) (fun i=>(a.take i++List.replicate (a.length-i) 0,(i:Int))) a.length a ?_ ?_
 ·unfold U5 OT;rw [Am (by omega)]
  simp only [List.take_zero,QV,Nat.sub_zero,Js]at key;rw [key];rfl
 ·intro i hi;simp only [IU];rw [if_pos (Bi hi),Am (Ho hi),Am (Ho (by simp;omega)),LB _ _ hi,IA,pF a i hi 0,IR i (by omega)]
 ·simp only [IU];rw [if_neg (Af _)];simp
theorem je(a:List Int)(h0:a.length<1099511627776):Y.call 37 [D.sl 3 (A8 (D.int .i64) a)] []=some (D.own 3 (A8 (D.int .i64) a),[]):=ZB a (jd a h0)
noncomputable def Ga(a out:List (List Int))(i:Int):Option (((List (List Int))×Int)⊕((List (List Int)))):= if i<(a.length:Int)then ck (0≤i∧i.toNat<a.length)<| ck ((a.getD i.toNat default).length<1099511627776)<| ck (0≤i∧i.toNat<out.length)<| some (Sum.inl ((out.set i.toNat (a.getD i.toNat default)),IntKind.i64.wrap (i+1))) else some (Sum.inr out)
noncomputable def NH(a:List (List Int))(v:(List (List Int))×Int):Option ((List (List Int))):=GQ (fun v=>Ga a v.1 v.2) v
noncomputable def Rk(a:List (List Int)):Option ((List (List Int))):= ck (0≤(a.length:Int)∧(a.length:Int)<1099511627776)<| (NH a ((List.replicate a.length ([]:List Int)),0)).bind fun NR=> some NR
def bn:SC:= .seq (.seq (.ops [oM 8 4 3,oM 9 0 22,oN 10 9 22,oB 11 .lss 3 (tK 8) (tK 10) 3 4]) (.cond (tK 11) .skip (.exit 0))) (.seq (.block 1 (.ops [oM 14 3 22,oM 15 4 3,oM 16 0 22,oM 17 4 3,oI 18 22 16 17,oL 19 27 18 27,oC 20 37 [(tK 19)] [27] 27,oI 21 22 14 15,oS 27 21 20])) (.ops [oM 12 4 3,oB 13 .add 3 (tK 12) (iK 1) 3 3,oA 4 13 3]))
def ww:SC:= .loop bn
def k23:SC:= .seq (.ops [oX 2 (.assign (.const (.slice none 0 0))) 22]) (.seq (.ops [oM 5 0 22,oN 6 5 22,oX 7 (.makeSlice 22 (tK 6) (tK 6)) 22,oA 3 7 22]) (.seq (.seq (.ops [oX 4 (.assign (iK 0)) 3]) (.block 0 ww)) (.seq (.ops [oM 22 3 22,oA 2 22 22]) .ret)))
theorem A4f:Tryz.f23.body.map (BP lends)=some k23:=by kernel_rfl
theorem AGe:Be Tryz.f23 1=true:=by kernel_rfl
theorem c23{a l:List D}{r:D×List D}(h:BZ Y.env k23 (Eh AX l.length [ResultVar.tmp 2] r) (entry a l))(ha:a.length=1):Y.call 23 a l=some r:=
 AJ (Y:=Y) rfl Tryz.func23 (ha▸AGe) A4f h
def Gb(a out:List (List Int))(i:Int)(s:St):Prop:=s.v 0=D.sl 27 (A8 (fun x=>D.sl 3 (A8 (D.int .i64) x)) a)∧s.v 3=D.own 27 (A8 (fun x=>D.own 3 (A8 (D.int .i64) x)) out)∧s.v 4=D.int .i64 i
def LC(a:List (List Int))(r:(List (List Int)))(ex:Ex)(s:St):Prop:=ex= .exit 0∧s.v 3=D.own 27 (A8 (fun x=>D.own 3 (A8 (D.int .i64) x)) r)
theorem WF(a:List (List Int)){v:(List (List Int))×Int}{s:St}{r:(List (List Int))}(h:NH a v=some r)(hM:Gb a v.1 v.2 s):BZ Y.env ww (LC a r) s:=by
 unfold NH at h;refine Ao (c:=bn) (fun v=>Ga a v.1 v.2) (fun v s=>Gb a v.1 v.2 s) (LC a) ?_ h hM;clear h hM s v r;intro v s o hM h;obtain⟨out,i⟩:=v;dsimp only at h hM;unfold Ga at h;unfold Gb at hM;obtain⟨m0,m1,m2⟩:=hM;unfold bn;by_cases e2:i<(a.length:Int)
 ·rw [if_pos e2]at h;obtain⟨e3,h⟩:=Ar h;obtain⟨e4,h⟩:=Ar h;have c5:=je (a.getD i.toNat default) e4;obtain⟨e6,h⟩:=Ar h;cases h;simp only [↓AB,AC,↓reduceIte,Nat.reduceEqDiff,Nat.reduceLT,m0,m1,m2,e2,e3.1,e3.2,c5,e6.2,Gb,Ef]
 ·rw [if_neg e2]at h;cases h;simp only [↓AB,AC,↓reduceIte,Nat.reduceEqDiff,Nat.reduceLT,m0,m1,m2,e2,Gb,LC,JK]
theorem Xu(a:List (List Int)){r:(List (List Int))}(h:Rk a=some r):Y.call 23 [D.sl 27 (A8 (fun x=>D.sl 3 (A8 (D.int .i64) x)) a)] []=some (D.own 27 (A8 (fun x=>D.own 3 (A8 (D.int .i64) x)) r),[]):=by
 refine c23 ?_ rfl;unfold k23;unfold Rk at h;obtain⟨e1,h⟩:=Ar h;obtain⟨NR,hl3,h⟩:=AO h;try dsimp only at h
 simp only [↓AB,AC,↓reduceIte,Nat.reduceEqDiff,Nat.reduceLT,Nat.reduceLeDiff,e1.1,e1.2];refine AY (WF a hl3 ?_) ?_
 ·simp only [BG,Co,↓reduceIte,Nat.reduceEqDiff,Nat.reduceLT,Gb]
 ·intro ex3 s3 hX3;unfold LC at hX3;obtain⟨rfl,n3_0⟩:=hX3;cases h;simp only [↓AB,AC,↓reduceIte,Nat.reduceEqDiff,Nat.reduceLT,n3_0]
theorem bq(a:List (List Int))(h:Ak a):Rk a=some a:=by
 have h1:=h.1;have key:=BO (fun v=>Ga a v.1 v.2) (fun i=>(a.take i++List.replicate (a.length-i) [],(i:Int))) a.length a ?_ ?_
 ·unfold Rk NH;rw [Am (by omega)]
  simp only [List.take_zero,QV,Nat.sub_zero,Js]at key;rw [key];rfl
 ·intro i hi;simp only [Ga];rw [if_pos (Bi hi),Am (Ho hi),Am (by rw [LB _ _ hi];exact h.at i hi),Am (Ho (by simp;omega)),LB _ _ hi,IA,pF a i hi [],IR i (by omega)]
 ·simp only [Ga];rw [if_neg (Af _)];simp
theorem U6(a:List (List Int))(h0:Ak a):Y.call 23 [D.sl 27 (A8 (fun x=>D.sl 3 (A8 (D.int .i64) x)) a)] []=some (D.own 27 (A8 (fun x=>D.own 3 (A8 (D.int .i64) x)) a),[]):=Xu a (bq a h0)
noncomputable def IW(a b:List Int)(i:Int):Option ((Int)⊕(Unit⊕Unit)):= if i<(a.length:Int)then ck (0≤i∧i.toNat<a.length)<| ck (0≤i∧i.toNat<b.length)<| if(a.getD i.toNat default)=(b.getD i.toNat default)then some (Sum.inl (IntKind.i64.wrap (i+1))) else some (Sum.inr (Sum.inl ())) else some (Sum.inr (Sum.inr ()))
noncomputable def OU(a b:List Int)(v:Int):Option (Unit⊕Unit):=GQ (fun v=>IW a b v) v
noncomputable def U7(a b:List Int):Option (Bool):=
 if(a.length:Int)=(b.length:Int)then
  (OU a b 0).bind fun NR=>
  match NR with
  | .inl q3_=>
   some false
  | .inr q3_=>
   some true
 else
  some false
def bu:SC:= .seq (.seq (.ops [oM 11 5 3,oM 12 0 27,oN 13 12 27,oB 14 .lss 3 (tK 11) (tK 13) 3 4]) (.cond (tK 14) .skip (.exit 0))) (.seq (.block 1 (.seq (.draws [(⟨[17,0,0],[17,18,19,20,21,22,23,24,25],[17]⟩,oM 17 0 27),(⟨[18,5,5],[17,18,19,20,21,22,23,24,25],[18]⟩,oM 18 5 3),(⟨[19,17,18,0,5],[17,18,19,20,21,22,23,24,25],[19]⟩,oI 19 27 17 18),(⟨[20,19,0],[17,18,19,20,21,22,23,24,25],[20]⟩,oL 20 3 19 3),(⟨[21,1,1],[17,18,19,20,21,22,23,24,25],[21]⟩,oM 21 1 27),(⟨[22,5,5],[17,18,19,20,21,22,23,24,25],[22]⟩,oM 22 5 3),(⟨[23,21,22,1,5],[17,18,19,20,21,22,23,24,25],[23]⟩,oI 23 27 21 22),(⟨[24,23,1],[17,18,19,20,21,22,23,24,25],[24]⟩,oL 24 3 23 3),(⟨[25,20,24,0,1],[17,18,19,20,21,22,23,24,25],[25]⟩,oB 25 .neq 3 (tK 20) (tK 24) 3 4)]) (.cond (tK 25) (.seq (.ops [oX 4 (.assign (.const (.bool false))) 4]) .ret) .skip))) (.ops [oM 15 5 3,oB 16 .add 3 (tK 15) (iK 1) 3 3,oA 5 16 3]))
def wy:SC:= .loop bu
def k11:SC:= .seq (.ops [oX 4 (.assign (.const (.bool false))) 4]) (.seq (.seq (.ops [oM 6 0 27,oN 7 6 27,oM 8 1 27,oN 9 8 27,oB 10 .neq 3 (tK 7) (tK 9) 3 4]) (.cond (tK 10) (.seq (.ops [oX 4 (.assign (.const (.bool false))) 4]) .ret) .skip)) (.seq (.seq (.ops [oX 5 (.assign (iK 0)) 3]) (.block 0 wy)) (.seq (.ops [oX 4 (.assign (.const (.bool true))) 4]) .ret)))
theorem A4g:Tryz.f11.body.map (BP lends)=some k11:=by kernel_rfl
theorem AGg:Be Tryz.f11 2=true:=by kernel_rfl
theorem gP{a l:List D}{r:D×List D}(h:BZ Y.env k11 (Eh AX l.length [ResultVar.tmp 4] r) (entry a l))(ha:a.length=2):Y.call 11 a l=some r:=
 AJ (Y:=Y) rfl Tryz.func11 (ha▸AGg) A4g h
def GG(a b:List Int)(i:Int)(s:St):Prop:=s.v 0=D.sl 3 (A8 (D.int .i64) a)∧s.v 1=D.sl 3 (A8 (D.int .i64) b)∧s.v 5=D.int .i64 i
def IX(a b:List Int)(r:Unit⊕Unit)(ex:Ex)(s:St):Prop:=match r with
 | .inl q=>ex= .ret∧s.v 4=D.bool false
 | .inr q=>ex= .exit 0
theorem Xv(a b:List Int){v:Int}{s:St}{r:Unit⊕Unit}(h:OU a b v=some r)(hM:GG a b v s):BZ Y.env wy (IX a b r) s:=by
 unfold OU at h;refine Ao (c:=bu) (fun v=>IW a b v) (fun v s=>GG a b v s) (IX a b) ?_ h hM;clear h hM s v r;intro i s o hM h;unfold IW at h;unfold GG at hM;obtain⟨m0,m1,m2⟩:=hM;unfold bu;by_cases e2:i<(a.length:Int)
 ·rw [if_pos e2]at h;obtain⟨e3,h⟩:=Ar h;obtain⟨e4,h⟩:=Ar h;by_cases e5:(a.getD i.toNat default)=(b.getD i.toNat default)
  ·rw [if_pos e5]at h;cases h;simp only [↓AB,AC,↓reduceIte,Nat.reduceEqDiff,Nat.reduceLT,m0,m1,m2,e2,e3.1,e3.2,e4.2,decide_eq_true e5,GG,Ef]
  ·rw [if_neg e5]at h;cases h;simp only [↓AB,AC,↓reduceIte,Nat.reduceEqDiff,Nat.reduceLT,m0,m1,m2,e2,e3.1,e3.2,e4.2,e5,GG,IX,Sv]
 ·rw [if_neg e2]at h;cases h;simp only [↓AB,AC,↓reduceIte,Nat.reduceEqDiff,Nat.reduceLT,m0,m2,e2,GG,IX,JK]
theorem ZC(a b:List Int){r:Bool}(h:U7 a b=some r):Y.call 11 [D.sl 3 (A8 (D.int .i64) a),D.sl 3 (A8 (D.int .i64) b)] []=some (D.bool r,[]):=by
 refine gP ?_ rfl;unfold k11;unfold U7 at h;by_cases e1:(a.length:Int)=(b.length:Int)
 ·rw [if_pos e1]at h;obtain⟨NR,hl3,h⟩:=AO h;try dsimp only at h
  simp only [↓AB,AC,↓reduceIte,Nat.reduceEqDiff,Nat.reduceLT,decide_eq_true e1];refine AY (Xv a b hl3 ?_) ?_
  ·simp only [BG,Co,↓reduceIte,Nat.reduceEqDiff,Nat.reduceLT,GG]
  ·intro ex3 s3 hX3;rcases NR with q3_ | q3_
   ·unfold IX at hX3;dsimp only at hX3 h;obtain⟨rfl,n3_0⟩:=hX3;cases h;simp only [↓AB,AC,↓reduceIte,n3_0]
   ·unfold IX at hX3;dsimp only at hX3 h
    obtain rfl:=hX3
    cases h;simp only [↓AB,AC,↓reduceIte,Nat.reduceEqDiff,Nat.reduceLT]
 ·rw [if_neg e1]at h;cases h;simp only [↓AB,AC,↓reduceIte,Nat.reduceEqDiff,Nat.reduceLT,e1]
theorem jf(a b:List Int)(ha:a.length<1099511627776):U7 a b=some (decide (a=b)):=by
 unfold U7 OU;by_cases hl:a.length=b.length
 ·rw [if_pos (by omega)]
  have key:=OM (fun v=>IW a b v) (fun i=>(i:Int)) a.length (fun i=>decide (a.getD i default=b.getD i default)) (.inl ()) (.inr ()) ?_ ?_
  ·simp only [Js]at key;rw [key,Xn a b hl];by_cases he:a=b<;>simp [he]
  ·intro i hi;simp only [IW];rw [if_pos (Bi hi),Am (Ho hi),Am (Ho (by omega)),IA,IR i (by omega)]<;>simp only [decide_eq_true_eq]
  ·simp only [IW];rw [if_neg (Af _)]
 ·rw [if_neg (by omega)]
  have: ¬a=b:=fun e=>hl (by rw [e])
  simp [this]
theorem Kl(a b:List Int)(h0:a.length<1099511627776):Y.call 11 [D.sl 3 (A8 (D.int .i64) a),D.sl 3 (A8 (D.int .i64) b)] []=some (D.bool (decide (a=b)),[]):=ZC a b (jf a b h0)
noncomputable def Gc(a b:List (List Int))(i:Int):Option ((Int)⊕(Unit⊕Unit)):= if i<(a.length:Int)then ck (0≤i∧i.toNat<a.length)<| ck (0≤i∧i.toNat<b.length)<| ck ((a.getD i.toNat default).length<1099511627776)<| if(decide ((a.getD i.toNat default)=(b.getD i.toNat default)))=true then some (Sum.inl (IntKind.i64.wrap (i+1))) else some (Sum.inr (Sum.inl ())) else some (Sum.inr (Sum.inr ()))
noncomputable def NI(a b:List (List Int))(v:Int):Option (Unit⊕Unit):=GQ (fun v=>Gc a b v) v
noncomputable def Rl(a b:List (List Int)):Option (Bool):=
 if(a.length:Int)=(b.length:Int)then
  (NI a b 0).bind fun NR=>
  match NR with
  | .inl q3_=>
   some false
  | .inr q3_=>
   some true
 else
  some false
def bv:SC:= .seq (.seq (.ops [oM 11 5 3,oM 12 0 22,oN 13 12 22,oB 14 .lss 3 (tK 11) (tK 13) 3 4]) (.cond (tK 14) .skip (.exit 0))) (.seq (.block 1 (.seq (.draws [(⟨[17,0,0],[17,18,19,20,21,22,23,24,25,26],[17]⟩,oM 17 0 22),(⟨[18,5,5],[17,18,19,20,21,22,23,24,25,26],[18]⟩,oM 18 5 3),(⟨[19,17,18,0,5],[17,18,19,20,21,22,23,24,25,26],[19]⟩,oI 19 22 17 18),(⟨[20,19,0],[17,18,19,20,21,22,23,24,25,26],[20]⟩,oL 20 27 19 27),(⟨[21,1,1],[17,18,19,20,21,22,23,24,25,26],[21]⟩,oM 21 1 22),(⟨[22,5,5],[17,18,19,20,21,22,23,24,25,26],[22]⟩,oM 22 5 3),(⟨[23,21,22,1,5],[17,18,19,20,21,22,23,24,25,26],[23]⟩,oI 23 22 21 22),(⟨[24,23,1],[17,18,19,20,21,22,23,24,25,26],[24]⟩,oL 24 27 23 27),(⟨[25,20,24,0,1],[17,18,19,20,21,22,23,24,25,26],[25]⟩,oC 25 11 [(tK 20),(tK 24)] [27,27] 4),(⟨[26,25,25],[17,18,19,20,21,22,23,24,25,26],[26]⟩,oX 26 (.unOp .not 4 (tK 25)) 4)]) (.cond (tK 26) (.seq (.ops [oX 4 (.assign (.const (.bool false))) 4]) .ret) .skip))) (.ops [oM 15 5 3,oB 16 .add 3 (tK 15) (iK 1) 3 3,oA 5 16 3]))
def wz:SC:= .loop bv
def k26:SC:= .seq (.ops [oX 4 (.assign (.const (.bool false))) 4]) (.seq (.seq (.ops [oM 6 0 22,oN 7 6 22,oM 8 1 22,oN 9 8 22,oB 10 .neq 3 (tK 7) (tK 9) 3 4]) (.cond (tK 10) (.seq (.ops [oX 4 (.assign (.const (.bool false))) 4]) .ret) .skip)) (.seq (.seq (.ops [oX 5 (.assign (iK 0)) 3]) (.block 0 wz)) (.seq (.ops [oX 4 (.assign (.const (.bool true))) 4]) .ret)))
theorem A4h:Tryz.f26.body.map (BP lends)=some k26:=by kernel_rfl
theorem AGi:Be Tryz.f26 2=true:=by kernel_rfl
theorem c26{a l:List D}{r:D×List D}(h:BZ Y.env k26 (Eh AX l.length [ResultVar.tmp 4] r) (entry a l))(ha:a.length=2):Y.call 26 a l=some r:=
 AJ (Y:=Y) rfl Tryz.func26 (ha▸AGi) A4h h
def FK(a b:List (List Int))(i:Int)(s:St):Prop:=s.v 0=D.sl 27 (A8 (fun x=>D.sl 3 (A8 (D.int .i64) x)) a)∧s.v 1=D.sl 27 (A8 (fun x=>D.sl 3 (A8 (D.int .i64) x)) b)∧s.v 5=D.int .i64 i
def Gd(a b:List (List Int))(r:Unit⊕Unit)(ex:Ex)(s:St):Prop:=match r with
 | .inl q=>ex= .ret∧s.v 4=D.bool false
 | .inr q=>ex= .exit 0
theorem WG(a b:List (List Int)){v:Int}{s:St}{r:Unit⊕Unit}(h:NI a b v=some r)(hM:FK a b v s):BZ Y.env wz (Gd a b r) s:=by
 unfold NI at h;refine Ao (c:=bv) (fun v=>Gc a b v) (fun v s=>FK a b v s) (Gd a b) ?_ h hM;clear h hM s v r;intro i s o hM h;unfold Gc at h;unfold FK at hM;obtain⟨m0,m1,m2⟩:=hM;unfold bv;by_cases e2:i<(a.length:Int)
 ·rw [if_pos e2]at h;obtain⟨e3,h⟩:=Ar h;obtain⟨e4,h⟩:=Ar h;obtain⟨e5,h⟩:=Ar h;have c6:=Kl (a.getD i.toNat default) (b.getD i.toNat default) e5;by_cases e7:(decide ((a.getD i.toNat default)=(b.getD i.toNat default)))=true
  ·rw [if_pos e7]at h;cases h;simp only [↓AB,AC,↓reduceIte,Nat.reduceEqDiff,Nat.reduceLT,m0,m1,m2,e2,e3.1,e3.2,e4.2,c6,e7,FK,Ef]
  ·rw [if_neg e7]at h;have e7f:(decide ((a.getD i.toNat default)=(b.getD i.toNat default)))=false:=J2.mpr e7;cases h;simp only [↓AB,AC,↓reduceIte,Nat.reduceEqDiff,Nat.reduceLT,m0,m1,m2,e2,e3.1,e3.2,e4.2,c6,e7f,FK,Gd,Sv]
 ·rw [if_neg e2]at h;cases h;simp only [↓AB,AC,↓reduceIte,Nat.reduceEqDiff,Nat.reduceLT,m0,m2,e2,FK,Gd,JK]
theorem Xw(a b:List (List Int)){r:Bool}(h:Rl a b=some r):Y.call 26 [D.sl 27 (A8 (fun x=>D.sl 3 (A8 (D.int .i64) x)) a),D.sl 27 (A8 (fun x=>D.sl 3 (A8 (D.int .i64) x)) b)] []=some (D.bool r,[]):=by
 refine c26 ?_ rfl;unfold k26;unfold Rl at h;by_cases e1:(a.length:Int)=(b.length:Int)
 ·rw [if_pos e1]at h;obtain⟨NR,hl3,h⟩:=AO h;try dsimp only at h
  simp only [↓AB,AC,↓reduceIte,Nat.reduceEqDiff,Nat.reduceLT,decide_eq_true e1];refine AY (WG a b hl3 ?_) ?_
  ·simp only [BG,Co,↓reduceIte,Nat.reduceEqDiff,Nat.reduceLT,FK]
  ·intro ex3 s3 hX3;rcases NR with q3_ | q3_
   ·unfold Gd at hX3;dsimp only at hX3 h;obtain⟨rfl,n3_0⟩:=hX3;cases h;simp only [↓AB,AC,↓reduceIte,n3_0]
   ·unfold Gd at hX3;dsimp only at hX3 h
    obtain rfl:=hX3
    cases h;simp only [↓AB,AC,↓reduceIte,Nat.reduceEqDiff,Nat.reduceLT]
 ·rw [if_neg e1]at h;cases h;simp only [↓AB,AC,↓reduceIte,Nat.reduceEqDiff,Nat.reduceLT,e1]
theorem bz(a b:List (List Int))(ha:Ak a):Rl a b=some (decide (a=b)):=by
 have h1:=ha.1;unfold Rl NI;by_cases hl:a.length=b.length
 ·rw [if_pos (by omega)]
  have key:=OM (fun v=>Gc a b v) (fun i=>(i:Int)) a.length (fun i=>decide (a.getD i default=b.getD i default)) (.inl ()) (.inr ()) ?_ ?_
  ·simp only [Js]at key;rw [key,Xn a b hl];by_cases he:a=b<;>simp [he]
  ·intro i hi;simp only [Gc];rw [if_pos (Bi hi),Am (Ho hi),Am (Ho (by omega)),Am (by rw [LB _ _ hi];exact ha.at i hi),IA,IR i (by omega)]<;>simp only [decide_eq_true_eq]
  ·simp only [Gc];rw [if_neg (Af _)]
 ·rw [if_neg (by omega)]
  have: ¬a=b:=fun e=>hl (by rw [e])
  simp [this]
theorem U8(a b:List (List Int))(h0:Ak a):Y.call 26 [D.sl 27 (A8 (fun x=>D.sl 3 (A8 (D.int .i64) x)) a),D.sl 27 (A8 (fun x=>D.sl 3 (A8 (D.int .i64) x)) b)] []=some (D.bool (decide (a=b)),[]):=Xw a b (bz a b h0)
def Pv(left n:Int):Int:=if left-n<0 then-1 else left-n
theorem Rm(left n:Int):Pv left n= -1∨(Pv left n=left-n∧0≤left-n):=by unfold Pv;split<;>omega
def Bz(l:List (List Int)):Int:=(l.map fun xs=>(xs.length:Int)).sum
theorem U9:Bz []=0:=rfl
theorem LD(x:List Int)(l:List (List Int)):Bz (x::l)=x.length+Bz l:=rfl
theorem Ce(l:List (List Int)):0≤Bz l:=by
 induction l with
 | nil=>rw [U9];omega
 | cons x l ih=>rw [LD];omega
theorem A0R{l:List (List Int)}{x:List Int}(h:x∈l):(x.length:Int)≤Bz l:=by
 induction l with
 | nil=>cases h
 | cons y l ih=>
  rw [LD];have:=Ce l
  rcases Li.1 h with rfl | h
  ·omega
  ·have:=ih h;omega
theorem Zu{l:List (List Int)}(h:l.length+Bz l<1099511627776):Ak l:=by
 have:=Ce l
 exact⟨by omega,fun x hx=>by have:=A0R hx;omega⟩
noncomputable def UA(a:List Int)(left:Int):Option (Int):= if(IntKind.i64.wrap (left-(a.length:Int)))<0 then some (-1) else some (IntKind.i64.wrap (left-(a.length:Int)))
def k32:SC:= .seq (.ops [oX 4 (.assign (iK 0)) 3]) (.seq (.ops [oM 5 1 3,oM 6 0 27,oN 7 6 27,oB 8 .sub 3 (tK 5) (tK 7) 3 3,oA 1 8 3]) (.seq (.seq (.ops [oM 9 1 3,oB 10 .lss 3 (tK 9) (iK 0) 3 4]) (.cond (tK 10) (.seq (.ops [oX 4 (.assign (.const (.int .i64 (-1)))) 3]) .ret) .skip)) (.seq (.ops [oM 11 1 3,oA 4 11 3]) .ret)))
theorem A4i:Tryz.f32.body.map (BP lends)=some k32:=by kernel_rfl
theorem AGl:Be Tryz.f32 2=true:=by kernel_rfl
theorem x8{a l:List D}{r:D×List D}(h:BZ Y.env k32 (Eh AX l.length [ResultVar.tmp 4] r) (entry a l))(ha:a.length=2):Y.call 32 a l=some r:=
 AJ (Y:=Y) rfl Tryz.func32 (ha▸AGl) A4i h
theorem ZE(a:List Int)(left:Int){r:Int}(h:UA a left=some r):Y.call 32 [D.sl 3 (A8 (D.int .i64) a),D.int .i64 left] []=some (D.int .i64 r,[]):=by
 refine x8 ?_ rfl;unfold k32;unfold UA at h;by_cases e1:(IntKind.i64.wrap (left-(a.length:Int)))<0
 ·rw [if_pos e1]at h;cases h;simp only [↓AB,AC,↓reduceIte,Nat.reduceEqDiff,Nat.reduceLT,e1]
 ·rw [if_neg e1]at h;cases h;simp only [↓AB,AC,↓reduceIte,Nat.reduceEqDiff,Nat.reduceLT,e1]
theorem jg(a:List Int)(left:Int)(ha:a.length<9223372036854775808)(hl:0≤left∧left≤1048576):UA a left=some (Pv left a.length):=by
 unfold UA Pv;rw [Dw _ (by omega)]
 split<;>rfl
theorem jh(a:List Int)(left:Int)(h0:a.length<9223372036854775808)(h1:0≤left∧left≤1048576):Y.call 32 [D.sl 3 (A8 (D.int .i64) a),D.int .i64 left] []=some (D.int .i64 (Pv left a.length),[]):=ZE a left (jg a left h0 h1)
noncomputable def Gf(a:List (List Int))(left1 i:Int):Option ((Int×Int)⊕(Unit⊕Int)):= if i<(a.length:Int)then ck (0≤i∧i.toNat<a.length)<| ck ((a.getD i.toNat default).length<9223372036854775808)<| ck (0≤left1∧left1≤1048576)<| if(Pv left1 (a.getD i.toNat default).length)<0 then some (Sum.inr (Sum.inl ())) else some (Sum.inl ((Pv left1 (a.getD i.toNat default).length),IntKind.i64.wrap (i+1))) else some (Sum.inr (Sum.inr left1))
noncomputable def Hq(a:List (List Int))(v:Int×Int):Option (Unit⊕Int):=GQ (fun v=>Gf a v.1 v.2) v
noncomputable def PU(a:List (List Int))(left:Int):Option (Int):=
 if(IntKind.i64.wrap (left-(a.length:Int)))<0 then
  some (-1)
 else
  (Hq a (IntKind.i64.wrap (left-(a.length:Int)),0)).bind fun NR=>
  match NR with
  | .inl q3_=>
   some (-1)
  | .inr q3_=>
   some q3_
def cB:SC:= .seq (.seq (.ops [oM 12 5 3,oM 13 0 22,oN 14 13 22,oB 15 .lss 3 (tK 12) (tK 14) 3 4]) (.cond (tK 15) .skip (.exit 0))) (.seq (.block 1 (.seq (.ops [oM 18 0 22,oM 19 5 3,oI 20 22 18 19,oL 21 27 20 27,oM 22 1 3,oC 23 32 [(tK 21),(tK 22)] [27,3] 3,oA 1 23 3]) (.seq (.ops [oM 24 1 3,oB 25 .lss 3 (tK 24) (iK 0) 3 4]) (.cond (tK 25) (.seq (.ops [oX 4 (.assign (.const (.int .i64 (-1)))) 3]) .ret) .skip)))) (.ops [oM 16 5 3,oB 17 .add 3 (tK 16) (iK 1) 3 3,oA 5 17 3]))
def x9:SC:= .loop cB
def k20:SC:= .seq (.ops [oX 4 (.assign (iK 0)) 3]) (.seq (.ops [oM 6 1 3,oM 7 0 22,oN 8 7 22,oB 9 .sub 3 (tK 6) (tK 8) 3 3,oA 1 9 3]) (.seq (.seq (.ops [oM 10 1 3,oB 11 .lss 3 (tK 10) (iK 0) 3 4]) (.cond (tK 11) (.seq (.ops [oX 4 (.assign (.const (.int .i64 (-1)))) 3]) .ret) .skip)) (.seq (.seq (.ops [oX 5 (.assign (iK 0)) 3]) (.block 0 x9)) (.seq (.ops [oM 26 1 3,oA 4 26 3]) .ret))))
theorem A4j:Tryz.f20.body.map (BP lends)=some k20:=by kernel_rfl
theorem AGn:Be Tryz.f20 2=true:=by kernel_rfl
theorem c20{a l:List D}{r:D×List D}(h:BZ Y.env k20 (Eh AX l.length [ResultVar.tmp 4] r) (entry a l))(ha:a.length=2):Y.call 20 a l=some r:=
 AJ (Y:=Y) rfl Tryz.func20 (ha▸AGn) A4j h
def FM(a:List (List Int))(left1 i:Int)(s:St):Prop:=s.v 0=D.sl 27 (A8 (fun x=>D.sl 3 (A8 (D.int .i64) x)) a)∧s.v 1=D.int .i64 left1∧s.v 5=D.int .i64 i
def Gg(a:List (List Int))(r:Unit⊕Int)(ex:Ex)(s:St):Prop:=match r with
 | .inl q=>ex= .ret∧s.v 4=D.int .i64 (-1)
 | .inr q=>ex= .exit 0∧s.v 1=D.int .i64 q
theorem WH(a:List (List Int)){v:Int×Int}{s:St}{r:Unit⊕Int}(h:Hq a v=some r)(hM:FM a v.1 v.2 s):BZ Y.env x9 (Gg a r) s:=by
 unfold Hq at h;refine Ao (c:=cB) (fun v=>Gf a v.1 v.2) (fun v s=>FM a v.1 v.2 s) (Gg a) ?_ h hM;clear h hM s v r;intro v s o hM h;obtain⟨left1,i⟩:=v;dsimp only at h hM;unfold Gf at h;unfold FM at hM;obtain⟨m0,m1,m2⟩:=hM;unfold cB;by_cases e2:i<(a.length:Int)
 ·rw [if_pos e2]at h;obtain⟨e3,h⟩:=Ar h;obtain⟨e4,h⟩:=Ar h;obtain⟨e5,h⟩:=Ar h;have c6:=jh (a.getD i.toNat default) left1 e4 e5;by_cases e7:(Pv left1 (a.getD i.toNat default).length)<0
  ·rw [if_pos e7]at h;cases h;simp only [↓AB,AC,↓reduceIte,Nat.reduceEqDiff,Nat.reduceLT,m0,m1,m2,e2,e3.1,e3.2,c6,e7,FM,Gg,Sv]
  ·rw [if_neg e7]at h;cases h;simp only [↓AB,AC,↓reduceIte,Nat.reduceEqDiff,Nat.reduceLT,m0,m1,m2,e2,e3.1,e3.2,c6,e7,FM,Ef]
 ·rw [if_neg e2]at h;cases h;simp only [↓AB,AC,↓reduceIte,Nat.reduceEqDiff,Nat.reduceLT,m0,m1,m2,e2,FM,Gg,JK]
theorem Xx(a:List (List Int))(left:Int){r:Int}(h:PU a left=some r):Y.call 20 [D.sl 27 (A8 (fun x=>D.sl 3 (A8 (D.int .i64) x)) a),D.int .i64 left] []=some (D.int .i64 r,[]):=by
 refine c20 ?_ rfl;unfold k20;unfold PU at h;by_cases e1:(IntKind.i64.wrap (left-(a.length:Int)))<0
 ·rw [if_pos e1]at h;cases h;simp only [↓AB,AC,↓reduceIte,Nat.reduceEqDiff,Nat.reduceLT,e1]
 ·rw [if_neg e1]at h;obtain⟨NR,hl3,h⟩:=AO h;try dsimp only at h
  simp only [↓AB,AC,↓reduceIte,Nat.reduceEqDiff,Nat.reduceLT,e1];refine AY (WH a hl3 ?_) ?_
  ·simp only [BG,Co,↓reduceIte,Nat.reduceEqDiff,Nat.reduceLT,FM]
  ·intro ex3 s3 hX3;rcases NR with q3_ | q3_
   ·unfold Gg at hX3;dsimp only at hX3 h;obtain⟨rfl,n3_0⟩:=hX3;cases h;simp only [↓AB,AC,↓reduceIte,n3_0]
   ·unfold Gg at hX3;dsimp only at hX3 h;obtain⟨rfl,n3_0⟩:=hX3;cases h;simp only [↓AB,AC,↓reduceIte,Nat.reduceEqDiff,Nat.reduceLT,n3_0]
def szL:Int→List (List Int)→Int
 | left,[]=>left
 | left,x::l=>if left-x.length<0 then-1 else szL (left-x.length) l
theorem A4k(l:List (List Int)): ∀(left:Int),0≤left→szL left l=Pv left (Bz l):=by
 induction l with
 | nil=>intro left h;unfold szL Pv;rw [U9,if_neg (by omega)];omega
 | cons x l ih=>
  intro left h;have:=Ce l
  unfold szL;by_cases hq:left-x.length<0
  ·rw [if_pos hq];unfold Pv;rw [LD,if_pos (by omega)]
  ·rw [if_neg hq,ih _ (by omega)]
   unfold Pv;rw [LD];by_cases hr:left-x.length-Bz l<0
   ·rw [if_pos hr,if_pos (by omega)]
   ·rw [if_neg hr,if_neg (by omega)];omega
theorem WI(a:List (List Int))(ha:a.length<4611686018427387904)(hx: ∀x∈a,x.length<9223372036854775808): ∀(n i:Nat) (left:Int),n=a.length-i→i≤a.length→0≤left∧left≤1048576→
  Hq a (left,(i:Int))=some (if szL left (a.drop i)= -1 then .inl ()else .inr (szL left (a.drop i))):=by
 intro n
 induction n with
 | zero=>
  intro i left hn hi hl;have e:i=a.length:=by omega
  subst e;unfold Hq;rw [FR (r:=Sum.inr left)]
  ·rw [List.drop_length];unfold szL;rw [if_neg (by omega)]
  ·simp only [Gf];rw [if_neg (Af _)]
 | succ n ih=>
  intro i left hn hi hl;have hlt:i<a.length:=by omega
  have hm:a[i]∈a:=FE hlt;have hxm:=hx _ hm
  have step:Gf a left i=if Pv left a[i].length<0 then some (Sum.inr (Sum.inl ()))else some (Sum.inl (Pv left a[i].length,((i+1:Nat):Int))):=by
   unfold Gf;rw [if_pos (Bi hlt),Am (Ho hlt),Am (by rw [LB _ _ hlt];exact hxm),Am hl,LB _ _ hlt,IR i (by omega)]
  rw [aS hlt];unfold szL;by_cases hq:left-(a[i].length:Int)<0
  ·rw [if_pos hq];unfold Hq;rw [FR (r:=Sum.inl ())]
   ·rfl
   ·rw [step];unfold Pv;rw [if_pos hq];rfl
  ·rw [if_neg hq];have e2:Pv left a[i].length=left-a[i].length:=by unfold Pv;rw [if_neg hq]
   have:=ih (i+1) (left-a[i].length) (by omega) (by omega) (by omega)
   unfold Hq at this ⊢;rw [MC (s':=(left-(a[i].length:Int),((i+1:Nat):Int))),this]
   ·rw [step,e2,if_neg hq]
theorem ZF(a:List (List Int))(left:Int)(ha:a.length<9223372036854775808)(hx: ∀x∈a,x.length<9223372036854775808)(hl:0≤left∧left≤1048576):PU a left=some (Pv left (a.length+Bz a)):=by
 have ht:=Ce a;unfold PU;rw [Dw _ (by omega)]
 by_cases hq:left-(a.length:Int)<0
 ·rw [if_pos hq];unfold Pv;rw [if_pos (by omega)]
 ·rw [if_neg hq];have h0:=WI a (by omega) hx a.length 0 (left-a.length) (by omega) (by omega) (by omega)
  simp only [Js,Sk]at h0;rw [h0,CO,A4k _ _ (by omega)]
  have e:Pv (left-a.length) (Bz a)=Pv left (a.length+Bz a):=by unfold Pv;rw [show left- ↑a.length-Bz a=left-(↑a.length+Bz a) by omega]
  rw [e];by_cases h1:Pv left (a.length+Bz a)= -1
  ·rw [if_pos h1,h1]
  ·rw [if_neg h1]
theorem T9{α:Type}(a b:List α)(x:α):(a.length:Int)<((a++x::b).length:Int):=by rw [Jq,Ik];omega
theorem TA{α:Type}(a b:List α)(x:α):0≤(a.length:Int)∧(a.length:Int).toNat<(a++x::b).length:=by rw [Jq,Ik];omega
theorem UB{α:Type}(a:List α): ¬(a.length:Int)<((a++[]).length:Int):=by rw [Oj];omega
def TB(l:List (List Int)):Prop:=l.length<9223372036854775808∧ ∀x∈l,x.length<9223372036854775808
instance (l:List (List Int)):Decidable (TB l):=by unfold TB;infer_instance
theorem cK(a:List (List Int))(left:Int)(hw:TB a)(hl:0≤left∧left≤1048576):PU a left=some (Pv left (a.length+Bz a)):=ZF a left hw.1 hw.2 hl
theorem UC(a:List (List Int))(left:Int)(h0:TB a)(h1:0≤left∧left≤1048576):Y.call 20 [D.sl 27 (A8 (fun x=>D.sl 3 (A8 (D.int .i64) x)) a),D.int .i64 left] []=some (D.int .i64 (Pv left (a.length+Bz a)),[]):=Xx a left (cK a left h0 h1)
def upto(k:Int)(n:Nat):List Int:=(List.range n).map fun(i:Nat)=>k+i
theorem Ma(k:Int)(n:Nat):(upto k n).length=n:=by simp [upto]
theorem xA(xs:List Int)(k:Int)(i:Nat)(h:i<xs.length):(upto k i++xs.drop i).set i (k+i)=upto k (i+1)++xs.drop (i+1):=by
 rw [kX _ _ (by simp [Ma]),Ma,Vw,aS h,List.set_cons_zero]
 simp [upto,Yo]
noncomputable def FX(k k1 i:Int)(Ag:List Int):Option ((Int×Int×(List Int))⊕(Int×(List Int))):= if i<(Ag.length:Int)then ck (0≤i∧i.toNat<Ag.length)<| some (Sum.inl (IntKind.i64.wrap (k1+1),IntKind.i64.wrap (i+1),(Ag.set i.toNat k1))) else some (Sum.inr (k1,Ag))
noncomputable def MF(k:Int)(v:Int×Int×(List Int)):Option (Int×(List Int)):=GQ (fun v=>FX k v.1 v.2.1 v.2.2) v
noncomputable def QA(a:List Int)(k:Int):Option (Int×(List Int)):= (MF k (k,0,a)).bind fun JL=> some (JL.1,JL.2)
def cO:SC:= .seq (.seq (.ops [oM 6 5 3,oM 7 0 27,oN 8 7 27,oB 9 .lss 3 (tK 6) (tK 8) 3 4]) (.cond (tK 9) .skip (.exit 0))) (.seq (.block 1 (.seq (.ops [oM 12 0 27,oM 13 5 3,oM 14 1 3,oI 15 27 12 13,oS 3 15 14]) (.ops [oM 16 1 3,oB 17 .add 3 (tK 16) (iK 1) 3 3,oA 1 17 3]))) (.ops [oM 10 5 3,oB 11 .add 3 (tK 10) (iK 1) 3 3,oA 5 11 3]))
def xB:SC:= .loop cO
def k13:SC:= .seq (.ops [oX 4 (.assign (iK 0)) 3]) (.seq (.seq (.ops [oX 5 (.assign (iK 0)) 3]) (.block 0 xB)) (.seq (.ops [oM 18 1 3,oA 4 18 3]) .ret))
theorem A4l:Tryz.f13.body.map (BP lends)=some k13:=by kernel_rfl
theorem AGq:Be Tryz.f13 2=true:=by kernel_rfl
theorem c13{a l:List D}{r:D×List D}(h:BZ Y.env k13 (Eh AX l.length [ResultVar.tmp 4] r) (entry a l))(ha:a.length=2):Y.call 13 a l=some r:=
 AJ (Y:=Y) rfl Tryz.func13 (ha▸AGq) A4l h
def FY(k k1 i:Int)(Ag:List Int)(s:St):Prop:=(∃w_,s.v 0=D.vw [100000] (s.k 100000) w_)∧s.v 1=D.int .i64 k1∧s.v 5=D.int .i64 i∧s.v 100000=D.own 3 (A8 (D.int .i64) Ag)
def KR(k:Int)(r:Int×(List Int))(ex:Ex)(s:St):Prop:=ex= .exit 0∧s.v 1=D.int .i64 r.1∧s.v 100000=D.own 3 (A8 (D.int .i64) r.2)
theorem Uz(k:Int){v:Int×Int×(List Int)}{s:St}{r:Int×(List Int)}(h:MF k v=some r)(hM:FY k v.1 v.2.1 v.2.2 s):BZ Y.env xB (KR k r) s:=by
 unfold MF at h;refine Ao (c:=cO) (fun v=>FX k v.1 v.2.1 v.2.2) (fun v s=>FY k v.1 v.2.1 v.2.2 s) (KR k) ?_ h hM;clear h hM s v r;intro v s o hM h;obtain⟨k1,i,Ag⟩:=v;dsimp only at h hM;unfold FX at h;unfold FY at hM;obtain⟨⟨w0_,m0⟩,m1,m2,m3⟩:=hM;unfold cO;by_cases e1:i<(Ag.length:Int)
 ·rw [if_pos e1]at h;obtain⟨e2,h⟩:=Ar h;cases h;simp only [↓AB,AC,↓reduceIte,Nat.reduceEqDiff,Nat.reduceLT,m0,m1,m2,m3,e1,e2.1,e2.2,FY,Ef]<;>(repeat' apply A7)<;>first | rfl | exact⟨_,rfl⟩ | exact⟨_,_,rfl⟩ | simp [A8,AR]
 ·rw [if_neg e1]at h;cases h;simp only [↓AB,AC,↓reduceIte,Nat.reduceEqDiff,Nat.reduceLT,m0,m1,m2,m3,e1,FY,KR,JK]
theorem WJ(a:List Int)(k:Int){r:Int×(List Int)}(h:QA a k=some r):Y.call 13 [D.vw [100000] 0 0,D.int .i64 k] [D.own 3 (A8 (D.int .i64) a)]=some (D.int .i64 r.1,[D.own 3 (A8 (D.int .i64) r.2)]):=by
 refine c13 ?_ rfl;unfold k13;unfold QA at h;obtain⟨JL,hl2,h⟩:=AO h;try dsimp only at h
 simp only [↓AB,AC,↓reduceIte,Nat.reduceEqDiff,Nat.reduceLT,Nat.reduceAdd];refine AY (Uz k hl2 ?_) ?_
 ·simp only [BG,Co,↓reduceIte,Nat.reduceEqDiff,Nat.reduceLT,Nat.reduceSub,FY]<;>(repeat' apply A7)<;>first | rfl | exact⟨_,rfl⟩ | exact⟨_,_,rfl⟩ | simp [A8,AR]
 ·intro ex2 s2 hX2;unfold KR at hX2;obtain⟨rfl,n2_0,n2_1⟩:=hX2;cases h;simp only [↓AB,AC,↓reduceIte,Nat.reduceEqDiff,Nat.reduceLT,n2_0,n2_1]
theorem ZG(a:List Int)(k:Int)(ha:a.length<1099511627776)(hk:0≤k∧k<1099511627776):QA a k=some (k+a.length,upto k a.length):=by
 have key:=BO (fun v=>FX k v.1 v.2.1 v.2.2) (fun i=>(k+i,(i:Int),upto k i++a.drop i)) a.length (k+a.length,upto k a.length) ?_ ?_
 ·unfold QA MF;have e0:upto k 0=[]:=rfl;simp only [Js,Int.add_zero,Sk,e0,QV]at key;rw [key];rfl
 ·intro i hi;simp only [FX];have el:(upto k i++a.drop i).length=a.length:=by simp [Ma];omega
  rw [el,if_pos (Bi hi),Am (Ho hi),IA,xA a k i hi,IR i (by omega),Dw _ (by omega)]
  rw [show k+(i:Int)+1=k+((i+1:Nat):Int) by omega]
 ·simp only [FX];have el:(upto k a.length++a.drop a.length).length=a.length:=by simp [Ma]
  rw [el,if_neg (Af _)];simp
theorem Oq(a:List Int)(k:Int)(h0:a.length<1099511627776)(h1:0≤k∧k<1099511627776):Y.call 13 [D.vw [100000] 0 0,D.int .i64 k] [D.own 3 (A8 (D.int .i64) a)]=some (D.int .i64 (k+a.length),[D.own 3 (A8 (D.int .i64) (upto k a.length))]):=WJ a k (ZG a k h0 h1)
def Fy:Int→List (List Int)→List (List Int)
 | _,[]=>[]
 | k,x::l=>upto k x.length::Fy (k+x.length) l
noncomputable def Gh(k k1 i:Int)(Ag:List (List Int)):Option ((Int×Int×(List (List Int)))⊕(Int×(List (List Int)))):= if i<(Ag.length:Int)then ck (0≤i∧i.toNat<Ag.length)<| ck ((Ag.getD i.toNat default).length<1099511627776)<| ck (0≤k1∧k1<1099511627776)<| some (Sum.inl ((k1+(Ag.getD i.toNat default).length),IntKind.i64.wrap (i+1),(Ag.set i.toNat (upto k1 (Ag.getD i.toNat default).length)))) else some (Sum.inr (k1,Ag))
noncomputable def Gj(k:Int)(v:Int×Int×(List (List Int))):Option (Int×(List (List Int))):=GQ (fun v=>Gh k v.1 v.2.1 v.2.2) v
noncomputable def OV(a:List (List Int))(k:Int):Option (Int×(List (List Int))):= (Gj k (k,0,a)).bind fun JL=> some (JL.1,JL.2)
def cZ:SC:= .seq (.seq (.ops [oM 6 5 3,oM 7 0 22,oN 8 7 22,oB 9 .lss 3 (tK 6) (tK 8) 3 4]) (.cond (tK 9) .skip (.exit 0))) (.seq (.block 1 (.ops [oM 12 0 22,oM 13 5 3,oI 14 22 12 13,oL 15 27 14 27,oM 16 1 3,oC 17 13 [(tK 15),(tK 16)] [27,3] 3,oA 1 17 3])) (.ops [oM 10 5 3,oB 11 .add 3 (tK 10) (iK 1) 3 3,oA 5 11 3]))
def xC:SC:= .loop cZ
def k27:SC:= .seq (.ops [oX 4 (.assign (iK 0)) 3]) (.seq (.seq (.ops [oX 5 (.assign (iK 0)) 3]) (.block 0 xC)) (.seq (.ops [oM 18 1 3,oA 4 18 3]) .ret))
theorem A4m:Tryz.f27.body.map (BP lends)=some k27:=by kernel_rfl
theorem AGs:Be Tryz.f27 2=true:=by kernel_rfl
theorem c27{a l:List D}{r:D×List D}(h:BZ Y.env k27 (Eh AX l.length [ResultVar.tmp 4] r) (entry a l))(ha:a.length=2):Y.call 27 a l=some r:=
 AJ (Y:=Y) rfl Tryz.func27 (ha▸AGs) A4m h
def Eo(k k1 i:Int)(Ag:List (List Int))(s:St):Prop:=(∃w_,s.v 0=D.vw [100000] (s.k 100000) w_)∧s.v 1=D.int .i64 k1∧s.v 5=D.int .i64 i∧s.v 100000=D.own 27 (A8 (fun x=>D.own 3 (A8 (D.int .i64) x)) Ag)
def JW(k:Int)(r:Int×(List (List Int)))(ex:Ex)(s:St):Prop:=ex= .exit 0∧s.v 1=D.int .i64 r.1∧s.v 100000=D.own 27 (A8 (fun x=>D.own 3 (A8 (D.int .i64) x)) r.2)
theorem UD(k:Int){v:Int×Int×(List (List Int))}{s:St}{r:Int×(List (List Int))}(h:Gj k v=some r)(hM:Eo k v.1 v.2.1 v.2.2 s):BZ Y.env xC (JW k r) s:=by
 unfold Gj at h;refine Ao (c:=cZ) (fun v=>Gh k v.1 v.2.1 v.2.2) (fun v s=>Eo k v.1 v.2.1 v.2.2 s) (JW k) ?_ h hM;clear h hM s v r;intro v s o hM h;obtain⟨k1,i,Ag⟩:=v;dsimp only at h hM;unfold Gh at h;unfold Eo at hM;obtain⟨⟨w0_,m0⟩,m1,m2,m3⟩:=hM;unfold cZ;by_cases e1:i<(Ag.length:Int)
 ·rw [if_pos e1]at h;obtain⟨e2,h⟩:=Ar h;obtain⟨e3,h⟩:=Ar h;obtain⟨e4,h⟩:=Ar h;have c5:=Oq (Ag.getD i.toNat default) k1 e3 e4;cases h;simp only [↓AB,AC,↓reduceIte,Nat.reduceEqDiff,Nat.reduceLT,m0,m1,m2,m3,e1,e2.1,e2.2,c5,Eo,Ef]<;>(repeat' apply A7)<;>first | rfl | exact⟨_,rfl⟩ | exact⟨_,_,rfl⟩ | simp [A8,AR]
 ·rw [if_neg e1]at h;cases h;simp only [↓AB,AC,↓reduceIte,Nat.reduceEqDiff,Nat.reduceLT,m0,m1,m2,m3,e1,Eo,JW,JK]
theorem V3(a:List (List Int))(k:Int){r:Int×(List (List Int))}(h:OV a k=some r):Y.call 27 [D.vw [100000] 0 0,D.int .i64 k] [D.own 27 (A8 (fun x=>D.own 3 (A8 (D.int .i64) x)) a)]=some (D.int .i64 r.1,[D.own 27 (A8 (fun x=>D.own 3 (A8 (D.int .i64) x)) r.2)]):=by
 refine c27 ?_ rfl;unfold k27;unfold OV at h;obtain⟨JL,hl2,h⟩:=AO h;try dsimp only at h
 simp only [↓AB,AC,↓reduceIte,Nat.reduceEqDiff,Nat.reduceLT,Nat.reduceAdd];refine AY (UD k hl2 ?_) ?_
 ·simp only [BG,Co,↓reduceIte,Nat.reduceEqDiff,Nat.reduceLT,Nat.reduceSub,Eo]<;>(repeat' apply A7)<;>first | rfl | exact⟨_,rfl⟩ | exact⟨_,_,rfl⟩ | simp [A8,AR]
 ·intro ex2 s2 hX2;unfold JW at hX2;obtain⟨rfl,n2_0,n2_1⟩:=hX2;cases h;simp only [↓AB,AC,↓reduceIte,Nat.reduceEqDiff,Nat.reduceLT,n2_0,n2_1]
theorem UE(kk:Int): ∀(b a:List (List Int)) (k:Int),Ak b→a.length+b.length<1099511627776→0≤k→k+Bz b<1099511627776→
  Gj kk (k,(a.length:Int),a++b)=some (k+Bz b,a++Fy k b):=by
 intro b
 induction b with
 | nil=>
  intro a k hb hab hk hkt;unfold Gj;rw [FR (r:=(k,a++[]))]
  ·rw [U9,Int.add_zero];rfl
  ·simp only [Gh];rw [if_neg (UB _)]
 | cons x b ih=>
  intro a k hb hab hk hkt;rw [LD]at hkt;simp only [Ik]at hab;have hx:x.length<1099511627776:=hb.2 x (Iu ..);have ht:=Ce b;have:=ih (a++[upto k x.length]) (k+x.length) ⟨by omega,fun y hy=>hb.2 y (Jp _ hy)⟩ (by simp;omega) (by omega) (by omega)
  unfold Gj at this ⊢;have eg:(a++x::b).getD (a.length:Int).toNat default=x:=by rw [IA];exact DX a (x::b) a.length rfl (by simp)
  rw [MC (s':=(k+x.length,((a++[upto k x.length]).length:Int),(a++[upto k x.length])++b)),this]
  ·rw [LD,show k+(x.length:Int)+Bz b=k+(x.length+Bz b) by omega]
   simp [Fy]
  ·simp only [Gh];rw [if_pos (T9 ..),Am (TA ..),Am (by rw [eg];exact hx),Am ⟨hk,by omega⟩,eg,IR _ (by omega),IA,kX _ _ (IB _),Vw,List.set_cons_zero]
   simp
theorem Xy(a:List (List Int))(k:Int)(ha:Ak a)(hk:0≤k∧k+Bz a<1099511627776):OV a k=some (k+Bz a,Fy k a):=by
 unfold OV;have:=UE k a [] k ha (by have:=ha.1;simp;omega) hk.1 hk.2
 simp only [Qe,QV,Js]at this;rw [this];rfl
theorem R8(a:List (List Int))(k:Int)(h0:Ak a)(h1:0≤k∧k+Bz a<1099511627776):Y.call 27 [D.vw [100000] 0 0,D.int .i64 k] [D.own 27 (A8 (fun x=>D.own 3 (A8 (D.int .i64) x)) a)]=some (D.int .i64 (k+Bz a),[D.own 27 (A8 (fun x=>D.own 3 (A8 (D.int .i64) x)) (Fy k a))]):=V3 a k (Xy a k h0 h1)
def MX:Int→List Int→Int
 | k,[]=>k
 | k,x::l=>if x=k then MX (k+1) l else-1
noncomputable def FZ(a:List Int)(k1 i:Int):Option ((Int×Int)⊕(Unit⊕Int)):= if i<(a.length:Int)then ck (0≤i∧i.toNat<a.length)<| if(a.getD i.toNat default)=k1 then some (Sum.inl (IntKind.i64.wrap (k1+1),IntKind.i64.wrap (i+1))) else some (Sum.inr (Sum.inl ())) else some (Sum.inr (Sum.inr k1))
noncomputable def GH(a:List Int)(v:Int×Int):Option (Unit⊕Int):=GQ (fun v=>FZ a v.1 v.2) v
noncomputable def QB(a:List Int)(k:Int):Option (Int):=
 (GH a (k,0)).bind fun JL=>
 match JL with
 | .inl q2_=>
  some (-1)
 | .inr q2_=>
  some q2_
def cu:SC:= .seq (.seq (.ops [oM 6 5 3,oM 7 0 27,oN 8 7 27,oB 9 .lss 3 (tK 6) (tK 8) 3 4]) (.cond (tK 9) .skip (.exit 0))) (.seq (.block 1 (.seq (.seq (.ops [oM 12 0 27,oM 13 5 3,oI 14 27 12 13,oL 15 3 14 3,oM 16 1 3,oB 17 .neq 3 (tK 15) (tK 16) 3 4]) (.cond (tK 17) (.seq (.ops [oX 4 (.assign (.const (.int .i64 (-1)))) 3]) .ret) .skip)) (.ops [oM 18 1 3,oB 19 .add 3 (tK 18) (iK 1) 3 3,oA 1 19 3]))) (.ops [oM 10 5 3,oB 11 .add 3 (tK 10) (iK 1) 3 3,oA 5 11 3]))
def xD:SC:= .loop cu
def k15:SC:= .seq (.ops [oX 4 (.assign (iK 0)) 3]) (.seq (.seq (.ops [oX 5 (.assign (iK 0)) 3]) (.block 0 xD)) (.seq (.ops [oM 20 1 3,oA 4 20 3]) .ret))
theorem A4n:Tryz.f15.body.map (BP lends)=some k15:=by kernel_rfl
theorem AGv:Be Tryz.f15 2=true:=by kernel_rfl
theorem c15{a l:List D}{r:D×List D}(h:BZ Y.env k15 (Eh AX l.length [ResultVar.tmp 4] r) (entry a l))(ha:a.length=2):Y.call 15 a l=some r:=
 AJ (Y:=Y) rfl Tryz.func15 (ha▸AGv) A4n h
def EX(a:List Int)(k1 i:Int)(s:St):Prop:=s.v 0=D.sl 3 (A8 (D.int .i64) a)∧s.v 1=D.int .i64 k1∧s.v 5=D.int .i64 i
def Fa(a:List Int)(r:Unit⊕Int)(ex:Ex)(s:St):Prop:=match r with
 | .inl q=>ex= .ret∧s.v 4=D.int .i64 (-1)
 | .inr q=>ex= .exit 0∧s.v 1=D.int .i64 q
theorem V4(a:List Int){v:Int×Int}{s:St}{r:Unit⊕Int}(h:GH a v=some r)(hM:EX a v.1 v.2 s):BZ Y.env xD (Fa a r) s:=by
 unfold GH at h;refine Ao (c:=cu) (fun v=>FZ a v.1 v.2) (fun v s=>EX a v.1 v.2 s) (Fa a) ?_ h hM;clear h hM s v r;intro v s o hM h;obtain⟨k1,i⟩:=v;dsimp only at h hM;unfold FZ at h;unfold EX at hM;obtain⟨m0,m1,m2⟩:=hM;unfold cu;by_cases e1:i<(a.length:Int)
 ·rw [if_pos e1]at h;obtain⟨e2,h⟩:=Ar h;by_cases e3:(a.getD i.toNat default)=k1
  ·rw [if_pos e3]at h;cases h;simp only [↓AB,AC,↓reduceIte,Nat.reduceEqDiff,Nat.reduceLT,m0,m1,m2,e1,e2.1,e2.2,decide_eq_true e3,EX,Ef]
  ·rw [if_neg e3]at h;cases h;simp only [↓AB,AC,↓reduceIte,Nat.reduceEqDiff,Nat.reduceLT,m0,m1,m2,e1,e2.1,e2.2,e3,EX,Fa,Sv]
 ·rw [if_neg e1]at h;cases h;simp only [↓AB,AC,↓reduceIte,Nat.reduceEqDiff,Nat.reduceLT,m0,m1,m2,e1,EX,Fa,JK]
theorem WK(a:List Int)(k:Int){r:Int}(h:QB a k=some r):Y.call 15 [D.sl 3 (A8 (D.int .i64) a),D.int .i64 k] []=some (D.int .i64 r,[]):=by
 refine c15 ?_ rfl;unfold k15;unfold QB at h;obtain⟨JL,hl2,h⟩:=AO h;try dsimp only at h
 simp only [↓AB,AC,↓reduceIte,Nat.reduceEqDiff,Nat.reduceLT];refine AY (V4 a hl2 ?_) ?_
 ·simp only [BG,Co,↓reduceIte,Nat.reduceEqDiff,Nat.reduceLT,EX]
 ·intro ex2 s2 hX2;rcases JL with q2_ | q2_
  ·unfold Fa at hX2;dsimp only at hX2 h;obtain⟨rfl,n2_0⟩:=hX2;cases h;simp only [↓AB,AC,↓reduceIte,n2_0]
  ·unfold Fa at hX2;dsimp only at hX2 h;obtain⟨rfl,n2_0⟩:=hX2;cases h;simp only [↓AB,AC,↓reduceIte,Nat.reduceEqDiff,Nat.reduceLT,n2_0]
theorem V5: ∀(b a:List Int) (k:Int),a.length+b.length<1099511627776→0≤k→k+b.length<1099511627776→
  GH (a++b) (k,(a.length:Int))=some (if MX k b= -1 then .inl ()else .inr (MX k b)):=by
 intro b
 induction b with
 | nil=>
  intro a k hab hk hkt;unfold GH;rw [FR (r:=Sum.inr k)]
  ·unfold MX;rw [if_neg (by omega)]
  ·simp only [FZ];rw [if_neg (UB _)]
 | cons x b ih=>
  intro a k hab hk hkt;simp only [Ik]at hab hkt;have eg:(a++x::b).getD (a.length:Int).toNat default=x:=by rw [IA];exact DX a (x::b) a.length rfl (by simp)
  unfold MX;by_cases hq:x=k
  ·rw [if_pos hq];have:=ih (a++[x]) (k+1) (by simp;omega) (by omega) (by omega)
   unfold GH at this ⊢;rw [MC (s':=(k+1,((a++[x]).length:Int)))]
   ·rw [show a++x::b=a++[x]++b by simp];exact this
   ·simp only [FZ];rw [if_pos (T9 ..),Am (TA ..),eg,if_pos hq,IR _ (by omega),Dw _ (by omega)];simp
  ·rw [if_neg hq];unfold GH;rw [FR (r:=Sum.inl ())]
   ·rfl
   ·simp only [FZ];rw [if_pos (T9 ..),Am (TA ..),eg,if_neg hq]
theorem ZH(a:List Int)(k:Int)(ha:a.length<1099511627776)(hk:0≤k∧k+a.length<1099511627776):QB a k=some (MX k a):=by
 unfold QB;have:=V5 a [] k (by simpa using ha) hk.1 hk.2
 simp only [Qe,QV,Js]at this;rw [this,CO];by_cases h:MX k a= -1
 ·rw [if_pos h,h]
 ·rw [if_neg h]
theorem K5(a:List Int)(k:Int)(h0:a.length<1099511627776)(h1:0≤k∧k+a.length<1099511627776):Y.call 15 [D.sl 3 (A8 (D.int .i64) a),D.int .i64 k] []=some (D.int .i64 (MX k a),[]):=WK a k (ZH a k h0 h1)
theorem Zv(n:Nat): ∀k,MX k (upto k n)=k+n:=by
 induction n with
 | zero=>intro k;simp [upto,MX]
 | succ n ih=>
  intro k
  have e:upto k (n+1)=k::upto (k+1) n:=by
   simp only [upto,List.range_succ_eq_map,QW,List.map_map]
   congr 1
   ·simp
   ·apply List.map_congr_left;intro i _;simp;omega
  rw [e,MX,if_pos rfl,ih];omega
noncomputable def Gl(a:List (List Int))(k1 i:Int):Option ((Int×Int)⊕(Unit⊕Int)):= if i<(a.length:Int)then ck (0≤i∧i.toNat<a.length)<| ck ((a.getD i.toNat default).length<1099511627776)<| ck (0≤k1∧k1+(a.getD i.toNat default).length<1099511627776)<| if(MX k1 (a.getD i.toNat default))<0 then some (Sum.inr (Sum.inl ())) else some (Sum.inl ((MX k1 (a.getD i.toNat default)),IntKind.i64.wrap (i+1))) else some (Sum.inr (Sum.inr k1))
noncomputable def Gm(a:List (List Int))(v:Int×Int):Option (Unit⊕Int):=GQ (fun v=>Gl a v.1 v.2) v
noncomputable def Km(a:List (List Int))(k:Int):Option (Int):=
 (Gm a (k,0)).bind fun JL=>
 match JL with
 | .inl q2_=>
  some (-1)
 | .inr q2_=>
  some q2_
def cz:SC:= .seq (.seq (.ops [oM 6 5 3,oM 7 0 22,oN 8 7 22,oB 9 .lss 3 (tK 6) (tK 8) 3 4]) (.cond (tK 9) .skip (.exit 0))) (.seq (.block 1 (.seq (.ops [oM 12 0 22,oM 13 5 3,oI 14 22 12 13,oL 15 27 14 27,oM 16 1 3,oC 17 15 [(tK 15),(tK 16)] [27,3] 3,oA 1 17 3]) (.seq (.ops [oM 18 1 3,oB 19 .lss 3 (tK 18) (iK 0) 3 4]) (.cond (tK 19) (.seq (.ops [oX 4 (.assign (.const (.int .i64 (-1)))) 3]) .ret) .skip)))) (.ops [oM 10 5 3,oB 11 .add 3 (tK 10) (iK 1) 3 3,oA 5 11 3]))
def xE:SC:= .loop cz
def k28:SC:= .seq (.ops [oX 4 (.assign (iK 0)) 3]) (.seq (.seq (.ops [oX 5 (.assign (iK 0)) 3]) (.block 0 xE)) (.seq (.ops [oM 20 1 3,oA 4 20 3]) .ret))
theorem A4o:Tryz.f28.body.map (BP lends)=some k28:=by kernel_rfl
theorem AGx:Be Tryz.f28 2=true:=by kernel_rfl
theorem c28{a l:List D}{r:D×List D}(h:BZ Y.env k28 (Eh AX l.length [ResultVar.tmp 4] r) (entry a l))(ha:a.length=2):Y.call 28 a l=some r:=
 AJ (Y:=Y) rfl Tryz.func28 (ha▸AGx) A4o h
def Dx(a:List (List Int))(k1 i:Int)(s:St):Prop:=s.v 0=D.sl 27 (A8 (fun x=>D.sl 3 (A8 (D.int .i64) x)) a)∧s.v 1=D.int .i64 k1∧s.v 5=D.int .i64 i
def Ep(a:List (List Int))(r:Unit⊕Int)(ex:Ex)(s:St):Prop:=match r with
 | .inl q=>ex= .ret∧s.v 4=D.int .i64 (-1)
 | .inr q=>ex= .exit 0∧s.v 1=D.int .i64 q
theorem UF(a:List (List Int)){v:Int×Int}{s:St}{r:Unit⊕Int}(h:Gm a v=some r)(hM:Dx a v.1 v.2 s):BZ Y.env xE (Ep a r) s:=by
 unfold Gm at h;refine Ao (c:=cz) (fun v=>Gl a v.1 v.2) (fun v s=>Dx a v.1 v.2 s) (Ep a) ?_ h hM;clear h hM s v r;intro v s o hM h;obtain⟨k1,i⟩:=v;dsimp only at h hM;unfold Gl at h;unfold Dx at hM;obtain⟨m0,m1,m2⟩:=hM;unfold cz;by_cases e1:i<(a.length:Int)
 ·rw [if_pos e1]at h;obtain⟨e2,h⟩:=Ar h;obtain⟨e3,h⟩:=Ar h;obtain⟨e4,h⟩:=Ar h;have c5:=K5 (a.getD i.toNat default) k1 e3 e4;by_cases e6:(MX k1 (a.getD i.toNat default))<0
  ·rw [if_pos e6]at h;cases h;simp only [↓AB,AC,↓reduceIte,Nat.reduceEqDiff,Nat.reduceLT,m0,m1,m2,e1,e2.1,e2.2,c5,e6,Dx,Ep,Sv]
  ·rw [if_neg e6]at h;cases h;simp only [↓AB,AC,↓reduceIte,Nat.reduceEqDiff,Nat.reduceLT,m0,m1,m2,e1,e2.1,e2.2,c5,e6,Dx,Ef]
 ·rw [if_neg e1]at h;cases h;simp only [↓AB,AC,↓reduceIte,Nat.reduceEqDiff,Nat.reduceLT,m0,m1,m2,e1,Dx,Ep,JK]
theorem PV(a:List (List Int))(k:Int){r:Int}(h:Km a k=some r):Y.call 28 [D.sl 27 (A8 (fun x=>D.sl 3 (A8 (D.int .i64) x)) a),D.int .i64 k] []=some (D.int .i64 r,[]):=by
 refine c28 ?_ rfl;unfold k28;unfold Km at h;obtain⟨JL,hl2,h⟩:=AO h;try dsimp only at h
 simp only [↓AB,AC,↓reduceIte,Nat.reduceEqDiff,Nat.reduceLT];refine AY (UF a hl2 ?_) ?_
 ·simp only [BG,Co,↓reduceIte,Nat.reduceEqDiff,Nat.reduceLT,Dx]
 ·intro ex2 s2 hX2;rcases JL with q2_ | q2_
  ·unfold Ep at hX2;dsimp only at hX2 h;obtain⟨rfl,n2_0⟩:=hX2;cases h;simp only [↓AB,AC,↓reduceIte,n2_0]
  ·unfold Ep at hX2;dsimp only at hX2 h;obtain⟨rfl,n2_0⟩:=hX2;cases h;simp only [↓AB,AC,↓reduceIte,Nat.reduceEqDiff,Nat.reduceLT,n2_0]
theorem UG: ∀(b a:List (List Int)) (k:Int),Ak b→a.length+b.length<1099511627776→0≤k→k+Bz b<1099511627776→
  Gm (a++Fy k b) (k,(a.length:Int))=some (.inr (k+Bz b)):=by
 intro b
 induction b with
 | nil=>
  intro a k hb hab hk hkt;unfold Gm;rw [FR (r:=Sum.inr k)]
  ·rw [U9,Int.add_zero]
  ·rw [show Fy k []=[]from rfl];simp only [Gl];rw [if_neg (UB _)]
 | cons x b ih=>
  intro a k hb hab hk hkt;rw [LD]at hkt;simp only [Ik]at hab;have hx:x.length<1099511627776:=hb.2 x (Iu ..);have ht:=Ce b;have:=ih (a++[upto k x.length]) (k+x.length) ⟨by omega,fun y hy=>hb.2 y (Jp _ hy)⟩ (by simp;omega) (by omega) (by omega)
  unfold Gm at this ⊢;have eg:(a++Fy k (x::b)).getD (a.length:Int).toNat default=upto k x.length:=by rw [IA];exact DX a (Fy k (x::b)) a.length rfl (by simp [Fy])
  rw [MC (s':=(k+x.length,((a++[upto k x.length]).length:Int)))]
  ·rw [show a++Fy k (x::b)=a++[upto k x.length]++Fy (k+x.length) b by simp [Fy],this,LD]
   rw [show k+(x.length:Int)+Bz b=k+(x.length+Bz b) by omega]
  ·simp only [Gl];rw [Fy]at eg ⊢;rw [if_pos (T9 ..),Am (TA ..),Am (by rw [eg,Ma];exact hx),Am (by rw [eg,Ma];omega),eg,Zv,if_neg (by omega),IR _ (by omega)];simp
theorem R9(a:List (List Int))(k:Int)(ha:Ak a)(hk:0≤k∧k+Bz a<1099511627776):Km (Fy k a) k=some (k+Bz a):=by
 unfold Km;have:=UG a [] k ha (by have:=ha.1;simp;omega) hk.1 hk.2
 simp only [Qe,QV,Js]at this;rw [this];rfl
end Go.Proofs.YtjhjkfoabhplfaaGreat
