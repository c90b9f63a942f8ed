/- Membership of a number, as a plain function. Conditions: the list is short. -/
import Derived.Test.YtiehjihckndgkaaGreatL6
import Derived.Test.YtiehjihckndgkaaGreatIsP
namespace Go.Proofs.YtiehjihckndgkaaGreat
open Go Dv
set_option linter.unusedSimpArgs false
set_option linter.unusedVariables false
set_option maxRecDepth 100000
set_option maxHeartbeats 4000000
noncomputable def Jn(l:List Int)(n_:Int)(Lf:Int):Option ((Int)⊕(Unit⊕Unit)):= if Lf<(l.length:Int)then ck (0≤Lf∧Lf.toNat<l.length)<| if(l.getD Lf.toNat default)=n_ then some (Sum.inr (Sum.inl ())) else some (Sum.inl (IntKind.i64.wrap (Lf+1))) else some (Sum.inr (Sum.inr ()))
noncomputable def PO(l:List Int)(n_:Int)(v:Int):Option (Unit⊕Unit):=I4 (fun v=>Jn l n_ v) v
noncomputable def W9(l:List Int)(n_:Int):Option (Bool):=
 (PO l n_ 0).bind fun AY=>
 match AY with
 | .inl q1000_=>
  some true
 | .inr q1000_=>
  some false
def dG:SC:= .seq (.ops [oB 10 .lss 3 (tK 9) (tK 8) 3 0]) (.seq (.cond (tK 10) .skip (.exit 0)) (.seq (.block 1 (.seq (.ops [oI 11 26 7 9,oL 12 3 11 3,oA 6 12 3]) (.seq (.ops [oM 13 6 3,oM 14 1 3,oB 15 .eql 3 (tK 13) (tK 14) 3 4]) (.cond (tK 15) (.seq (.ops [oX 4 (.assign (.const (.bool true))) 4]) .ret) .skip)))) (.ops [oB 16 .add 3 (tK 9) (iK 1) 3 3,oM 9 16 3])))
def vz:SC:= .loop dG
def k36:SC:= .seq (.ops [oX 4 (.assign (.const (.bool false))) 4]) (.seq (.seq (.ops [oM 7 0 26,oN 8 7 26,oX 9 (.move (iK 0)) 3]) (.block 0 vz)) (.seq (.ops [oX 4 (.assign (.const (.bool false))) 4]) .ret))
theorem A53:Tryz.f36.body.map (Bf lends)=some k36:=by kernel_rfl
theorem AHS:Bz Tryz.f36 2=true:=by kernel_rfl
theorem mR{a l:List D}{r:D×List D}(h:CF Y.env k36 (ES Ae l.length [ResultVar.tmp 4] r) (entry a l))(ha:a.length=2):Y.call 36 a l=some r:=
 Ab (Y:=Y) rfl Tryz.func36 (ha▸AHS) A53 h
def II(l:List Int)(n_:Int)(Lf:Int)(s:St):Prop:=s.v 1=D.int .i64 n_∧s.v 7=D.sl 3 (AL (D.int .i64) l)∧s.v 8=D.int .i64 (l.length:Int)∧s.v 9=D.int .i64 Lf
def Jo(l:List Int)(n_:Int)(r:Unit⊕Unit)(ex:Ex)(s:St):Prop:=match r with
 | .inl q=>ex= .ret∧s.v 4=D.bool true
 | .inr q=>ex= .exit 0
theorem ZP(l:List Int)(n_:Int){v:Int}{s:St}{r:Unit⊕Unit}(h:PO l n_ v=some r)(hM:II l n_ v s):CF Y.env vz (Jo l n_ r) s:=by
 unfold PO at h;refine BN (c:=dG) (fun v=>Jn l n_ v) (fun v s=>II l n_ v s) (Jo l n_) ?_ h hM;clear h hM s v r;intro Lf s o hM h;unfold Jn at h;unfold II at hM;obtain⟨m0,m1,m2,m3⟩:=hM;unfold dG;rcases iS h with⟨e1,h⟩|⟨e1,h⟩
 ·obtain⟨e2,h⟩:=FK h;rcases iS h with⟨e3,h⟩|⟨e3,h⟩
  ·obtain rfl:=Option.some.inj h
   simp (maxDischargeDepth:=9) only [↓AP,AQ,↓reduceIte,Nat.reduceEqDiff,Nat.reduceLT,m0,m1,m2,m3,e1,e2.1,e2.2,decide_eq_true e3,II,Jo,MP]
  ·obtain rfl:=Option.some.inj h
   simp (maxDischargeDepth:=9) only [↓AP,AQ,↓reduceIte,Nat.reduceEqDiff,Nat.reduceLT,m0,m1,m2,m3,e1,e2.1,e2.2,e3,II,GZ]
 ·obtain rfl:=Option.some.inj h
  simp (maxDischargeDepth:=9) only [↓AP,AQ,↓reduceIte,Nat.reduceLT,m2,m3,e1,II,Jo,KW]
theorem dH(l:List Int)(n_:Int){r:Bool}(h:W9 l n_=some r):Y.call 36 [D.sl 3 (AL (D.int .i64) l),D.int .i64 n_] []=some (D.bool r,[]):=by
 refine mR ?_ rfl;unfold k36;unfold W9 at h;obtain⟨AY,hl2,h⟩:=Ag h;try dsimp only at h
 simp (maxDischargeDepth:=9) only [↓AP,AQ,↓reduceIte,Nat.reduceEqDiff,Nat.reduceLT];refine Av (ZP l n_ hl2 ?_) ?_
 ·simp (maxDischargeDepth:=9) only [C9,DK,↓reduceIte,Nat.reduceEqDiff,Nat.reduceLT,II]
 ·intro ex2 s2 hX2;rcases AY with q1000_|q1000_
  ·unfold Jo at hX2;dsimp only at hX2 h;obtain⟨rfl,n2_0⟩:=hX2
   obtain rfl:=Option.some.inj h
   simp (maxDischargeDepth:=9) only [↓AP,AQ,↓reduceIte,n2_0]
  ·unfold Jo at hX2;dsimp only at hX2 h
   obtain rfl:=hX2
   obtain rfl:=Option.some.inj h
   simp (maxDischargeDepth:=9) only [↓AP,AQ,↓reduceIte,Nat.reduceEqDiff,Nat.reduceLT]
theorem mU(l:List Int)(n:Int)(h:l.length<1099511627776):W9 l n=some (l.contains n):=by
 unfold W9 PO;have key:=Db (fun v=>Jn l n v) (fun i=>(i:Int)) l.length (fun i=> !decide (l.getD i default=n)) (.inl ()) (.inr ()) ?_ ?_
 ·simp only [GY]at key;rw [key,NK (fun x=> !decide (x=n))]
  have e:l.all (fun x=> !decide (x=n))= !l.contains n:=by
   rw [List.all_eq_not_any_not,List.contains_eq_any_beq]
   congr 2
   funext x
   rw [Bool.not_not,Rt,decide_eq_true_eq,beq_iff_eq];exact eq_comm
  rw [e]
  cases l.contains n<;>rfl
 ·intro i hi;simp only [Jn];rw [if_pos (CJ hi),BJ (Df hi),IV,Kh i (by omega)]
  by_cases hq:l.getD i default=n
  ·rw [if_pos hq,decide_eq_true hq];rfl
  ·rw [if_neg hq,decide_eq_false hq];rfl
 ·simp only [Jn];rw [if_neg (Ar _)]
theorem Xv(l:List Int)(n_:Int)(h0:l.length<1099511627776):Y.call 36 [D.sl 3 (AL (D.int .i64) l),D.int .i64 n_] []=some (D.bool (l.contains n_),[]):=dH l n_ (mU l n_ h0)
noncomputable def BI(s_:List Int)(v_:Int)(NZ:Int):Option ((Int)⊕(Int⊕Unit)):= if NZ<(s_.length:Int)then ck (0≤NZ∧NZ.toNat<s_.length)<| if v_=(s_.getD NZ.toNat default)then some (Sum.inr (Sum.inl NZ)) else some (Sum.inl (IntKind.i64.wrap (NZ+1))) else some (Sum.inr (Sum.inr ()))
noncomputable def Dm(s_:List Int)(v_:Int)(v:Int):Option (Int⊕Unit):=I4 (fun v=>BI s_ v_ v) v
noncomputable def DR(s_:List Int)(v_:Int):Option (Int):=
 (Dm s_ v_ 0).bind fun AY=>
 match AY with
 | .inl q1000_=>
  some q1000_
 | .inr q1000_=>
  some (-1)
def Xw:SC:= .seq (.ops [oB 9 .lss 3 (tK 8) (tK 7) 3 0]) (.seq (.cond (tK 9) .skip (.exit 0)) (.seq (.block 1 (.seq (.ops [oM 10 8 3,oA 5 10 3]) (.seq (.ops [oM 11 1 3,oM 12 0 26,oM 13 5 3,oI 14 26 12 13,oL 15 3 14 3,oB 16 .eql 3 (tK 11) (tK 15) 3 4]) (.cond (tK 16) (.seq (.ops [oM 17 5 3,oA 4 17 3]) .ret) .skip)))) (.ops [oB 18 .add 3 (tK 8) (iK 1) 3 3,oM 8 18 3])))
def oK:SC:= .loop Xw
def A54:SC:= .seq (.ops [oX 4 (.assign (iK 0)) 3]) (.seq (.seq (.ops [oM 6 0 26,oN 7 6 26,oX 8 (.move (iK 0)) 3]) (.block 0 oK)) (.seq (.ops [oX 4 (.assign (.const (.int .i64 (-1)))) 3]) .ret))
theorem zP:Tryz.f107.body.map (Bf lends)=some A54:=by kernel_rfl
theorem ACQ:Bz Tryz.f107 2=true:=by kernel_rfl
theorem AHT{a l:List D}{r:D×List D}(h:CF Y.env A54 (ES Ae l.length [ResultVar.tmp 4] r) (entry a l))(ha:a.length=2):Y.call 107 a l=some r:=
 Ab (Y:=Y) rfl Tryz.func107 (ha▸ACQ) zP h
def Bv(s_:List Int)(v_:Int)(NZ:Int)(s:St):Prop:=s.v 0=D.sl 3 (AL (D.int .i64) s_)∧s.v 1=D.int .i64 v_∧s.v 7=D.int .i64 (s_.length:Int)∧s.v 8=D.int .i64 NZ
def CQ(s_:List Int)(v_:Int)(r:Int⊕Unit)(ex:Ex)(s:St):Prop:=match r with
 | .inl q=>ex= .ret∧s.v 4=D.int .i64 q
 | .inr q=>ex= .exit 0
theorem M6(s_:List Int)(v_:Int){v:Int}{s:St}{r:Int⊕Unit}(h:Dm s_ v_ v=some r)(hM:Bv s_ v_ v s):CF Y.env oK (CQ s_ v_ r) s:=by
 unfold Dm at h;refine BN (c:=Xw) (fun v=>BI s_ v_ v) (fun v s=>Bv s_ v_ v s) (CQ s_ v_) ?_ h hM;clear h hM s v r;intro NZ s o hM h;unfold BI at h;unfold Bv at hM;obtain⟨m0,m1,m2,m3⟩:=hM;unfold Xw;rcases iS h with⟨e1,h⟩|⟨e1,h⟩
 ·obtain⟨e2,h⟩:=FK h;rcases iS h with⟨e3,h⟩|⟨e3,h⟩
  ·obtain rfl:=Option.some.inj h
   simp (maxDischargeDepth:=9) only [↓AP,AQ,↓reduceIte,Nat.reduceEqDiff,Nat.reduceLT,m0,m1,m2,m3,e1,e2.1,e2.2,decide_eq_true e3,Bv,CQ,MP]
  ·obtain rfl:=Option.some.inj h
   simp (maxDischargeDepth:=9) only [↓AP,AQ,↓reduceIte,Nat.reduceEqDiff,Nat.reduceLT,m0,m1,m2,m3,e1,e2.1,e2.2,e3,Bv,GZ]
 ·obtain rfl:=Option.some.inj h
  simp (maxDischargeDepth:=9) only [↓AP,AQ,↓reduceIte,Nat.reduceLT,m2,m3,e1,Bv,CQ,KW]
theorem MW(s_:List Int)(v_:Int){r:Int}(h:DR s_ v_=some r):Y.call 107 [D.sl 3 (AL (D.int .i64) s_),D.int .i64 v_] []=some (D.int .i64 r,[]):=by
 refine AHT ?_ rfl;unfold A54;unfold DR at h;obtain⟨AY,hl2,h⟩:=Ag h;try dsimp only at h
 simp (maxDischargeDepth:=9) only [↓AP,AQ,↓reduceIte,Nat.reduceEqDiff,Nat.reduceLT,Int.reduceNeg];refine Av (M6 s_ v_ hl2 ?_) ?_
 ·simp (maxDischargeDepth:=9) only [C9,DK,↓reduceIte,Nat.reduceEqDiff,Nat.reduceLT,Bv]
 ·intro ex2 s2 hX2;rcases AY with q1000_|q1000_
  ·unfold CQ at hX2;dsimp only at hX2 h;obtain⟨rfl,n2_0⟩:=hX2
   obtain rfl:=Option.some.inj h
   simp (maxDischargeDepth:=9) only [↓AP,AQ,↓reduceIte,n2_0]
  ·unfold CQ at hX2;dsimp only at hX2 h
   obtain rfl:=hX2
   obtain rfl:=Option.some.inj h
   simp (maxDischargeDepth:=9) only [↓AP,AQ,↓reduceIte,Nat.reduceEqDiff,Nat.reduceLT,Int.reduceNeg]
noncomputable def Dn(s_:List Int)(v_:Int):Option (Bool):= (DR s_ v_).bind fun vX=> some (decide (0≤vX))
def k74:SC:= .seq (.ops [oX 4 (.assign (.const (.bool false))) 4]) (.seq (.ops [oM 5 0 26,oM 6 1 3,oC 7 107 [(tK 5),(tK 6)] [26,3] 3,oB 8 .geq 3 (tK 7) (iK 0) 3 4,oA 4 8 4]) .ret)
theorem A55:Tryz.f74.body.map (Bf lends)=some k74:=by kernel_rfl
theorem AHV:Bz Tryz.f74 2=true:=by kernel_rfl
theorem c74{a l:List D}{r:D×List D}(h:CF Y.env k74 (ES Ae l.length [ResultVar.tmp 4] r) (entry a l))(ha:a.length=2):Y.call 74 a l=some r:=
 Ab (Y:=Y) rfl Tryz.func74 (ha▸AHV) A55 h
theorem LG(s_:List Int)(v_:Int){r:Bool}(h:Dn s_ v_=some r):Y.call 74 [D.sl 3 (AL (D.int .i64) s_),D.int .i64 v_] []=some (D.bool r,[]):=by
 refine c74 ?_ rfl;unfold k74;unfold Dn at h;obtain⟨vX,hl1,h⟩:=Ag h;try dsimp only at h
 have c1:=MW s_ v_ hl1
 obtain rfl:=Option.some.inj h
 simp (maxDischargeDepth:=9) only [↓AP,AQ,↓reduceIte,Nat.reduceEqDiff,Nat.reduceLT,Nat.reduceAdd,c1]
theorem w9(l:List Int)(n:Int)(h:l.length<1099511627776): ∃r,DR l n=some r∧(0≤r↔l.contains n=true):=by
 unfold DR Dm;by_cases ha: ∀i,i<l.length→(!decide (n=l.getD i default))=true
 ·have key:=EX (fun v=>BI l n v) (fun i=>(i:Int)) l.length (.inr ()) ?_ ?_
  ·simp only [GY]at key;rw [key]
   refine⟨-1,rfl,by simp,fun hc=> ?_⟩
   obtain⟨i,hi,he⟩:=VB (RP.1 hc);have:=ha i hi
   rw [Am _ _ hi,he]at this;simp at this
  ·intro i hi;simp only [BI];have e:=ha i hi;rw [if_pos (CJ hi),BJ (Df hi),IV,if_neg (by simpa using e),Kh i (by omega)]
  ·simp only [BI];rw [if_neg (Ar _)]
 ·obtain⟨m,h1,h2,h3⟩:=PG (P:=fun i=> !decide (n=l.getD i default)) ha;have h2':n=l.getD m default:=by simpa using h2
  have key:=EX (fun v=>BI l n v) (fun i=>(i:Int)) m (.inl (m:Int)) ?_ ?_
  ·simp only [GY]at key;rw [key]
   refine⟨(m:Int),rfl,fun _=> ?_,fun _=>by omega⟩
   rw [h2',Am _ _ h1];exact RP.2 (OA h1)
  ·intro i hi;simp only [BI];have e:=h3 i hi;rw [if_pos (CJ (by omega)),BJ (Df (by omega)),IV,if_neg (by simpa using e),Kh i (by omega)]
  ·simp only [BI];rw [if_pos (CJ h1),BJ (Df h1),IV,if_pos h2']
theorem M7(l:List Int)(n:Int)(h:l.length<1099511627776):Dn l n=some (l.contains n):=by
 obtain⟨r,h1,h2⟩:=w9 l n h;unfold Dn;rw [h1,DJ]
 congr 1
 rw [Rt];simpa using h2
theorem M8(s_:List Int)(v_:Int)(h0:s_.length<1099511627776):Y.call 74 [D.sl 3 (AL (D.int .i64) s_),D.int .i64 v_] []=some (D.bool (s_.contains v_),[]):=LG s_ v_ (M7 s_ v_ h0)
end Go.Proofs.YtiehjihckndgkaaGreat
