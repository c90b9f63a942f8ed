/- Membership of a number, as a plain function. Conditions: the list is short. -/
import Derived.Test.YtiehjihckndgkaaGreatL6
import Derived.Test.YtiehjihckndgkaaGreatIsP
namespace Go.Proofs.YtiehjihckndgkaaGreat
open Go Dv
set_option linter.unusedSimpArgs false
set_option linter.unusedVariables false
set_option maxRecDepth 100000
set_option maxHeartbeats 4000000
noncomputable def Ky(l:AB)(n_:Int)(Gv:Int):Option ((Int)⊕(Unit⊕Unit)):= if Gv<(l.length:Int)then ck (0≤Gv∧Gv.toNat<l.length)<| if(l.getD Gv.toNat default)=n_ then some (Sum.inr (Sum.inl ())) else some (Sum.inl (IntKind.i64.wrap (Gv+1))) else some (Sum.inr (Sum.inr ()))
noncomputable def Ri(l:AB)(n_:Int)(v:Int):Option (Unit⊕Unit):=Fb (fun v=>Ky l n_ v) v
noncomputable def Z0(l:AB)(n_:Int):Option (Bool):=
 (Ri l n_ 0).bind fun Aa=>
 match Aa with
 | .inl q1000_=>
  some true
 | .inr q1000_=>
  some false
def lX:SC:= .seq (.ops [oB 10 .lss 3 (tK 9) (tK 8) 3 0]) (.seq (.cond (tK 10) .skip (.exit 0)) (.seq (.block 1 (.seq (.ops [oI 11 26 7 9,oL 12 3 11 3,oA 6 12 3]) (.seq (.ops [oM 13 6 3,oM 14 1 3,oB 15 .eql 3 (tK 13) (tK 14) 3 4]) (.cond (tK 15) (.seq (.ops [oX 4 (.assign F7) 4]) .ret) .skip)))) (.ops [oB 16 .add 3 (tK 9) (iK 1) 3 3,oM 9 16 3])))
def A22:SC:= .loop lX
def k36:SC:= .seq (.ops [oX 4 CY 4]) (.seq (.seq (.ops [oM 7 0 26,oN 8 7 26,oX 9 (.move (iK 0)) 3]) (.block 0 A22)) (.seq (.ops [oX 4 CY 4]) .ret))
theorem AAJ:Tryz.f36.body.map (BX lends)=some k36:=by kernel_rfl
theorem ANN:Bj Tryz.f36 2=true:=by kernel_rfl
theorem c36{a l:List D}{r:D×List D}(h:Br Y.env k36 (fin Ap l.length [ResultVar.tmp 4] r) (entry a l))(ha:a.length=2):Y.call 36 a l=some r:=
 AZ (Y:=Y) rfl Tryz.func36 (ha▸ANN) AAJ h
def J2(l:AB)(n_:Int)(Gv:Int)(s:St):Prop:=s.v 1=D.int .i64 n_∧s.v 7=D.sl 3 (AQ (D.int .i64) l)∧s.v 8=D.int .i64 (l.length:Int)∧s.v 9=D.int .i64 Gv
def Kz(l:AB)(n_:Int)(r:Unit⊕Unit)(ex:Ex)(s:St):Prop:=match r with
 | .inl q=>ex= .ret∧s.v 4=D.bool true
 | .inr q=>ex= .exit 0
theorem gU(l:AB)(n_:Int){v:Int}{s:St}{r:Unit⊕Unit}(h:Ri l n_ v=some r)(hM:J2 l n_ v s):Br Y.env A22 (Kz l n_ r) s:=by
 unfold Ri at h;refine BH (c:=lX) (fun v=>Ky l n_ v) (fun v s=>J2 l n_ v s) (Kz l n_) ?_ h hM;clear h hM s v r;intro Gv s o hM h;unfold Ky at h;unfold J2 at hM;obtain⟨m0,m1,m2,m3⟩:=hM;unfold lX;rcases iS h with⟨e1,h⟩|⟨e1,h⟩
 ·obtain⟨e2,h⟩:=ES h;rcases iS h with⟨e3,h⟩|⟨e3,h⟩
  ·obtain rfl:=Option.some.inj h
   simp (maxDischargeDepth:=9) only [↓AL,AO,↓reduceIte,Nat.reduceEqDiff,Nat.reduceLT,m0,m1,m2,m3,e1,e2.1,e2.2,decide_eq_true e3,J2,Kz,Qu]
  ·obtain rfl:=Option.some.inj h
   simp (maxDischargeDepth:=9) only [↓AL,AO,↓reduceIte,Nat.reduceEqDiff,Nat.reduceLT,m0,m1,m2,m3,e1,e2.1,e2.2,e3,J2,En]
 ·obtain rfl:=Option.some.inj h
  simp (maxDischargeDepth:=9) only [↓AL,AO,↓reduceIte,Nat.reduceLT,m2,m3,e1,J2,Kz,K3]
theorem lY(l:AB)(n_:Int){r:Bool}(h:Z0 l n_=some r):Y.call 36 [D.sl 3 (AQ (D.int .i64) l),D.int .i64 n_] []=some (D.bool r,[]):=by
 refine c36 ?_ rfl;unfold k36;unfold Z0 at h;obtain⟨Aa,hl2,h⟩:=Ak h;try dsimp only at h
 simp (maxDischargeDepth:=9) only [↓AL,AO,↓reduceIte,Nat.reduceEqDiff,Nat.reduceLT];refine Aw (gU l n_ hl2 ?_) ?_
 ·simp (maxDischargeDepth:=9) only [BZ,Ei,↓reduceIte,Nat.reduceEqDiff,Nat.reduceLT,J2]
 ·intro ex2 s2 hX2;rcases Aa with q1000_|q1000_
  ·unfold Kz at hX2;dsimp only at hX2 h;obtain⟨rfl,n2_0⟩:=hX2
   obtain rfl:=Option.some.inj h
   simp (maxDischargeDepth:=9) only [↓AL,AO,↓reduceIte,n2_0]
  ·unfold Kz at hX2;dsimp only at hX2 h
   obtain rfl:=hX2
   obtain rfl:=Option.some.inj h
   simp (maxDischargeDepth:=9) only [↓AL,AO,↓reduceIte,Nat.reduceEqDiff,Nat.reduceLT]
theorem vV(l:AB)(n:Int)(h:l.length<1099511627776):Z0 l n=some (l.contains n):=by
 unfold Z0 Ri;have key:=Fe (fun v=>Ky l n v) (fun i=>(i:Int)) l.length (fun i=> !decide (l.getD i default=n)) (.inl ()) (.inr ()) ?_ ?_
 ·simp only [Gn]at key;rw [key,aO (fun x=> !decide (x=n))]
  have e:l.all (fun x=> !decide (x=n))= !l.contains n:=by
   rw [List.all_eq_not_any_not,List.contains_eq_any_beq]
   congr 2
   funext x
   rw [Bool.not_not,VE,decide_eq_true_eq,beq_iff_eq];exact eq_comm
  rw [e]
  cases l.contains n<;>rfl
 ·intro i hi;simp only [Ky];rw [if_pos (CL hi),BL (Ff hi),EC,K4 i (by omega)]
  by_cases hq:l.getD i default=n
  ·rw [if_pos hq,decide_eq_true hq];rfl
  ·rw [if_neg hq,decide_eq_false hq];rfl
 ·simp only [Ky];rw [if_neg (Az _)]
theorem vW(l:AB)(n_:Int)(h0:l.length<1099511627776):Y.call 36 [D.sl 3 (AQ (D.int .i64) l),D.int .i64 n_] []=some (D.bool (l.contains n_),[]):=lY l n_ (vV l n_ h0)
end Go.Proofs.YtiehjihckndgkaaGreat
