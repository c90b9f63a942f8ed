/- Membership of a number, as a plain function. Conditions: the list is short. -/
import Derived.Test.YtipfckompmhljaaGreatL6
import Derived.Test.YtipfckompmhljaaGreatIsP
namespace Go.Proofs.YtipfckompmhljaaGreat
open Go Dv
set_option linter.unusedSimpArgs false
set_option linter.unusedVariables false
set_option maxRecDepth 100000
set_option maxHeartbeats 4000000
noncomputable def Fx(l:List Int)(n_ GY:Int):Option ((Int)⊕(Unit⊕Unit)):=
 if GY<(l.length:Int)then
  ck (0≤GY∧GY.toNat<l.length)<|
  if(l.getD GY.toNat default)=n_ then
   some (Sum.inr (Sum.inl ()))
  else
   some (Sum.inl (IntKind.i64.wrap (GY+1)))
 else
  some (Sum.inr (Sum.inr ()))
noncomputable def K6(l:List Int)(n_ v:Int):Option (Unit⊕Unit):=DT (fun v=>Fx l n_ v) v
noncomputable def PF(l:List Int)(n_:Int):Option (Bool):=
 (K6 l n_ 0).bind fun Au=>
 match Au with
 | .inl q2_=>
  some true
 | .inr q2_=>
  some false
def UG:SC:=
 .seq
 (.ops [
 ⟨some 10, .binOp .lss 3 (.tmp 9) (.tmp 8) 3,0,none⟩])
 (.seq
 (.cond (.tmp 10)
 .skip
 (.exit 0))
 (.seq
 (.block 1
 (.seq
 (.ops [
 ⟨some 11, .indexAddr 26 (.tmp 7) (.tmp 9),0,none⟩,
 ⟨some 12, .load 3 (.tmp 11),3,none⟩,
 ⟨some 6, .assign (.tmp 12),3,none⟩])
 (.seq
 (.ops [
 ⟨some 13, .move (.tmp 6),3,none⟩,
 ⟨some 14, .move (.tmp 1),3,none⟩,
 ⟨some 15, .binOp .eql 3 (.tmp 13) (.tmp 14) 3,4,none⟩])
 (.cond (.tmp 15)
 (.seq
 (.ops [
 ⟨some 4, .assign (.const (.bool true)),4,none⟩])
 .ret)
 .skip))))
 (.ops [
 ⟨some 16, .binOp .add 3 (.tmp 9) (.const (.int .i64 1)) 3,3,none⟩,
 ⟨some 9, .move (.tmp 16),3,none⟩])))
def df:SC:= .loop UG
def k70:SC:=
 .seq
 (.ops [
 ⟨some 4, .assign (.const (.bool false)),4,none⟩])
 (.seq
 (.seq
 (.ops [
 ⟨some 7, .move (.tmp 0),26,none⟩,
 ⟨some 8, .call ⟨(.builtin .len), #[(.tmp 7)], #[26]⟩,3,none⟩,
 ⟨some 9, .move (.const (.int .i64 0)),3,none⟩])
 (.block 0
 df))
 (.seq
 (.ops [
 ⟨some 4, .assign (.const (.bool false)),4,none⟩])
 .ret))
theorem mo:Tryz.f70.body.map (Am lends)=some k70:=by kernel_rfl
theorem A4C:As Tryz.f70 2=true:=by kernel_rfl
theorem c70{a l:List D}{r:D×List D}(h:Av Y.env k70 (fin AJ l.length [ResultVar.tmp 4] r) (entry a l))(ha:a.length=2):Y.call 70 a l=some r:=
 AC (Y:=Y) rfl Tryz.func70 (ha▸A4C) mo h
def EN(l:List Int)(n_ GY:Int)(s:St):Prop:=s.v 1=D.int .i64 n_∧s.v 7=D.sl 3 (A9 (D.int .i64) l)∧s.v 8=D.int .i64 (l.length:Int)∧s.v 9=D.int .i64 GY
def Fy(l:List Int)(n_:Int)(r:Unit⊕Unit)(ex:Ex)(s:St):Prop:=match r with
 | .inl q=>ex= .ret∧s.v 4=D.bool true
 | .inr q=>ex= .exit 0
theorem Rn(l:List Int)(n_:Int){v:Int}{s:St}{r:Unit⊕Unit}(h:K6 l n_ v=some r)(hM:EN l n_ v s):Av Y.env df (Fy l n_ r) s:=by
 unfold K6 at h
 refine Aa (c:=UG) (fun v=>Fx l n_ v) (fun v s=>EN l n_ v s) (Fy l n_) ?_ h hM
 clear h hM s v r
 intro GY s o hM h
 unfold Fx at h
 unfold EN at hM
 obtain⟨m0,m1,m2,m3⟩:=hM
 unfold UG
 by_cases e1:GY<(l.length:Int)
 ·rw [if_pos e1]at h
  obtain⟨e2,h⟩:=Ae h
  by_cases e3:(l.getD GY.toNat default)=n_
  ·rw [if_pos e3]at h
   cases h
   simp (maxDischargeDepth:=9) only [↓A8,A1,AE,A6,AA,↓reduceIte,Nat.reduceEqDiff,Nat.reduceLT,m0,m1,m2,m3,e1,e2.1,e2.2,decide_eq_true e3,EN,Fy,Ho]
  ·rw [if_neg e3]at h
   cases h
   simp (maxDischargeDepth:=9) only [↓A8,A1,AE,A6,AA,↓reduceIte,Nat.reduceEqDiff,Nat.reduceLT,m0,m1,m2,m3,e1,e2.1,e2.2,e3,EN,Ei]
 ·rw [if_neg e1]at h
  cases h
  simp (maxDischargeDepth:=9) only [↓A8,A1,AA,↓reduceIte,Nat.reduceLT,m2,m3,e1,EN,Fy,Ge]
theorem UH(l:List Int)(n_:Int){r:Bool}(h:PF l n_=some r):Y.call 70 [D.sl 3 (A9 (D.int .i64) l),D.int .i64 n_] []=some (D.bool r,[]):=by
 refine c70 ?_ rfl
 unfold k70
 unfold PF at h
 obtain⟨Au,hl2,h⟩:=AL h
 try dsimp only at h
 simp (maxDischargeDepth:=9) only [↓A8,A1,AE,A6,AA,↓reduceIte,Nat.reduceEqDiff,Nat.reduceLT]
 refine AP (Rn l n_ hl2 ?_) ?_
 ·simp (maxDischargeDepth:=9) only [A1,A6,↓reduceIte,Nat.reduceEqDiff,Nat.reduceLT,EN]
 ·intro ex2 s2 hX2
  rcases Au with q2_ | q2_
  ·unfold Fy at hX2
   dsimp only at hX2 h
   obtain⟨rfl,n2_0⟩:=hX2
   cases h
   simp (maxDischargeDepth:=9) only [↓A8,A1,A6,↓reduceIte,n2_0]
  ·unfold Fy at hX2
   dsimp only at hX2 h
   obtain rfl:=hX2
   cases h
   simp (maxDischargeDepth:=9) only [↓A8,A1,A6,AA,↓reduceIte,Nat.reduceEqDiff,Nat.reduceLT]
theorem Yd(l:List Int)(n:Int)(h:l.length<1099511627776):PF l n=some (l.contains n):=by
 unfold PF K6
 have key:=CE (fun v=>Fx l n v) (fun i=>(i:Int)) l.length (fun i=> !decide (l.getD i default=n)) (.inl ()) (.inr ()) ?_ ?_
 ·simp only [Int.natCast_zero]at key
  rw [key,Mk (fun x=> !decide (x=n))]
  have e:l.all (fun x=> !decide (x=n))= !l.contains n:=by
   rw [List.all_eq_not_any_not,List.contains_eq_any_beq]
   congr 2
   funext x
   rw [Bool.not_not,Bool.eq_iff_iff,decide_eq_true_eq,beq_iff_eq]
   exact eq_comm
  rw [e]
  cases l.contains n<;>rfl
 ·intro i hi
  simp only [Fx]
  rw [if_pos (Ak hi),Ac (BS hi),Int.toNat_natCast,Gm i (by omega)]
  by_cases hq:l.getD i default=n
  ·rw [if_pos hq,decide_eq_true hq];rfl
  ·rw [if_neg hq,decide_eq_false hq];rfl
 ·simp only [Fx];rw [if_neg (AH _)]
theorem Ye(l:List Int)(n_:Int)(h0:l.length<1099511627776):Y.call 70 [D.sl 3 (A9 (D.int .i64) l),D.int .i64 n_] []=some (D.bool (l.contains n_),[]):=UH l n_ (Yd l n_ h0)
end Go.Proofs.YtipfckompmhljaaGreat
