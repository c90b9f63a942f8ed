/- When lists are a problem, as plain functions. Conditions: the lists are short. -/
import Derived.Test.YtipfckompmhljaaGreatL6
import Derived.Test.YtipfckompmhljaaGreatPB
namespace Go.Proofs.YtipfckompmhljaaGreat
open Go Dv
set_option linter.unusedSimpArgs false
set_option linter.unusedVariables false
set_option maxRecDepth 100000
set_option maxHeartbeats 4000000
def EB(n lo hi:Int):Bool:=decide (lo≤n∧n≤hi)
theorem FG{n lo hi:Int}:EB n lo hi=true↔lo≤n∧n≤hi:=by simp [EB]
noncomputable def Mv(n_ low high:Int):Option (Bool):=
 if low≤n_ then
  some (decide (n_≤high))
 else
  some false
def k60:SC:=
 .seq
 (.ops [
 ⟨some 6, .assign (.const (.bool false)),4,none⟩])
 (.seq
 (.ops [
 ⟨some 7, .move (.tmp 1),3,none⟩,
 ⟨some 8, .move (.tmp 0),3,none⟩,
 ⟨some 9, .binOp .leq 3 (.tmp 7) (.tmp 8) 3,4,none⟩,
 ⟨some 10, .move (.tmp 9),4,none⟩,
 ⟨some 11, .move (.tmp 0),3,(some (some 10,true))⟩,
 ⟨some 12, .move (.tmp 2),3,(some (some 10,true))⟩,
 ⟨some 13, .binOp .leq 3 (.tmp 11) (.tmp 12) 3,4,(some (some 10,true))⟩,
 ⟨some 14, .pick (.tmp 10) (.tmp 13) (.const (.bool false)),4,none⟩,
 ⟨some 6, .assign (.tmp 14),4,none⟩])
 .ret)
theorem lu:Tryz.f60.body.map (Am lends)=some k60:=by kernel_rfl
theorem A35:As Tryz.f60 3=true:=by kernel_rfl
theorem c60{a l:List D}{r:D×List D}(h:Av Y.env k60 (fin AJ l.length [ResultVar.tmp 6] r) (entry a l))(ha:a.length=3):Y.call 60 a l=some r:=
 AC (Y:=Y) rfl Tryz.func60 (ha▸A35) lu h
theorem RZ(n_ low high:Int){r:Bool}(h:Mv n_ low high=some r):Y.call 60 [D.int .i64 n_,D.int .i64 low,D.int .i64 high] []=some (D.bool r,[]):=by
 refine c60 ?_ rfl
 unfold k60
 unfold Mv at h
 by_cases e1:low≤n_
 ·rw [if_pos e1]at h
  cases h
  simp (maxDischargeDepth:=9) only [↓A8,A1,A6,AA,↓reduceIte,Nat.reduceEqDiff,Nat.reduceLT,e1]
 ·rw [if_neg e1]at h
  cases h
  simp (maxDischargeDepth:=9) only [↓A8,A1,A6,AA,↓reduceIte,Nat.reduceEqDiff,Nat.reduceLT,e1]
noncomputable def Th(n_ lo hi:Int):Option (Bool):=
 if lo≤n_ then
  some (decide (n_≤hi))
 else
  some false
def k51:SC:=
 .seq
 (.ops [
 ⟨some 6, .assign (.const (.bool false)),4,none⟩])
 (.seq
 (.ops [
 ⟨some 7, .move (.tmp 0),3,none⟩,
 ⟨some 8, .move (.tmp 1),3,none⟩,
 ⟨some 9, .binOp .geq 3 (.tmp 7) (.tmp 8) 3,4,none⟩,
 ⟨some 10, .move (.tmp 9),4,none⟩,
 ⟨some 11, .move (.tmp 0),3,(some (some 10,true))⟩,
 ⟨some 12, .move (.tmp 2),3,(some (some 10,true))⟩,
 ⟨some 13, .binOp .leq 3 (.tmp 11) (.tmp 12) 3,4,(some (some 10,true))⟩,
 ⟨some 14, .pick (.tmp 10) (.tmp 13) (.const (.bool false)),4,none⟩,
 ⟨some 6, .assign (.tmp 14),4,none⟩])
 .ret)
theorem lw:Tryz.f51.body.map (Am lends)=some k51:=by kernel_rfl
theorem A37:As Tryz.f51 3=true:=by kernel_rfl
theorem c51{a l:List D}{r:D×List D}(h:Av Y.env k51 (fin AJ l.length [ResultVar.tmp 6] r) (entry a l))(ha:a.length=3):Y.call 51 a l=some r:=
 AC (Y:=Y) rfl Tryz.func51 (ha▸A37) lw h
theorem Wi(n_ lo hi:Int){r:Bool}(h:Th n_ lo hi=some r):Y.call 51 [D.int .i64 n_,D.int .i64 lo,D.int .i64 hi] []=some (D.bool r,[]):=by
 refine c51 ?_ rfl
 unfold k51
 unfold Th at h
 by_cases e1:lo≤n_
 ·rw [if_pos e1]at h
  cases h
  simp (maxDischargeDepth:=9) only [↓A8,A1,A6,AA,↓reduceIte,Nat.reduceEqDiff,Nat.reduceLT,e1]
 ·rw [if_neg e1]at h
  cases h
  simp (maxDischargeDepth:=9) only [↓A8,A1,A6,AA,↓reduceIte,Nat.reduceEqDiff,Nat.reduceLT,e1]
theorem Wj(n lo hi:Int):Mv n lo hi=some (EB n lo hi):=by unfold Mv EB;by_cases h1:lo≤n<;>by_cases h2:n≤hi<;>simp [h1,h2]
theorem aV(n lo hi:Int):Th n lo hi=some (EB n lo hi):=by unfold Th EB;by_cases h1:lo≤n<;>by_cases h2:n≤hi<;>simp [h1,h2]
theorem FT(n_ low high:Int):Y.call 60 [D.int .i64 n_,D.int .i64 low,D.int .i64 high] []=some (D.bool (EB n_ low high),[]):=RZ n_ low high (Wj n_ low high)
theorem Gk(n_ lo hi:Int):Y.call 51 [D.int .i64 n_,D.int .i64 lo,D.int .i64 hi] []=some (D.bool (EB n_ lo hi),[]):=Wi n_ lo hi (aV n_ lo hi)
noncomputable def Fk(l:List Int)(lo hi AZ:Int):Option ((Int)⊕(Unit⊕Unit)):=
 if AZ<(l.length:Int)then
  ck (0≤AZ∧AZ.toNat<l.length)<|
  if(EB (l.getD AZ.toNat default) lo hi)=true then
   some (Sum.inl (IntKind.i64.wrap (AZ+1)))
  else
   some (Sum.inr (Sum.inl ()))
 else
  some (Sum.inr (Sum.inr ()))
noncomputable def K0(l:List Int)(lo hi v:Int):Option (Unit⊕Unit):=DT (fun v=>Fk l lo hi v) v
noncomputable def PD(l:List Int)(lo hi:Int):Option (Bool):=
 (K0 l lo hi 0).bind fun Au=>
 match Au with
 | .inl q2_=>
  some false
 | .inr q2_=>
  some true
def Ti:SC:=
 .seq
 (.ops [
 ⟨some 12, .binOp .lss 3 (.tmp 11) (.tmp 10) 3,0,none⟩])
 (.seq
 (.cond (.tmp 12)
 .skip
 (.exit 0))
 (.seq
 (.block 1
 (.seq
 (.ops [
 ⟨some 13, .indexAddr 26 (.tmp 9) (.tmp 11),0,none⟩,
 ⟨some 14, .load 3 (.tmp 13),3,none⟩,
 ⟨some 8, .assign (.tmp 14),3,none⟩])
 (.seq
 (.ops [
 ⟨some 15, .move (.tmp 8),3,none⟩,
 ⟨some 16, .move (.tmp 1),3,none⟩,
 ⟨some 17, .move (.tmp 2),3,none⟩,
 ⟨some 18, .call ⟨(.value (.func 51)), #[(.tmp 15),(.tmp 16),(.tmp 17)], #[3,3,3]⟩,4,none⟩,
 ⟨some 19, .unOp .not 4 (.tmp 18),4,none⟩])
 (.cond (.tmp 19)
 (.seq
 (.ops [
 ⟨some 6, .assign (.const (.bool false)),4,none⟩])
 .ret)
 .skip))))
 (.ops [
 ⟨some 20, .binOp .add 3 (.tmp 11) (.const (.int .i64 1)) 3,3,none⟩,
 ⟨some 11, .move (.tmp 20),3,none⟩])))
def d7:SC:= .loop Ti
def k55:SC:=
 .seq
 (.ops [
 ⟨some 6, .assign (.const (.bool false)),4,none⟩])
 (.seq
 (.seq
 (.ops [
 ⟨some 9, .move (.tmp 0),26,none⟩,
 ⟨some 10, .call ⟨(.builtin .len), #[(.tmp 9)], #[26]⟩,3,none⟩,
 ⟨some 11, .move (.const (.int .i64 0)),3,none⟩])
 (.block 0
 d7))
 (.seq
 (.ops [
 ⟨some 6, .assign (.const (.bool true)),4,none⟩])
 .ret))
theorem lx:Tryz.f55.body.map (Am lends)=some k55:=by kernel_rfl
theorem A39:As Tryz.f55 3=true:=by kernel_rfl
theorem c55{a l:List D}{r:D×List D}(h:Av Y.env k55 (fin AJ l.length [ResultVar.tmp 6] r) (entry a l))(ha:a.length=3):Y.call 55 a l=some r:=
 AC (Y:=Y) rfl Tryz.func55 (ha▸A39) lx h
def EH(l:List Int)(lo hi AZ:Int)(s:St):Prop:=s.v 1=D.int .i64 lo∧s.v 2=D.int .i64 hi∧s.v 9=D.sl 3 (A9 (D.int .i64) l)∧s.v 10=D.int .i64 (l.length:Int)∧s.v 11=D.int .i64 AZ
def Fl(l:List Int)(lo hi:Int)(r:Unit⊕Unit)(ex:Ex)(s:St):Prop:=match r with
 | .inl q=>ex= .ret∧s.v 6=D.bool false
 | .inr q=>ex= .exit 0
theorem Ra(l:List Int)(lo hi:Int){v:Int}{s:St}{r:Unit⊕Unit}(h:K0 l lo hi v=some r)(hM:EH l lo hi v s):Av Y.env d7 (Fl l lo hi r) s:=by
 unfold K0 at h
 refine Aa (c:=Ti) (fun v=>Fk l lo hi v) (fun v s=>EH l lo hi v s) (Fl l lo hi) ?_ h hM
 clear h hM s v r
 intro AZ s o hM h
 unfold Fk at h
 unfold EH at hM
 obtain⟨m0,m1,m2,m3,m4⟩:=hM
 unfold Ti
 by_cases e1:AZ<(l.length:Int)
 ·rw [if_pos e1]at h
  obtain⟨e2,h⟩:=Ae h
  have c3:=Gk (l.getD AZ.toNat default) lo hi
  by_cases e4:(EB (l.getD AZ.toNat default) lo hi)=true
  ·rw [if_pos e4]at h
   cases h
   simp (maxDischargeDepth:=9) only [↓A8,A1,AE,Ap,A6,AA,↓reduceIte,Nat.reduceEqDiff,Nat.reduceLT,Nat.reduceAdd,m0,m1,m2,m3,m4,e1,e2.1,e2.2,c3,e4,EH,Ei]
  ·rw [if_neg e4]at h
   have e4f:(EB (l.getD AZ.toNat default) lo hi)=false:=Bool.eq_false_iff.mpr e4
   cases h
   simp (maxDischargeDepth:=9) only [↓A8,A1,AE,Ap,A6,AA,↓reduceIte,Nat.reduceEqDiff,Nat.reduceLT,Nat.reduceAdd,m0,m1,m2,m3,m4,e1,e2.1,e2.2,c3,e4f,EH,Fl,Ho]
 ·rw [if_neg e1]at h
  cases h
  simp (maxDischargeDepth:=9) only [↓A8,A1,AA,↓reduceIte,Nat.reduceLT,m3,m4,e1,EH,Fl,Ge]
theorem Tj(l:List Int)(lo hi:Int){r:Bool}(h:PD l lo hi=some r):Y.call 55 [D.sl 3 (A9 (D.int .i64) l),D.int .i64 lo,D.int .i64 hi] []=some (D.bool r,[]):=by
 refine c55 ?_ rfl
 unfold k55
 unfold PD at h
 obtain⟨Au,hl2,h⟩:=AL h
 try dsimp only at h
 simp (maxDischargeDepth:=9) only [↓A8,A1,AE,A6,AA,↓reduceIte,Nat.reduceEqDiff,Nat.reduceLT]
 refine AP (Ra l lo hi hl2 ?_) ?_
 ·simp (maxDischargeDepth:=9) only [A1,A6,↓reduceIte,Nat.reduceEqDiff,Nat.reduceLT,EH]
 ·intro ex2 s2 hX2
  rcases Au with q2_ | q2_
  ·unfold Fl at hX2
   dsimp only at hX2 h
   obtain⟨rfl,n2_0⟩:=hX2
   cases h
   simp (maxDischargeDepth:=9) only [↓A8,A1,A6,↓reduceIte,n2_0]
  ·unfold Fl at hX2
   dsimp only at hX2 h
   obtain rfl:=hX2
   cases h
   simp (maxDischargeDepth:=9) only [↓A8,A1,A6,AA,↓reduceIte,Nat.reduceEqDiff,Nat.reduceLT]
def CV(l:List Int)(lo hi:Int):Bool:=l.all fun x=>EB x lo hi
theorem YV(l:List Int)(lo hi:Int)(h:l.length<1099511627776):PD l lo hi=some (CV l lo hi):=by
 unfold PD K0
 have key:=CE (fun v=>Fk l lo hi v) (fun i=>(i:Int)) l.length (fun i=>EB (l.getD i default) lo hi) (.inl ()) (.inr ()) ?_ ?_
 ·simp only [Int.natCast_zero]at key
  rw [key,Mk (fun x=>EB x lo hi)]
  unfold CV
  cases l.all (fun x=>EB x lo hi)<;>rfl
 ·intro i hi
  simp only [Fk]
  rw [if_pos (Ak hi),Ac (BS hi),Int.toNat_natCast,Gm i (by omega)]
 ·simp only [Fk];rw [if_neg (AH _)]
theorem QP(l:List Int)(lo hi:Int)(h0:l.length<1099511627776):Y.call 55 [D.sl 3 (A9 (D.int .i64) l),D.int .i64 lo,D.int .i64 hi] []=some (D.bool (CV l lo hi),[]):=Tj l lo hi (YV l lo hi h0)
noncomputable def Gy(s_:List Int)(f:Int→Option Bool)(Hp:Int):Option ((Int)⊕(Int⊕Unit)):=
 if Hp<(s_.length:Int)then
  ck (0≤Hp∧Hp.toNat<s_.length)<|
  (f (s_.getD Hp.toNat default)).bind fun FF=>
  if FF=true then
   some (Sum.inr (Sum.inl Hp))
  else
   some (Sum.inl (IntKind.i64.wrap (Hp+1)))
 else
  some (Sum.inr (Sum.inr ()))
noncomputable def Tl(s_:List Int)(f:Int→Option Bool)(v:Int):Option (Int⊕Unit):=DT (fun v=>Gy s_ f v) v
noncomputable def xP(s_:List Int)(f:Int→Option Bool):Option (Int):=
 (Tl s_ f 0).bind fun Au=>
 match Au with
 | .inl q2_=>
  some q2_
 | .inr q2_=>
  some (-1)
def Tm:SC:=
 .seq
 (.ops [
 ⟨some 9, .binOp .lss 3 (.tmp 8) (.tmp 7) 3,0,none⟩])
 (.seq
 (.cond (.tmp 9)
 .skip
 (.exit 0))
 (.seq
 (.block 1
 (.seq
 (.ops [
 ⟨some 10, .move (.tmp 8),3,none⟩,
 ⟨some 5, .assign (.tmp 10),3,none⟩])
 (.seq
 (.ops [
 ⟨some 11, .move (.tmp 1),96,none⟩,
 ⟨some 12, .move (.tmp 0),26,none⟩,
 ⟨some 13, .move (.tmp 5),3,none⟩,
 ⟨some 14, .indexAddr 26 (.tmp 12) (.tmp 13),0,none⟩,
 ⟨some 15, .load 3 (.tmp 14),3,none⟩,
 ⟨some 16, .call ⟨(.value (.tmp 11)), #[(.tmp 15)], #[3]⟩,4,none⟩])
 (.cond (.tmp 16)
 (.seq
 (.ops [
 ⟨some 17, .move (.tmp 5),3,none⟩,
 ⟨some 4, .assign (.tmp 17),3,none⟩])
 .ret)
 .skip))))
 (.ops [
 ⟨some 18, .binOp .add 3 (.tmp 8) (.const (.int .i64 1)) 3,3,none⟩,
 ⟨some 8, .move (.tmp 18),3,none⟩])))
def d8:SC:= .loop Tm
def k94:SC:=
 .seq
 (.ops [
 ⟨some 4, .assign (.const (.int .i64 0)),3,none⟩])
 (.seq
 (.seq
 (.ops [
 ⟨some 6, .move (.tmp 0),26,none⟩,
 ⟨some 7, .call ⟨(.builtin .len), #[(.tmp 6)], #[26]⟩,3,none⟩,
 ⟨some 8, .move (.const (.int .i64 0)),3,none⟩])
 (.block 0
 d8))
 (.seq
 (.ops [
 ⟨some 4, .assign (.const (.int .i64 (-1))),3,none⟩])
 .ret))
theorem ly:Tryz.f94.body.map (Am lends)=some k94:=by kernel_rfl
theorem A3B:As Tryz.f94 2=true:=by kernel_rfl
theorem c94{a l:List D}{r:D×List D}(h:Av Y.env k94 (fin AJ l.length [ResultVar.tmp 4] r) (entry a l))(ha:a.length=2):Y.call 94 a l=some r:=
 AC (Y:=Y) rfl Tryz.func94 (ha▸A3B) ly h
def IP(s_:List Int)(f:Int→Option Bool)(f_f:FuncId)(f_c:List D)(Hp:Int)(s:St):Prop:=s.v 0=D.sl 3 (A9 (D.int .i64) s_)∧s.v 1=D.clo f_f f_c∧s.v 7=D.int .i64 (s_.length:Int)∧s.v 8=D.int .i64 Hp
def JV(s_:List Int)(f:Int→Option Bool)(f_f:FuncId)(f_c:List D)(r:Int⊕Unit)(ex:Ex)(s:St):Prop:=match r with
 | .inl q=>ex= .ret∧s.v 4=D.int .i64 q
 | .inr q=>ex= .exit 0
theorem aW(s_:List Int)(f:Int→Option Bool)(f_f:FuncId)(f_c:List D)(f_h: ∀(a0:Int) (r:Bool),f a0=some r→Y.call f_f (D.int .i64 a0::f_c) []=some (D.bool r,[]))(f_l:lends f_f=false){v:Int}{s:St}{r:Int⊕Unit}(h:Tl s_ f v=some r)(hM:IP s_ f f_f f_c v s):Av Y.env d8 (JV s_ f f_f f_c r) s:=by
 unfold Tl at h
 refine Aa (c:=Tm) (fun v=>Gy s_ f v) (fun v s=>IP s_ f f_f f_c v s) (JV s_ f f_f f_c) ?_ h hM
 clear h hM s v r
 intro Hp s o hM h
 unfold Gy at h
 unfold IP at hM
 obtain⟨m0,m1,m2,m3⟩:=hM
 unfold Tm
 by_cases e1:Hp<(s_.length:Int)
 ·rw [if_pos e1]at h
  obtain⟨e2,h⟩:=Ae h
  obtain⟨FF,hl3,h⟩:=AL h
  try dsimp only at h
  have c3:=f_h _ _ hl3
  by_cases e4:FF=true
  ·rw [if_pos e4]at h
   cases h
   simp (maxDischargeDepth:=9) only [↓A8,A1,AE,Ap,A6,AA,↓reduceIte,Nat.reduceEqDiff,Nat.reduceLT,Nat.reduceAdd,m0,m1,m2,m3,f_l,e1,e2.1,e2.2,c3,e4,IP,JV,Ho]
  ·rw [if_neg e4]at h
   have e4f:FF=false:=Bool.eq_false_iff.mpr e4
   cases h
   simp (maxDischargeDepth:=9) only [↓A8,A1,AE,Ap,A6,AA,↓reduceIte,Nat.reduceEqDiff,Nat.reduceLT,Nat.reduceAdd,m0,m1,m2,m3,f_l,e1,e2.1,e2.2,c3,e4f,IP,Ei]
 ·rw [if_neg e1]at h
  cases h
  simp (maxDischargeDepth:=9) only [↓A8,A1,AA,↓reduceIte,Nat.reduceLT,m2,m3,e1,IP,JV,Ge]
theorem d9(s_:List Int)(f:Int→Option Bool)(f_f:FuncId)(f_c:List D)(f_h: ∀(a0:Int) (r:Bool),f a0=some r→Y.call f_f (D.int .i64 a0::f_c) []=some (D.bool r,[]))(f_l:lends f_f=false){r:Int}(h:xP s_ f=some r):Y.call 94 [D.sl 3 (A9 (D.int .i64) s_),D.clo f_f f_c] []=some (D.int .i64 r,[]):=by
 refine c94 ?_ rfl
 unfold k94
 unfold xP at h
 obtain⟨Au,hl2,h⟩:=AL h
 try dsimp only at h
 simp (maxDischargeDepth:=9) only [↓A8,A1,AE,A6,AA,↓reduceIte,Nat.reduceEqDiff,Nat.reduceLT,Int.reduceNeg]
 refine AP (aW s_ f f_f f_c f_h f_l hl2 ?_) ?_
 ·simp (maxDischargeDepth:=9) only [A1,A6,↓reduceIte,Nat.reduceEqDiff,Nat.reduceLT,IP]
 ·intro ex2 s2 hX2
  rcases Au with q2_ | q2_
  ·unfold JV at hX2
   dsimp only at hX2 h
   obtain⟨rfl,n2_0⟩:=hX2
   cases h
   simp (maxDischargeDepth:=9) only [↓A8,A1,A6,↓reduceIte,n2_0]
  ·unfold JV at hX2
   dsimp only at hX2 h
   obtain rfl:=hX2
   cases h
   simp (maxDischargeDepth:=9) only [↓A8,A1,A6,AA,↓reduceIte,Nat.reduceEqDiff,Nat.reduceLT,Int.reduceNeg]
noncomputable def B6(s_:List Int)(f:Int→Option Bool):Option (Bool):=
 (xP s_ f).bind fun BB=>
 some (decide (0≤BB))
def k84:SC:=
 .seq
 (.ops [
 ⟨some 4, .assign (.const (.bool false)),4,none⟩])
 (.seq
 (.ops [
 ⟨some 5, .move (.tmp 0),26,none⟩,
 ⟨some 6, .move (.tmp 1),96,none⟩,
 ⟨some 7, .call ⟨(.value (.func 94)), #[(.tmp 5),(.tmp 6)], #[26,96]⟩,3,none⟩,
 ⟨some 8, .binOp .geq 3 (.tmp 7) (.const (.int .i64 0)) 3,4,none⟩,
 ⟨some 4, .assign (.tmp 8),4,none⟩])
 .ret)
theorem lz:Tryz.f84.body.map (Am lends)=some k84:=by kernel_rfl
theorem A3D:As Tryz.f84 2=true:=by kernel_rfl
theorem c84{a l:List D}{r:D×List D}(h:Av Y.env k84 (fin AJ l.length [ResultVar.tmp 4] r) (entry a l))(ha:a.length=2):Y.call 84 a l=some r:=
 AC (Y:=Y) rfl Tryz.func84 (ha▸A3D) lz h
theorem GN(s_:List Int)(f:Int→Option Bool)(f_f:FuncId)(f_c:List D)(f_h: ∀(a0:Int) (r:Bool),f a0=some r→Y.call f_f (D.int .i64 a0::f_c) []=some (D.bool r,[]))(f_l:lends f_f=false){r:Bool}(h:B6 s_ f=some r):Y.call 84 [D.sl 3 (A9 (D.int .i64) s_),D.clo f_f f_c] []=some (D.bool r,[]):=by
 refine c84 ?_ rfl
 unfold k84
 unfold B6 at h
 obtain⟨BB,hl1,h⟩:=AL h
 try dsimp only at h
 have c1:=d9 s_ f f_f f_c f_h f_l hl1
 cases h
 simp (maxDischargeDepth:=9) only [↓A8,A1,Ap,A6,AA,↓reduceIte,Nat.reduceEqDiff,Nat.reduceLT,Nat.reduceAdd,c1]
noncomputable def GO(n_ c0_ c1_:Int):Option (Bool):=
 some (!(EB n_ c0_ c1_))
def k85:SC:=
 .seq
 (.ops [
 ⟨some 4, .assign (.const (.bool false)),4,none⟩])
 (.seq
 (.ops [
 ⟨some 5, .move (.tmp 0),3,none⟩,
 ⟨some 6, .load 3 (.tmp 1),3,none⟩,
 ⟨some 7, .load 3 (.tmp 2),3,none⟩,
 ⟨some 8, .call ⟨(.value (.func 60)), #[(.tmp 5),(.tmp 6),(.tmp 7)], #[3,3,3]⟩,4,none⟩,
 ⟨some 9, .unOp .not 4 (.tmp 8),4,none⟩,
 ⟨some 4, .assign (.tmp 9),4,none⟩])
 .ret)
theorem mA:Tryz.f85.body.map (Am lends)=some k85:=by kernel_rfl
theorem A3F:As Tryz.f85 3=true:=by kernel_rfl
theorem c85{a l:List D}{r:D×List D}(h:Av Y.env k85 (fin AJ l.length [ResultVar.tmp 4] r) (entry a l))(ha:a.length=3):Y.call 85 a l=some r:=
 AC (Y:=Y) rfl Tryz.func85 (ha▸A3F) mA h
theorem M2(n_ c0_ c1_:Int){r:Bool}(h:GO n_ c0_ c1_=some r):Y.call 85 [D.int .i64 n_,D.cptr [D.int .i64 c0_],D.cptr [D.int .i64 c1_]] []=some (D.bool r,[]):=by
 refine c85 ?_ rfl
 unfold k85
 unfold GO at h
 have c1:=FT n_ c0_ c1_
 cases h
 simp (maxDischargeDepth:=9) only [↓A8,A1,Ap,A6,AA,↓reduceIte,Nat.reduceEqDiff,Nat.reduceLT,Nat.reduceAdd,c1]
noncomputable def It(list:List Int)(low high:Int):Option (Bool):=
 (B6 list (fun a0=>GO a0 low high)).bind fun BB=>
 some (!BB)
def k73:SC:=
 .seq
 (.ops [
 ⟨some 4, .box 3 (.tmp 1),0,none⟩,
 ⟨some 5, .box 3 (.tmp 2),0,none⟩,
 ⟨some 6, .assign (.const (.bool false)),4,none⟩])
 (.seq
 (.ops [
 ⟨some 7, .move (.tmp 0),26,none⟩,
 ⟨some 8, .makeFunc (Fn.func 85) #[] #[(.tmp 4),(.tmp 5)],96,none⟩,
 ⟨some 9, .call ⟨(.value (.func 84)), #[(.tmp 7),(.tmp 8)], #[26,96]⟩,4,none⟩,
 ⟨some 10, .unOp .not 4 (.tmp 9),4,none⟩,
 ⟨some 6, .assign (.tmp 10),4,none⟩])
 .ret)
theorem mB:Tryz.f73.body.map (Am lends)=some k73:=by kernel_rfl
theorem A3H:As Tryz.f73 3=true:=by kernel_rfl
theorem c73{a l:List D}{r:D×List D}(h:Av Y.env k73 (fin AJ l.length [ResultVar.tmp 6] r) (entry a l))(ha:a.length=3):Y.call 73 a l=some r:=
 AC (Y:=Y) rfl Tryz.func73 (ha▸A3H) mB h
theorem Nr(list:List Int)(low high:Int){r:Bool}(h:It list low high=some r):Y.call 73 [D.sl 3 (A9 (D.int .i64) list),D.int .i64 low,D.int .i64 high] []=some (D.bool r,[]):=by
 refine c73 ?_ rfl
 unfold k73
 unfold It at h
 obtain⟨BB,hl1,h⟩:=AL h
 try dsimp only at h
 have c1:=GN list (fun a0=>GO a0 low high) 85 [D.cptr [D.int .i64 low],D.cptr [D.int .i64 high]] (fun a0 _ hh=>M2 a0 low high hh) lZ hl1
 cases h
 simp (maxDischargeDepth:=9) only [↓A8,A1,Ap,A6,AA,↓reduceIte,Nat.reduceEqDiff,Nat.reduceLT,Nat.reduceAdd,c1]
theorem Tn(l:List Int)(f:Int→Option Bool)(p:Int→Bool)(h:l.length<1099511627776)(hf: ∀x∈l,f x=some (p x)):
  ∃r,xP l f=some r∧(0≤r↔l.any p=true):=by
 unfold xP Tl
 by_cases ha: ∀i,i<l.length→(!p (l.getD i default))=true
 ·have key:=CD (fun v=>Gy l f v) (fun i=>(i:Int)) l.length (.inr ()) ?_ ?_
  ·simp only [Int.natCast_zero]at key
   rw [key]
   refine⟨-1,rfl,by simp,fun hc=> ?_⟩
   obtain⟨x,hx,hpx⟩:=List.any_eq_true.1 hc
   obtain⟨i,hi,rfl⟩:=List.getElem_of_mem hx
   have:=ha i hi
   rw [Ar _ _ hi,hpx]at this;cases this
  ·intro i hi
   simp only [Gy]
   have e:=ha i hi
   rw [Ar _ _ hi]at e
   rw [if_pos (Ak hi),Ac (BS hi),D4 _ _ hi,hf _ (List.getElem_mem hi),Option.bind_some,if_neg (by cases hp:p l[i]<;>simp_all),Gm i (by omega)]
  ·simp only [Gy];rw [if_neg (AH _)]
 ·obtain⟨m,h1,h2,h3⟩:=Ly (P:=fun i=> !p (l.getD i default)) ha
  have key:=CD (fun v=>Gy l f v) (fun i=>(i:Int)) m (.inl (m:Int)) ?_ ?_
  ·simp only [Int.natCast_zero]at key
   rw [key]
   refine⟨(m:Int),rfl,fun _=> ?_,fun _=>by omega⟩
   have h2':p l[m]=true:=by rw [Ar _ _ h1]at h2;simpa using h2
   exact List.any_eq_true.2 ⟨_,List.getElem_mem h1,h2'⟩
  ·intro i hi
   simp only [Gy]
   have e:=h3 i hi
   rw [Ar _ _ (by omega)]at e
   rw [if_pos (Ak (by omega)),Ac (BS (by omega)),D4 _ _ (by omega),hf _ (List.getElem_mem _),Option.bind_some,if_neg (by cases hp:p l[i]<;>simp_all),Gm i (by omega)]
  ·simp only [Gy]
   have h2':p l[m]=true:=by rw [Ar _ _ h1]at h2;simpa using h2
   rw [if_pos (Ak h1),Ac (BS h1),D4 _ _ h1,hf _ (List.getElem_mem _),Option.bind_some,if_pos h2']
theorem Oj(l:List Int)(f:Int→Option Bool)(p:Int→Bool)(h:l.length<1099511627776)(hf: ∀x∈l,f x=some (p x)):B6 l f=some (l.any p):=by
 obtain⟨r,h1,h2⟩:=Tn l f p h hf
 unfold B6
 rw [h1,Option.bind_some]
 congr 1
 rw [Bool.eq_iff_iff];simpa using h2
theorem QQ(l:List Int)(lo hi:Int)(h:l.length<1099511627776):It l lo hi=some (CV l lo hi):=by
 unfold It
 rw [Oj l (fun a0=>GO a0 lo hi) (fun x=> !EB x lo hi) h (fun x _=>rfl),Option.bind_some]
 unfold CV
 rw [List.all_eq_not_any_not]
theorem Kv(list:List Int)(low high:Int)(h0:list.length<1099511627776):Y.call 73 [D.sl 3 (A9 (D.int .i64) list),D.int .i64 low,D.int .i64 high] []=some (D.bool (CV list low high),[]):=Nr list low high (QQ list low high h0)
noncomputable def By(x_:Int):Option (Bool):=
 some false
def k93:SC:=
 .seq
 (.ops [
 ⟨some 2, .assign (.const (.bool false)),4,none⟩])
 (.seq
 (.ops [
 ⟨some 3, .move (.tmp 0),3,none⟩,
 ⟨some 4, .move (.tmp 0),3,none⟩,
 ⟨some 5, .binOp .neq 3 (.tmp 3) (.tmp 4) 3,4,none⟩,
 ⟨some 2, .assign (.tmp 5),4,none⟩])
 .ret)
theorem mC:Tryz.f93.body.map (Am lends)=some k93:=by kernel_rfl
theorem A3J:As Tryz.f93 1=true:=by kernel_rfl
theorem c93{a l:List D}{r:D×List D}(h:Av Y.env k93 (fin AJ l.length [ResultVar.tmp 2] r) (entry a l))(ha:a.length=1):Y.call 93 a l=some r:=
 AC (Y:=Y) rfl Tryz.func93 (ha▸A3J) mC h
theorem D5(x_:Int){r:Bool}(h:By x_=some r):Y.call 93 [D.int .i64 x_] []=some (D.bool r,[]):=by
 refine c93 ?_ rfl
 unfold k93
 unfold By at h
 cases h
 simp (maxDischargeDepth:=9) only [↓A8,A1,A6,AA,↓reduceIte,Nat.reduceEqDiff,Nat.reduceLT]
noncomputable def FU(x_ y:Int):Option (Bool):=
 (By x_).bind fun BB=>
 if BB=true then
  (By y).bind fun FF=>
  if FF=true then
   some (decide (x_<y))
  else
   some true
 else
  some (decide (x_<y))
def k83:SC:=
 .seq
 (.ops [
 ⟨some 4, .assign (.const (.bool false)),4,none⟩])
 (.seq
 (.ops [
 ⟨some 5, .move (.tmp 0),3,none⟩,
 ⟨some 6, .call ⟨(.value (.func 93)), #[(.tmp 5)], #[3]⟩,4,none⟩,
 ⟨some 7, .move (.tmp 6),4,none⟩,
 ⟨some 8, .move (.tmp 1),3,(some (some 7,true))⟩,
 ⟨some 9, .call ⟨(.value (.func 93)), #[(.tmp 8)], #[3]⟩,4,(some (some 7,true))⟩,
 ⟨some 10, .unOp .not 4 (.tmp 9),4,(some (some 7,true))⟩,
 ⟨some 11, .pick (.tmp 7) (.tmp 10) (.const (.bool false)),4,none⟩,
 ⟨some 12, .move (.tmp 11),4,none⟩,
 ⟨some 13, .move (.tmp 0),3,(some (some 12,false))⟩,
 ⟨some 14, .move (.tmp 1),3,(some (some 12,false))⟩,
 ⟨some 15, .binOp .lss 3 (.tmp 13) (.tmp 14) 3,4,(some (some 12,false))⟩,
 ⟨some 16, .pick (.tmp 12) (.const (.bool true)) (.tmp 15),4,none⟩,
 ⟨some 4, .assign (.tmp 16),4,none⟩])
 .ret)
theorem mD:Tryz.f83.body.map (Am lends)=some k83:=by kernel_rfl
theorem A3L:As Tryz.f83 2=true:=by kernel_rfl
theorem c83{a l:List D}{r:D×List D}(h:Av Y.env k83 (fin AJ l.length [ResultVar.tmp 4] r) (entry a l))(ha:a.length=2):Y.call 83 a l=some r:=
 AC (Y:=Y) rfl Tryz.func83 (ha▸A3L) mD h
theorem LZ(x_ y:Int){r:Bool}(h:FU x_ y=some r):Y.call 83 [D.int .i64 x_,D.int .i64 y] []=some (D.bool r,[]):=by
 refine c83 ?_ rfl
 unfold k83
 unfold FU at h
 obtain⟨BB,hl1,h⟩:=AL h
 try dsimp only at h
 have c1:=D5 x_ hl1
 by_cases e2:BB=true
 ·rw [if_pos e2]at h
  obtain⟨FF,hl3,h⟩:=AL h
  try dsimp only at h
  have c3:=D5 y hl3
  by_cases e4:FF=true
  ·rw [if_pos e4]at h
   cases h
   simp (maxDischargeDepth:=9) only [↓A8,A1,Ap,A6,AA,↓reduceIte,Nat.reduceEqDiff,Nat.reduceLT,Nat.reduceAdd,c1,e2,c3,e4]
  ·rw [if_neg e4]at h
   have e4f:FF=false:=Bool.eq_false_iff.mpr e4
   cases h
   simp (maxDischargeDepth:=9) only [↓A8,A1,Ap,A6,AA,↓reduceIte,Nat.reduceEqDiff,Nat.reduceLT,Nat.reduceAdd,c1,e2,c3,e4f]
 ·rw [if_neg e2]at h
  have e2f:BB=false:=Bool.eq_false_iff.mpr e2
  cases h
  simp (maxDischargeDepth:=9) only [↓A8,A1,Ap,A6,AA,↓reduceIte,Nat.reduceEqDiff,Nat.reduceLT,Nat.reduceAdd,c1,e2f]
noncomputable def IQ(x_:List Int)(i:Int):Option ((Int)⊕(Unit⊕Unit)):=
 if 0<i then
  ck (0≤i∧i.toNat<x_.length)<|
  ck (0≤IntKind.i64.wrap (i-1)∧(IntKind.i64.wrap (i-1)).toNat<x_.length)<|
  (FU (x_.getD i.toNat default) (x_.getD ((IntKind.i64.wrap (i-1)).toNat) default)).bind fun EV=>
  if EV=true then
   some (Sum.inr (Sum.inl ()))
  else
   some (Sum.inl (IntKind.i64.wrap (i-1)))
 else
  some (Sum.inr (Sum.inr ()))
noncomputable def To(x_:List Int)(v:Int):Option (Unit⊕Unit):=DT (fun v=>IQ x_ v) v
noncomputable def xr(x_:List Int):Option (Bool):=
 (To x_ (IntKind.i64.wrap ((x_.length:Int)-1))).bind fun Au=>
 match Au with
 | .inl q2_=>
  some false
 | .inr q2_=>
  some true
def Tp:SC:=
 .seq
 (.seq
 (.ops [
 ⟨some 7, .move (.tmp 3),3,none⟩,
 ⟨some 8, .binOp .gtr 3 (.tmp 7) (.const (.int .i64 0)) 3,4,none⟩])
 (.cond (.tmp 8)
 .skip
 (.exit 0)))
 (.seq
 (.block 1
 (.seq
 (.draws [
 (⟨[11,0,0],[11,12,13,14,15,16,17,18,19,20],[11]⟩,⟨some 11, .move (.tmp 0),26,none⟩),
 (⟨[12,3,3],[11,12,13,14,15,16,17,18,19,20],[12]⟩,⟨some 12, .move (.tmp 3),3,none⟩),
 (⟨[13,11,12,0,3],[11,12,13,14,15,16,17,18,19,20],[13]⟩,⟨some 13, .indexAddr 26 (.tmp 11) (.tmp 12),0,none⟩),
 (⟨[14,13,0],[11,12,13,14,15,16,17,18,19,20],[14]⟩,⟨some 14, .load 3 (.tmp 13),3,none⟩),
 (⟨[15,0,0],[11,12,13,14,15,16,17,18,19,20],[15]⟩,⟨some 15, .move (.tmp 0),26,none⟩),
 (⟨[16,3,3],[11,12,13,14,15,16,17,18,19,20],[16]⟩,⟨some 16, .move (.tmp 3),3,none⟩),
 (⟨[17,16,3],[11,12,13,14,15,16,17,18,19,20],[17]⟩,⟨some 17, .binOp .sub 3 (.tmp 16) (.const (.int .i64 1)) 3,3,none⟩),
 (⟨[18,15,17,0,17],[11,12,13,14,15,16,17,18,19,20],[18]⟩,⟨some 18, .indexAddr 26 (.tmp 15) (.tmp 17),0,none⟩),
 (⟨[19,18,0],[11,12,13,14,15,16,17,18,19,20],[19]⟩,⟨some 19, .load 3 (.tmp 18),3,none⟩),
 (⟨[20,14,19,0,0],[11,12,13,14,15,16,17,18,19,20],[20]⟩,⟨some 20, .call ⟨(.value (.func 83)), #[(.tmp 14),(.tmp 19)], #[3,3]⟩,4,none⟩)])
 (.cond (.tmp 20)
 (.seq
 (.ops [
 ⟨some 2, .assign (.const (.bool false)),4,none⟩])
 .ret)
 .skip)))
 (.ops [
 ⟨some 9, .move (.tmp 3),3,none⟩,
 ⟨some 10, .binOp .sub 3 (.tmp 9) (.const (.int .i64 1)) 3,3,none⟩,
 ⟨some 3, .assign (.tmp 10),3,none⟩]))
def dA:SC:= .loop Tp
def k72:SC:=
 .seq
 (.ops [
 ⟨some 2, .assign (.const (.bool false)),4,none⟩])
 (.seq
 (.seq
 (.ops [
 ⟨some 4, .move (.tmp 0),26,none⟩,
 ⟨some 5, .call ⟨(.builtin .len), #[(.tmp 4)], #[26]⟩,3,none⟩,
 ⟨some 6, .binOp .sub 3 (.tmp 5) (.const (.int .i64 1)) 3,3,none⟩,
 ⟨some 3, .assign (.tmp 6),3,none⟩])
 (.block 0
 dA))
 (.seq
 (.ops [
 ⟨some 2, .assign (.const (.bool true)),4,none⟩])
 .ret))
theorem mE:Tryz.f72.body.map (Am lends)=some k72:=by kernel_rfl
theorem A3N:As Tryz.f72 1=true:=by kernel_rfl
theorem c72{a l:List D}{r:D×List D}(h:Av Y.env k72 (fin AJ l.length [ResultVar.tmp 2] r) (entry a l))(ha:a.length=1):Y.call 72 a l=some r:=
 AC (Y:=Y) rfl Tryz.func72 (ha▸A3N) mE h
def IR(x_:List Int)(i:Int)(s:St):Prop:=s.v 0=D.sl 3 (A9 (D.int .i64) x_)∧s.v 3=D.int .i64 i
def JW(x_:List Int)(r:Unit⊕Unit)(ex:Ex)(s:St):Prop:=match r with
 | .inl q=>ex= .ret∧s.v 2=D.bool false
 | .inr q=>ex= .exit 0
theorem aX(x_:List Int){v:Int}{s:St}{r:Unit⊕Unit}(h:To x_ v=some r)(hM:IR x_ v s):Av Y.env dA (JW x_ r) s:=by
 unfold To at h
 refine Aa (c:=Tp) (fun v=>IQ x_ v) (fun v s=>IR x_ v s) (JW x_) ?_ h hM
 clear h hM s v r
 intro i s o hM h
 unfold IQ at h
 unfold IR at hM
 obtain⟨m0,m1⟩:=hM
 unfold Tp
 by_cases e1:0<i
 ·rw [if_pos e1]at h
  obtain⟨e2,h⟩:=Ae h
  obtain⟨e3,h⟩:=Ae h
  obtain⟨EV,hl4,h⟩:=AL h
  try dsimp only at h
  have c4:=LZ (x_.getD i.toNat default) (x_.getD ((IntKind.i64.wrap (i-1)).toNat) default) hl4
  by_cases e5:EV=true
  ·rw [if_pos e5]at h
   cases h
   simp (maxDischargeDepth:=9) only [↓A8,A1,AE,Ap,A6,AA,↓reduceIte,Nat.reduceEqDiff,Nat.reduceLT,Nat.reduceAdd,m0,m1,e1,e2.1,e2.2,e3.1,e3.2,c4,e5,IR,JW,Ho]
  ·rw [if_neg e5]at h
   have e5f:EV=false:=Bool.eq_false_iff.mpr e5
   cases h
   simp (maxDischargeDepth:=9) only [↓A8,A1,AE,Ap,A6,AA,↓reduceIte,Nat.reduceEqDiff,Nat.reduceLT,Nat.reduceAdd,m0,m1,e1,e2.1,e2.2,e3.1,e3.2,c4,e5f,IR,Ei]
 ·rw [if_neg e1]at h
  cases h
  simp (maxDischargeDepth:=9) only [↓A8,A1,AA,↓reduceIte,Nat.reduceLT,m1,e1,IR,JW,Ge]
theorem dB(x_:List Int){r:Bool}(h:xr x_=some r):Y.call 72 [D.sl 3 (A9 (D.int .i64) x_)] []=some (D.bool r,[]):=by
 refine c72 ?_ rfl
 unfold k72
 unfold xr at h
 obtain⟨Au,hl2,h⟩:=AL h
 try dsimp only at h
 simp (maxDischargeDepth:=9) only [↓A8,A1,AE,A6,AA,↓reduceIte,Nat.reduceEqDiff,Nat.reduceLT]
 refine AP (aX x_ hl2 ?_) ?_
 ·simp (maxDischargeDepth:=9) only [A1,A6,↓reduceIte,Nat.reduceEqDiff,Nat.reduceLT,IR]
 ·intro ex2 s2 hX2
  rcases Au with q2_ | q2_
  ·unfold JW at hX2
   dsimp only at hX2 h
   obtain⟨rfl,n2_0⟩:=hX2
   cases h
   simp (maxDischargeDepth:=9) only [↓A8,A1,A6,↓reduceIte,n2_0]
  ·unfold JW at hX2
   dsimp only at hX2 h
   obtain rfl:=hX2
   cases h
   simp (maxDischargeDepth:=9) only [↓A8,A1,A6,AA,↓reduceIte,Nat.reduceEqDiff,Nat.reduceLT]
def DU(l:List Int):Bool:=(List.range (l.length-1)).all fun i=>decide (l.getD i default≤l.getD (i+1) default)
theorem mF(l:List Int)(h:l.length<1099511627776):xr l=some (DU l):=by
 unfold xr To
 rw [Gl _ (by omega)]
 rcases Nat.eq_zero_or_pos l.length with h0 | h0
 ·rw [C5 (r:=Sum.inr ())]
  ·simp [DU,h0]
  ·simp only [IQ];rw [if_neg (by omega)]
 ·have key:=CE (fun v=>IQ l v) (fun j=>(l.length:Int)-1-j) (l.length-1) (fun j=>decide (l.getD (l.length-1-j-1) default≤l.getD (l.length-1-j) default)) (.inl ()) (.inr ()) ?_ ?_
  ·simp only [Int.natCast_zero,Int.sub_zero]at key
   rw [key]
   have e:(List.range (l.length-1)).all (fun j=>decide (l.getD (l.length-1-j-1) default≤l.getD (l.length-1-j) default))=DU l:=by
    unfold DU
    rw [Bool.eq_iff_iff,BW,BW]
    constructor
    ·intro hh i hi
     have:=hh (l.length-1-i-1) (by omega)
     rwa [show l.length-1-(l.length-1-i-1)=i+1 by omega,Nat.add_sub_cancel]at this
    ·intro hh i hi
     have:=hh (l.length-1-i-1) (by omega)
     rwa [show l.length-1-i-1+1=l.length-1-i by omega]at this
   rw [e]
   cases DU l<;>rfl
  ·intro i hi
   simp only [IQ]
   rw [if_pos (by omega),Gl _ (by omega)]
   rw [Ac (by omega),Ac (by omega),show((l.length:Int)-1-i).toNat=l.length-1-i by omega,show((l.length:Int)-1-i-1).toNat=l.length-1-i-1 by omega]
   have e:FU (l.getD (l.length-1-i) default) (l.getD (l.length-1-i-1) default)=some (decide (l.getD (l.length-1-i) default<l.getD (l.length-1-i-1) default)):=by
    unfold FU By;by_cases hq:l.getD (l.length-1-i) default<l.getD (l.length-1-i-1) default<;>simp [hq]
   rw [e,Option.bind_some]
   simp only [decide_eq_true_eq]
   by_cases hq:l.getD (l.length-1-i) default<l.getD (l.length-1-i-1) default
   ·rw [if_pos hq,if_neg (by omega)]
   ·rw [if_neg hq,if_pos (by omega),show(l.length:Int)-1-i-1=(l.length:Int)-1-((i+1:Nat):Int) by omega]
  ·simp only [IQ];rw [if_neg (by omega)]
theorem mG(x_:List Int)(h0:x_.length<1099511627776):Y.call 72 [D.sl 3 (A9 (D.int .i64) x_)] []=some (D.bool (DU x_),[]):=dB x_ (mF x_ h0)
def DR:List Int→List Int→Int
 | [],[]=>0
 | [],_::_=> -1
 | _::_,[]=>1
 | x::a,y::b=>if x=y then DR a b else if x<y then-1 else 1
noncomputable def D6(x_ y:Int):Option (Int):=
 (By x_).bind fun BB=>
 (By y).bind fun Au=>
 if BB=true then
  if Au=true then
   some 0
  else
   some (-1)
 else
  if Au=true then
   some 1
  else
   if x_<y then
    some (-1)
   else
    if y<x_ then
     some 1
    else
     some 0
def k86:SC:=
 .seq
 (.ops [
 ⟨some 4, .assign (.const (.int .i64 0)),3,none⟩])
 (.seq
 (.ops [
 ⟨some 7, .move (.tmp 0),3,none⟩,
 ⟨some 8, .call ⟨(.value (.func 93)), #[(.tmp 7)], #[3]⟩,4,none⟩,
 ⟨some 5, .assign (.tmp 8),4,none⟩])
 (.seq
 (.ops [
 ⟨some 9, .move (.tmp 1),3,none⟩,
 ⟨some 10, .call ⟨(.value (.func 93)), #[(.tmp 9)], #[3]⟩,4,none⟩,
 ⟨some 6, .assign (.tmp 10),4,none⟩])
 (.seq
 (.seq
 (.ops [
 ⟨some 11, .move (.tmp 5),4,none⟩])
 (.cond (.tmp 11)
 (.seq
 (.seq
 (.ops [
 ⟨some 12, .move (.tmp 6),4,none⟩])
 (.cond (.tmp 12)
 (.seq
 (.ops [
 ⟨some 4, .assign (.const (.int .i64 0)),3,none⟩])
 .ret)
 .skip))
 (.seq
 (.ops [
 ⟨some 4, .assign (.const (.int .i64 (-1))),3,none⟩])
 .ret))
 .skip))
 (.seq
 (.seq
 (.ops [
 ⟨some 13, .move (.tmp 6),4,none⟩])
 (.cond (.tmp 13)
 (.seq
 (.ops [
 ⟨some 4, .assign (.const (.int .i64 1)),3,none⟩])
 .ret)
 .skip))
 (.seq
 (.seq
 (.ops [
 ⟨some 14, .move (.tmp 0),3,none⟩,
 ⟨some 15, .move (.tmp 1),3,none⟩,
 ⟨some 16, .binOp .lss 3 (.tmp 14) (.tmp 15) 3,4,none⟩])
 (.cond (.tmp 16)
 (.seq
 (.ops [
 ⟨some 4, .assign (.const (.int .i64 (-1))),3,none⟩])
 .ret)
 .skip))
 (.seq
 (.seq
 (.ops [
 ⟨some 17, .move (.tmp 0),3,none⟩,
 ⟨some 18, .move (.tmp 1),3,none⟩,
 ⟨some 19, .binOp .gtr 3 (.tmp 17) (.tmp 18) 3,4,none⟩])
 (.cond (.tmp 19)
 (.seq
 (.ops [
 ⟨some 4, .assign (.const (.int .i64 1)),3,none⟩])
 .ret)
 .skip))
 (.seq
 (.ops [
 ⟨some 4, .assign (.const (.int .i64 0)),3,none⟩])
 .ret)))))))
theorem mH:Tryz.f86.body.map (Am lends)=some k86:=by kernel_rfl
theorem A3P:As Tryz.f86 2=true:=by kernel_rfl
theorem c86{a l:List D}{r:D×List D}(h:Av Y.env k86 (fin AJ l.length [ResultVar.tmp 4] r) (entry a l))(ha:a.length=2):Y.call 86 a l=some r:=
 AC (Y:=Y) rfl Tryz.func86 (ha▸A3P) mH h
theorem K1(x_ y:Int){r:Int}(h:D6 x_ y=some r):Y.call 86 [D.int .i64 x_,D.int .i64 y] []=some (D.int .i64 r,[]):=by
 refine c86 ?_ rfl
 unfold k86
 unfold D6 at h
 obtain⟨BB,hl1,h⟩:=AL h
 try dsimp only at h
 have c1:=D5 x_ hl1
 obtain⟨Au,hl2,h⟩:=AL h
 try dsimp only at h
 have c2:=D5 y hl2
 by_cases e3:BB=true
 ·rw [if_pos e3]at h
  by_cases e4:Au=true
  ·rw [if_pos e4]at h
   cases h
   simp (maxDischargeDepth:=9) only [↓A8,A1,Ap,A6,AA,↓reduceIte,Nat.reduceEqDiff,Nat.reduceLT,Nat.reduceAdd,Int.reduceNeg,c1,c2,e3,e4]
  ·rw [if_neg e4]at h
   have e4f:Au=false:=Bool.eq_false_iff.mpr e4
   cases h
   simp (maxDischargeDepth:=9) only [↓A8,A1,Ap,A6,AA,↓reduceIte,Nat.reduceEqDiff,Nat.reduceLT,Nat.reduceAdd,Int.reduceNeg,c1,c2,e3,e4f]
 ·rw [if_neg e3]at h
  have e3f:BB=false:=Bool.eq_false_iff.mpr e3
  by_cases e4:Au=true
  ·rw [if_pos e4]at h
   cases h
   simp (maxDischargeDepth:=9) only [↓A8,A1,Ap,A6,AA,↓reduceIte,Nat.reduceEqDiff,Nat.reduceLT,Nat.reduceAdd,Int.reduceNeg,c1,c2,e3f,e4]
  ·rw [if_neg e4]at h
   have e4f:Au=false:=Bool.eq_false_iff.mpr e4
   by_cases e5:x_<y
   ·rw [if_pos e5]at h
    cases h
    simp (maxDischargeDepth:=9) only [↓A8,A1,Ap,A6,AA,↓reduceIte,Nat.reduceEqDiff,Nat.reduceLT,Nat.reduceAdd,Int.reduceNeg,c1,c2,e3f,e4f,e5]
   ·rw [if_neg e5]at h
    by_cases e6:y<x_
    ·rw [if_pos e6]at h
     cases h
     simp (maxDischargeDepth:=9) only [↓A8,A1,Ap,A6,AA,↓reduceIte,Nat.reduceEqDiff,Nat.reduceLT,Nat.reduceAdd,Int.reduceNeg,c1,c2,e3f,e4f,e5,e6]
    ·rw [if_neg e6]at h
     cases h
     simp (maxDischargeDepth:=9) only [↓A8,A1,Ap,A6,AA,↓reduceIte,Nat.reduceEqDiff,Nat.reduceLT,Nat.reduceAdd,Int.reduceNeg,c1,c2,e3f,e4f,e5,e6]
noncomputable def IS(s1_ s2_:List Int)(AZ:Int):Option ((Int)⊕(Int⊕Unit)):=
 if AZ<(s1_.length:Int)then
  ck (0≤AZ∧AZ.toNat<s1_.length)<|
  if(s2_.length:Int)≤AZ then
   some (Sum.inr (Sum.inl 1))
  else
   ck (0≤AZ∧AZ.toNat<s2_.length)<|
   (D6 (s1_.getD AZ.toNat default) (s2_.getD AZ.toNat default)).bind fun Gn=>
   if Gn=0 then
    some (Sum.inl (IntKind.i64.wrap (AZ+1)))
   else
    some (Sum.inr (Sum.inl Gn))
 else
  some (Sum.inr (Sum.inr ()))
noncomputable def Kw(s1_ s2_:List Int)(v:Int):Option (Int⊕Unit):=DT (fun v=>IS s1_ s2_ v) v
noncomputable def mI(s1_ s2_:List Int):Option (Int):=
 (Kw s1_ s2_ 0).bind fun Au=>
 match Au with
 | .inl q2_=>
  some q2_
 | .inr q2_=>
  if(s1_.length:Int)<(s2_.length:Int)then
   some (-1)
  else
   some 0
def Tq:SC:=
 .seq
 (.ops [
 ⟨some 12, .binOp .lss 3 (.tmp 11) (.tmp 10) 3,0,none⟩])
 (.seq
 (.cond (.tmp 12)
 .skip
 (.exit 0))
 (.seq
 (.block 1
 (.seq
 (.ops [
 ⟨some 13, .move (.tmp 11),3,none⟩,
 ⟨some 14, .indexAddr 26 (.tmp 9) (.tmp 11),0,none⟩,
 ⟨some 15, .load 3 (.tmp 14),3,none⟩,
 ⟨some 5, .assign (.tmp 13),3,none⟩,
 ⟨some 6, .assign (.tmp 15),3,none⟩])
 (.seq
 (.seq
 (.ops [
 ⟨some 16, .move (.tmp 5),3,none⟩,
 ⟨some 17, .move (.tmp 1),26,none⟩,
 ⟨some 18, .call ⟨(.builtin .len), #[(.tmp 17)], #[26]⟩,3,none⟩,
 ⟨some 19, .binOp .geq 3 (.tmp 16) (.tmp 18) 3,4,none⟩])
 (.cond (.tmp 19)
 (.seq
 (.ops [
 ⟨some 4, .assign (.const (.int .i64 1)),3,none⟩])
 .ret)
 .skip))
 (.seq
 (.ops [
 ⟨some 20, .move (.tmp 1),26,none⟩,
 ⟨some 21, .move (.tmp 5),3,none⟩,
 ⟨some 22, .indexAddr 26 (.tmp 20) (.tmp 21),0,none⟩,
 ⟨some 23, .load 3 (.tmp 22),3,none⟩,
 ⟨some 7, .assign (.tmp 23),3,none⟩])
 (.seq
 (.ops [
 ⟨some 24, .move (.tmp 6),3,none⟩,
 ⟨some 25, .move (.tmp 7),3,none⟩,
 ⟨some 26, .call ⟨(.value (.func 86)), #[(.tmp 24),(.tmp 25)], #[3,3]⟩,3,none⟩,
 ⟨some 8, .assign (.tmp 26),3,none⟩])
 (.seq
 (.ops [
 ⟨some 27, .move (.tmp 8),3,none⟩,
 ⟨some 28, .binOp .neq 3 (.tmp 27) (.const (.int .i64 0)) 3,4,none⟩])
 (.cond (.tmp 28)
 (.seq
 (.ops [
 ⟨some 29, .move (.tmp 8),3,none⟩,
 ⟨some 4, .assign (.tmp 29),3,none⟩])
 .ret)
 .skip)))))))
 (.ops [
 ⟨some 30, .binOp .add 3 (.tmp 11) (.const (.int .i64 1)) 3,3,none⟩,
 ⟨some 11, .move (.tmp 30),3,none⟩])))
def dC:SC:= .loop Tq
def k74:SC:=
 .seq
 (.ops [
 ⟨some 4, .assign (.const (.int .i64 0)),3,none⟩])
 (.seq
 (.seq
 (.ops [
 ⟨some 9, .move (.tmp 0),26,none⟩,
 ⟨some 10, .call ⟨(.builtin .len), #[(.tmp 9)], #[26]⟩,3,none⟩,
 ⟨some 11, .move (.const (.int .i64 0)),3,none⟩])
 (.block 0
 dC))
 (.seq
 (.seq
 (.ops [
 ⟨some 31, .move (.tmp 0),26,none⟩,
 ⟨some 32, .call ⟨(.builtin .len), #[(.tmp 31)], #[26]⟩,3,none⟩,
 ⟨some 33, .move (.tmp 1),26,none⟩,
 ⟨some 34, .call ⟨(.builtin .len), #[(.tmp 33)], #[26]⟩,3,none⟩,
 ⟨some 35, .binOp .lss 3 (.tmp 32) (.tmp 34) 3,4,none⟩])
 (.cond (.tmp 35)
 (.seq
 (.ops [
 ⟨some 4, .assign (.const (.int .i64 (-1))),3,none⟩])
 .ret)
 .skip))
 (.seq
 (.ops [
 ⟨some 4, .assign (.const (.int .i64 0)),3,none⟩])
 .ret)))
theorem mJ:Tryz.f74.body.map (Am lends)=some k74:=by kernel_rfl
theorem A3R:As Tryz.f74 2=true:=by kernel_rfl
theorem c74{a l:List D}{r:D×List D}(h:Av Y.env k74 (fin AJ l.length [ResultVar.tmp 4] r) (entry a l))(ha:a.length=2):Y.call 74 a l=some r:=
 AC (Y:=Y) rfl Tryz.func74 (ha▸A3R) mJ h
def Hb(s1_ s2_:List Int)(AZ:Int)(s:St):Prop:=s.v 0=D.sl 3 (A9 (D.int .i64) s1_)∧s.v 1=D.sl 3 (A9 (D.int .i64) s2_)∧s.v 9=D.sl 3 (A9 (D.int .i64) s1_)∧s.v 10=D.int .i64 (s1_.length:Int)∧s.v 11=D.int .i64 AZ
def IT(s1_ s2_:List Int)(r:Int⊕Unit)(ex:Ex)(s:St):Prop:=match r with
 | .inl q=>ex= .ret∧s.v 4=D.int .i64 q
 | .inr q=>ex= .exit 0∧s.v 0=D.sl 3 (A9 (D.int .i64) s1_)∧s.v 1=D.sl 3 (A9 (D.int .i64) s2_)
theorem aY(s1_ s2_:List Int){v:Int}{s:St}{r:Int⊕Unit}(h:Kw s1_ s2_ v=some r)(hM:Hb s1_ s2_ v s):Av Y.env dC (IT s1_ s2_ r) s:=by
 unfold Kw at h
 refine Aa (c:=Tq) (fun v=>IS s1_ s2_ v) (fun v s=>Hb s1_ s2_ v s) (IT s1_ s2_) ?_ h hM
 clear h hM s v r
 intro AZ s o hM h
 unfold IS at h
 unfold Hb at hM
 obtain⟨m0,m1,m2,m3,m4⟩:=hM
 unfold Tq
 by_cases e1:AZ<(s1_.length:Int)
 ·rw [if_pos e1]at h
  obtain⟨e2,h⟩:=Ae h
  by_cases e3:(s2_.length:Int)≤AZ
  ·rw [if_pos e3]at h
   cases h
   simp (maxDischargeDepth:=9) only [↓A8,A1,AE,A6,AA,↓reduceIte,Nat.reduceEqDiff,Nat.reduceLT,m1,m2,m3,m4,e1,e2.1,e2.2,e3,Hb,IT,Ho]
  ·rw [if_neg e3]at h
   obtain⟨e4,h⟩:=Ae h
   obtain⟨Gn,hl5,h⟩:=AL h
   try dsimp only at h
   have c5:=K1 (s1_.getD AZ.toNat default) (s2_.getD AZ.toNat default) hl5
   by_cases e6:Gn=0
   ·rw [if_pos e6]at h
    cases h
    simp (maxDischargeDepth:=9) only [↓A8,A1,AE,Ap,A6,AA,↓reduceIte,Nat.reduceEqDiff,Nat.reduceLT,Nat.reduceAdd,m0,m1,m2,m3,m4,e1,e2.1,e2.2,e3,e4.2,c5,decide_eq_true e6,Hb,Ei]
   ·rw [if_neg e6]at h
    cases h
    simp (maxDischargeDepth:=9) only [↓A8,A1,AE,Ap,A6,AA,↓reduceIte,Nat.reduceEqDiff,Nat.reduceLT,Nat.reduceAdd,m1,m2,m3,m4,e1,e2.1,e2.2,e3,e4.2,c5,e6,Hb,IT,Ho]
 ·rw [if_neg e1]at h
  cases h
  simp (maxDischargeDepth:=9) only [↓A8,A1,AA,↓reduceIte,Nat.reduceEqDiff,Nat.reduceLT,m0,m1,m3,m4,e1,Hb,IT,Ge]
theorem Wk(s1_ s2_:List Int){r:Int}(h:mI s1_ s2_=some r):Y.call 74 [D.sl 3 (A9 (D.int .i64) s1_),D.sl 3 (A9 (D.int .i64) s2_)] []=some (D.int .i64 r,[]):=by
 refine c74 ?_ rfl
 unfold k74
 unfold mI at h
 obtain⟨Au,hl2,h⟩:=AL h
 try dsimp only at h
 simp (maxDischargeDepth:=9) only [↓A8,A1,AE,A6,AA,↓reduceIte,Nat.reduceEqDiff,Nat.reduceLT,Int.reduceNeg]
 refine AP (aY s1_ s2_ hl2 ?_) ?_
 ·simp (maxDischargeDepth:=9) only [A1,A6,↓reduceIte,Nat.reduceEqDiff,Nat.reduceLT,Hb]
 ·intro ex2 s2 hX2
  rcases Au with q2_ | q2_
  ·unfold IT at hX2
   dsimp only at hX2 h
   obtain⟨rfl,n2_0⟩:=hX2
   cases h
   simp (maxDischargeDepth:=9) only [↓A8,A1,A6,↓reduceIte,n2_0]
  ·unfold IT at hX2
   dsimp only at hX2 h
   obtain⟨rfl,n2_0,n2_1⟩:=hX2
   by_cases e3:(s1_.length:Int)<(s2_.length:Int)
   ·rw [if_pos e3]at h
    cases h
    simp (maxDischargeDepth:=9) only [↓A8,A1,AE,A6,AA,↓reduceIte,Nat.reduceEqDiff,Nat.reduceLT,Int.reduceNeg,n2_0,n2_1,e3]
   ·rw [if_neg e3]at h
    cases h
    simp (maxDischargeDepth:=9) only [↓A8,A1,AE,A6,AA,↓reduceIte,Nat.reduceEqDiff,Nat.reduceLT,Int.reduceNeg,n2_0,n2_1,e3]
theorem Ns(x y:Int):D6 x y=some (if x<y then-1 else if y<x then 1 else 0):=by
 unfold D6 By
 by_cases h1:x<y<;>by_cases h2:y<x<;>simp [h1,h2]
theorem Rb: ∀(a b p q:List Int),p.length=q.length→p.length+a.length<1099511627776→q.length+b.length<1099511627776→
  (Kw (p++a) (q++b) (p.length:Int)).bind (fun r=>match r with | .inl q2=>some q2 | .inr _=>if((p++a).length:Int)<((q++b).length:Int)then some (-1)else some 0)=some (DR a b):=by
 intro a
 induction a with
 | nil=>
  intro b p q hpq ha hb
  unfold Kw
  rw [C5 (r:=Sum.inr ())]
  ·simp only [Option.bind_some,List.append_nil,List.length_append,hpq]
   cases b with
   | nil=>rw [if_neg (by simp)];rfl
   | cons y b=>rw [if_pos (by simp;omega)];rfl
  ·simp only [IS];rw [if_neg (LQ _)]
 | cons x a ih=>
  intro b p q hpq ha hb
  simp only [List.length_cons]at ha hb
  have ex:(p++x::a).getD (p.length:Int).toNat default=x:=by rw [Int.toNat_natCast];exact CA p (x::a) p.length rfl (by simp)
  cases b with
  | nil=>
   unfold Kw
   rw [C5 (r:=Sum.inl 1)]
   ·rfl
   ·simp only [IS]
    rw [if_pos (Kr ..),Ac (Ks ..),if_pos (by simp;omega)]
  | cons y b=>
   simp only [List.length_cons]at hb
   have ey:(q++y::b).getD (p.length:Int).toNat default=y:=by rw [Int.toNat_natCast,hpq];exact CA q (y::b) q.length rfl (by simp)
   have step:IS (p++x::a) (q++y::b) (p.length:Int)=if x=y then some (.inl (((p++[x]).length:Nat):Int))else some (.inr (.inl (if x<y then-1 else 1))):=by
    unfold IS
    rw [if_pos (Kr ..),Ac (Ks ..),if_neg (by simp;omega),Ac (by simp;omega),ex,ey,Ns,Option.bind_some,Gm _ (by omega)]
    by_cases h1:x=y
    ·subst h1;simp
    ·rw [if_neg h1]
     by_cases h2:x<y
     ·simp [h2]
     ·have h3:y<x:=by omega
      simp [h2,h3]
   unfold DR
   by_cases h1:x=y
   ·rw [if_pos h1]
    rw [if_pos h1]at step
    have:=ih b (p++[x]) (q++[y]) (by simp [hpq]) (by simp;omega) (by simp;omega)
    unfold Kw at this ⊢
    rw [GU step]
    simpa using this
   ·rw [if_neg h1]
    rw [if_neg h1]at step
    unfold Kw
    rw [C5 step];rfl
theorem dD(a b:List Int)(ha:a.length<1099511627776)(hb:b.length<1099511627776):mI a b=some (DR a b):=by
 have:=Rb a b [] [] rfl (by simpa using ha) (by simpa using hb)
 unfold mI
 simp only [List.nil_append,List.length_nil,Int.natCast_zero]at this
 exact this
theorem mK(s1_ s2_:List Int)(h0:s1_.length<1099511627776)(h1:s2_.length<1099511627776):Y.call 74 [D.sl 3 (A9 (D.int .i64) s1_),D.sl 3 (A9 (D.int .i64) s2_)] []=some (D.int .i64 (DR s1_ s2_),[]):=Wk s1_ s2_ (dD s1_ s2_ h0 h1)
noncomputable def Kx(n_:Int):Option (Int):=
 if 0<n_ then
  some 1
 else
  if n_<0 then
   some (-1)
  else
   some 0
def k81:SC:=
 .seq
 (.ops [
 ⟨some 2, .assign (.const (.int .i64 0)),3,none⟩])
 (.seq
 (.block 0
 (.seq
 (.ops [
 ⟨some 4, .move (.tmp 0),3,none⟩,
 ⟨some 5, .binOp .gtr 3 (.tmp 4) (.const (.int .i64 0)) 3,4,none⟩,
 ⟨some 3, .assign (.tmp 5),4,none⟩])
 (.cond (.tmp 3)
 (.seq
 (.ops [
 ⟨some 2, .assign (.const (.int .i64 1)),3,none⟩])
 .ret)
 (.seq
 (.ops [
 ⟨some 7, .move (.tmp 0),3,none⟩,
 ⟨some 8, .binOp .lss 3 (.tmp 7) (.const (.int .i64 0)) 3,4,none⟩,
 ⟨some 6, .assign (.tmp 8),4,none⟩])
 (.cond (.tmp 6)
 (.seq
 (.ops [
 ⟨some 2, .assign (.const (.int .i64 (-1))),3,none⟩])
 .ret)
 .skip)))))
 (.seq
 (.ops [
 ⟨some 2, .assign (.const (.int .i64 0)),3,none⟩])
 .ret))
theorem mL:Tryz.f81.body.map (Am lends)=some k81:=by kernel_rfl
theorem A3T:As Tryz.f81 1=true:=by kernel_rfl
theorem c81{a l:List D}{r:D×List D}(h:Av Y.env k81 (fin AJ l.length [ResultVar.tmp 2] r) (entry a l))(ha:a.length=1):Y.call 81 a l=some r:=
 AC (Y:=Y) rfl Tryz.func81 (ha▸A3T) mL h
theorem Rc(n_:Int){r:Int}(h:Kx n_=some r):Y.call 81 [D.int .i64 n_] []=some (D.int .i64 r,[]):=by
 refine c81 ?_ rfl
 unfold k81
 unfold Kx at h
 by_cases e1:0<n_
 ·rw [if_pos e1]at h
  cases h
  simp (maxDischargeDepth:=9) only [↓A8,A1,A6,AA,↓reduceIte,Nat.reduceEqDiff,Nat.reduceLT,Int.reduceNeg,e1]
 ·rw [if_neg e1]at h
  by_cases e2:n_<0
  ·rw [if_pos e2]at h
   cases h
   simp (maxDischargeDepth:=9) only [↓A8,A1,A6,AA,↓reduceIte,Nat.reduceEqDiff,Nat.reduceLT,Int.reduceNeg,e1,e2]
  ·rw [if_neg e2]at h
   cases h
   simp (maxDischargeDepth:=9) only [↓A8,A1,A6,AA,↓reduceIte,Nat.reduceEqDiff,Nat.reduceLT,Int.reduceNeg,e1,e2]
noncomputable def Dp(a b:List Int)(GY:Int):Option ((Int)⊕(Int⊕Unit)):=
 if GY<(a.length:Int)then
  ck (0≤GY∧GY.toNat<a.length)<|
  ck (0≤GY∧GY.toNat<b.length)<|
  if(a.getD GY.toNat default)=(b.getD GY.toNat default)then
   some (Sum.inl (IntKind.i64.wrap (GY+1)))
  else
   (Kx (IntKind.i64.wrap ((a.getD GY.toNat default)-(b.getD GY.toNat default)))).bind fun Gn=>
   some (Sum.inr (Sum.inl Gn))
 else
  some (Sum.inr (Sum.inr ()))
noncomputable def EI(a b:List Int)(v:Int):Option (Int⊕Unit):=DT (fun v=>Dp a b v) v
noncomputable def LR(a b:List Int):Option (Int):=
 (EI a b 0).bind fun Au=>
 match Au with
 | .inl q2_=>
  some q2_
 | .inr q2_=>
  some 0
def Tr:SC:=
 .seq
 (.ops [
 ⟨some 10, .binOp .lss 3 (.tmp 9) (.tmp 8) 3,0,none⟩])
 (.seq
 (.cond (.tmp 10)
 .skip
 (.exit 0))
 (.seq
 (.block 1
 (.seq
 (.ops [
 ⟨some 11, .move (.tmp 9),3,none⟩,
 ⟨some 12, .indexAddr 26 (.tmp 7) (.tmp 9),0,none⟩,
 ⟨some 13, .load 3 (.tmp 12),3,none⟩,
 ⟨some 5, .assign (.tmp 11),3,none⟩,
 ⟨some 6, .assign (.tmp 13),3,none⟩])
 (.seq
 (.ops [
 ⟨some 14, .move (.tmp 6),3,none⟩,
 ⟨some 15, .move (.tmp 1),26,none⟩,
 ⟨some 16, .move (.tmp 5),3,none⟩,
 ⟨some 17, .indexAddr 26 (.tmp 15) (.tmp 16),0,none⟩,
 ⟨some 18, .load 3 (.tmp 17),3,none⟩,
 ⟨some 19, .binOp .neq 3 (.tmp 14) (.tmp 18) 3,4,none⟩])
 (.cond (.tmp 19)
 (.seq
 (.ops [
 ⟨some 20, .move (.tmp 6),3,none⟩,
 ⟨some 21, .move (.tmp 1),26,none⟩,
 ⟨some 22, .move (.tmp 5),3,none⟩,
 ⟨some 23, .indexAddr 26 (.tmp 21) (.tmp 22),0,none⟩,
 ⟨some 24, .load 3 (.tmp 23),3,none⟩,
 ⟨some 25, .binOp .sub 3 (.tmp 20) (.tmp 24) 3,3,none⟩,
 ⟨some 26, .call ⟨(.value (.func 81)), #[(.tmp 25)], #[3]⟩,3,none⟩,
 ⟨some 4, .assign (.tmp 26),3,none⟩])
 .ret)
 .skip))))
 (.ops [
 ⟨some 27, .binOp .add 3 (.tmp 9) (.const (.int .i64 1)) 3,3,none⟩,
 ⟨some 9, .move (.tmp 27),3,none⟩])))
def dE:SC:= .loop Tr
def k68:SC:=
 .seq
 (.ops [
 ⟨some 4, .assign (.const (.int .i64 0)),3,none⟩])
 (.seq
 (.seq
 (.ops [
 ⟨some 7, .move (.tmp 0),26,none⟩,
 ⟨some 8, .call ⟨(.builtin .len), #[(.tmp 7)], #[26]⟩,3,none⟩,
 ⟨some 9, .move (.const (.int .i64 0)),3,none⟩])
 (.block 0
 dE))
 (.seq
 (.ops [
 ⟨some 4, .assign (.const (.int .i64 0)),3,none⟩])
 .ret))
theorem mM:Tryz.f68.body.map (Am lends)=some k68:=by kernel_rfl
theorem A3V:As Tryz.f68 2=true:=by kernel_rfl
theorem c68{a l:List D}{r:D×List D}(h:Av Y.env k68 (fin AJ l.length [ResultVar.tmp 4] r) (entry a l))(ha:a.length=2):Y.call 68 a l=some r:=
 AC (Y:=Y) rfl Tryz.func68 (ha▸A3V) mM h
def Ch(a b:List Int)(GY:Int)(s:St):Prop:=s.v 1=D.sl 3 (A9 (D.int .i64) b)∧s.v 7=D.sl 3 (A9 (D.int .i64) a)∧s.v 8=D.int .i64 (a.length:Int)∧s.v 9=D.int .i64 GY
def Dq(a b:List Int)(r:Int⊕Unit)(ex:Ex)(s:St):Prop:=match r with
 | .inl q=>ex= .ret∧s.v 4=D.int .i64 q
 | .inr q=>ex= .exit 0
theorem Ol(a b:List Int){v:Int}{s:St}{r:Int⊕Unit}(h:EI a b v=some r)(hM:Ch a b v s):Av Y.env dE (Dq a b r) s:=by
 unfold EI at h
 refine Aa (c:=Tr) (fun v=>Dp a b v) (fun v s=>Ch a b v s) (Dq a b) ?_ h hM
 clear h hM s v r
 intro GY s o hM h
 unfold Dp at h
 unfold Ch at hM
 obtain⟨m0,m1,m2,m3⟩:=hM
 unfold Tr
 by_cases e1:GY<(a.length:Int)
 ·rw [if_pos e1]at h
  obtain⟨e2,h⟩:=Ae h
  obtain⟨e3,h⟩:=Ae h
  by_cases e4:(a.getD GY.toNat default)=(b.getD GY.toNat default)
  ·rw [if_pos e4]at h
   cases h
   simp (maxDischargeDepth:=9) only [↓A8,A1,AE,A6,AA,↓reduceIte,Nat.reduceEqDiff,Nat.reduceLT,m0,m1,m2,m3,e1,e2.1,e2.2,e3.2,decide_eq_true e4,Ch,Ei]
  ·rw [if_neg e4]at h
   obtain⟨Gn,hl5,h⟩:=AL h
   try dsimp only at h
   have c5:=Rc (IntKind.i64.wrap ((a.getD GY.toNat default)-(b.getD GY.toNat default))) hl5
   cases h
   simp (maxDischargeDepth:=9) only [↓A8,A1,AE,Ap,A6,AA,↓reduceIte,Nat.reduceEqDiff,Nat.reduceLT,Nat.reduceAdd,m0,m1,m2,m3,e1,e2.1,e2.2,e3.2,e4,c5,Ch,Dq,Ho]
 ·rw [if_neg e1]at h
  cases h
  simp (maxDischargeDepth:=9) only [↓A8,A1,AA,↓reduceIte,Nat.reduceLT,m2,m3,e1,Ch,Dq,Ge]
theorem QR(a b:List Int){r:Int}(h:LR a b=some r):Y.call 68 [D.sl 3 (A9 (D.int .i64) a),D.sl 3 (A9 (D.int .i64) b)] []=some (D.int .i64 r,[]):=by
 refine c68 ?_ rfl
 unfold k68
 unfold LR at h
 obtain⟨Au,hl2,h⟩:=AL h
 try dsimp only at h
 simp (maxDischargeDepth:=9) only [↓A8,A1,AE,A6,AA,↓reduceIte,Nat.reduceEqDiff,Nat.reduceLT]
 refine AP (Ol a b hl2 ?_) ?_
 ·simp (maxDischargeDepth:=9) only [A1,A6,↓reduceIte,Nat.reduceEqDiff,Nat.reduceLT,Ch]
 ·intro ex2 s2 hX2
  rcases Au with q2_ | q2_
  ·unfold Dq at hX2
   dsimp only at hX2 h
   obtain⟨rfl,n2_0⟩:=hX2
   cases h
   simp (maxDischargeDepth:=9) only [↓A8,A1,A6,↓reduceIte,n2_0]
  ·unfold Dq at hX2
   dsimp only at hX2 h
   obtain rfl:=hX2
   cases h
   simp (maxDischargeDepth:=9) only [↓A8,A1,A6,AA,↓reduceIte,Nat.reduceEqDiff,Nat.reduceLT]
def Hq(l:List Int):Bool:=CV l (-1099511627776) 1099511627776
theorem QS{l:List Int}(h:Hq l=true){x:Int}(hx:x∈l): -1099511627776≤x∧x≤1099511627776:=by
 have:=List.all_eq_true.1 h x hx;exact FG.1 this
theorem Sf{l:List Int}{lo hi:Int}(h:CV l lo hi=true)(h1: -1099511627776≤lo)(h2:hi≤1099511627776):Hq l=true:=by
 refine List.all_eq_true.2 fun x hx=> ?_
 have:=FG.1 (List.all_eq_true.1 h x hx)
 exact FG.2 ⟨by omega,by omega⟩
theorem Wl(n:Int):Kx n=some (if n<0 then-1 else if 0<n then 1 else 0):=by
 unfold Kx
 by_cases h1:n<0<;>by_cases h2:0<n<;>simp [h1,h2]<;>omega
theorem Wm: ∀(a b p q:List Int),p.length=q.length→a.length=b.length→p.length+a.length<1099511627776→Hq a=true→Hq b=true→
  (EI (p++a) (q++b) (p.length:Int)).bind (fun r=>match r with | .inl q2=>some q2 | .inr _=>some 0)=some (DR a b):=by
 intro a
 induction a with
 | nil=>
  intro b p q hpq hab ha h1 h2
  have:b=[]:=by cases b with | nil=>rfl | cons _ _=>simp at hab
  subst this
  unfold EI
  rw [C5 (r:=Sum.inr ())]
  ·rfl
  ·simp only [Dp];rw [if_neg (LQ _)]
 | cons x a ih=>
  intro b p q hpq hab ha h1 h2
  cases b with
  | nil=>simp at hab
  | cons y b=>
   simp only [List.length_cons]at ha hab
   have sx1:=QS h1 (List.mem_cons_self ..)
   have sy1:=QS h2 (List.mem_cons_self ..)
   have ex:(p++x::a).getD (p.length:Int).toNat default=x:=by rw [Int.toNat_natCast];exact CA p (x::a) p.length rfl (by simp)
   have ey:(q++y::b).getD (p.length:Int).toNat default=y:=by rw [Int.toNat_natCast,hpq];exact CA q (y::b) q.length rfl (by simp)
   have step:Dp (p++x::a) (q++y::b) (p.length:Int)=if x=y then some (.inl (((p++[x]).length:Nat):Int))else some (.inr (.inl (if x<y then-1 else 1))):=by
    unfold Dp
    rw [if_pos (Kr ..),Ac (Ks ..),Ac (by simp;omega),ex,ey,Gm _ (by omega),Gl _ (by omega),Wl,Option.bind_some]
    by_cases h1:x=y
    ·subst h1;simp
    ·rw [if_neg h1,if_neg h1]
     by_cases h2:x<y
     ·rw [if_pos (by omega),if_pos h2]
     ·rw [if_neg (by omega),if_pos (by omega),if_neg h2]
   have s1:Hq a=true:=List.all_eq_true.2 fun z hz=>List.all_eq_true.1 h1 z (List.mem_cons_of_mem _ hz)
   have s2:Hq b=true:=List.all_eq_true.2 fun z hz=>List.all_eq_true.1 h2 z (List.mem_cons_of_mem _ hz)
   unfold DR
   by_cases h1:x=y
   ·rw [if_pos h1]
    rw [if_pos h1]at step
    have:=ih b (p++[x]) (q++[y]) (by simp [hpq]) (by omega) (by simp;omega) s1 s2
    unfold EI at this ⊢
    rw [GU step]
    simpa using this
   ·rw [if_neg h1]
    rw [if_neg h1]at step
    unfold EI
    rw [C5 step];rfl
theorem Ts(a b:List Int)(ha:a.length<1099511627776)(hab:a.length=b.length)(h1:Hq a=true)(h2:Hq b=true):LR a b=some (DR a b):=by
 have:=Wm a b [] [] rfl hab (by simpa using ha) h1 h2
 unfold LR
 simp only [List.nil_append,List.length_nil,Int.natCast_zero]at this
 exact this
theorem Tt(a b:List Int)(h0:a.length<1099511627776)(h1:a.length=b.length)(h2:Hq a=true)(h3:Hq b=true):Y.call 68 [D.sl 3 (A9 (D.int .i64) a),D.sl 3 (A9 (D.int .i64) b)] []=some (D.int .i64 (DR a b),[]):=QR a b (Ts a b h0 h1 h2 h3)
def JD(l:List (List Int))(size labels:Int)(i:Nat):Bool:=
 ((decide (((l.getD i default).length:Int)=size)&&DU (l.getD i default))&&CV (l.getD i default) 0 (labels-1))&&(decide (i=0)||decide (DR (l.getD (i-1) default) (l.getD i default)<0))
def GB(l:List (List Int))(size labels:Int):Bool:=(List.range l.length).all (JD l size labels)
def Gf(labels degree:Int)(ns es:List (List Int)):Bool:=((EB labels 1 8&&EB degree 1 4)&&GB ns degree labels)&&GB es 2 labels
theorem Ab.getD{l:List (List Int)}(h:Ab l)(i:Nat):(l.getD i default).length<1099511627776:=by
 rcases Nat.lt_or_ge i l.length with hi | hi
 ·rw [Ar _ _ hi];exact h.at i hi
 ·rw [List.getD_eq_getElem?_getD,List.getElem?_eq_none hi];decide
noncomputable def JX(list:List (List Int))(size labels AZ:Int):Option ((Int)⊕(Unit⊕Unit)):=
 if AZ<(list.length:Int)then
  ck (0≤AZ∧AZ.toNat<list.length)<|
  if((list.getD AZ.toNat default).length:Int)=size then
   ck ((list.getD AZ.toNat default).length<1099511627776)<|
   if(DU (list.getD AZ.toNat default))=true then
    if(CV (list.getD AZ.toNat default) (0:Int) (IntKind.i64.wrap (labels-1)))=true then
     if 0<AZ then
      ck (0≤IntKind.i64.wrap (AZ-1)∧(IntKind.i64.wrap (AZ-1)).toNat<list.length)<|
      ck ((list.getD ((IntKind.i64.wrap (AZ-1)).toNat) default).length<1099511627776)<|
      if 0≤(DR (list.getD ((IntKind.i64.wrap (AZ-1)).toNat) default) (list.getD AZ.toNat default))then
       some (Sum.inr (Sum.inl ()))
      else
       some (Sum.inl (IntKind.i64.wrap (AZ+1)))
     else
      some (Sum.inl (IntKind.i64.wrap (AZ+1)))
    else
     some (Sum.inr (Sum.inl ()))
   else
    some (Sum.inr (Sum.inl ()))
  else
   some (Sum.inr (Sum.inl ()))
 else
  some (Sum.inr (Sum.inr ()))
noncomputable def Tu(list:List (List Int))(size labels v:Int):Option (Unit⊕Unit):=DT (fun v=>JX list size labels v) v
noncomputable def xt(list:List (List Int))(size labels:Int):Option (Bool):=
 (Tu list size labels 0).bind fun Au=>
 match Au with
 | .inl q2_=>
  some false
 | .inr q2_=>
  some true
def Tv:SC:=
 .seq
 (.ops [
 ⟨some 12, .binOp .lss 3 (.tmp 11) (.tmp 10) 3,0,none⟩])
 (.seq
 (.cond (.tmp 12)
 .skip
 (.exit 0))
 (.seq
 (.block 1
 (.seq
 (.ops [
 ⟨some 13, .move (.tmp 11),3,none⟩,
 ⟨some 14, .indexAddr 22 (.tmp 9) (.tmp 11),0,none⟩,
 ⟨some 15, .load 26 (.tmp 14),26,none⟩,
 ⟨some 7, .assign (.tmp 13),3,none⟩,
 ⟨some 8, .assign (.tmp 15),26,none⟩])
 (.seq
 (.ops [
 ⟨some 16, .move (.tmp 8),26,none⟩,
 ⟨some 17, .call ⟨(.builtin .len), #[(.tmp 16)], #[26]⟩,3,none⟩,
 ⟨some 18, .move (.tmp 1),3,none⟩,
 ⟨some 19, .binOp .neq 3 (.tmp 17) (.tmp 18) 3,4,none⟩,
 ⟨some 20, .move (.tmp 19),4,none⟩,
 ⟨some 21, .move (.tmp 8),26,(some (some 20,false))⟩,
 ⟨some 22, .call ⟨(.value (.func 72)), #[(.tmp 21)], #[26]⟩,4,(some (some 20,false))⟩,
 ⟨some 23, .unOp .not 4 (.tmp 22),4,(some (some 20,false))⟩,
 ⟨some 24, .pick (.tmp 20) (.const (.bool true)) (.tmp 23),4,none⟩,
 ⟨some 25, .move (.tmp 24),4,none⟩,
 ⟨some 26, .move (.tmp 8),26,(some (some 25,false))⟩,
 ⟨some 27, .move (.tmp 2),3,(some (some 25,false))⟩,
 ⟨some 28, .binOp .sub 3 (.tmp 27) (.const (.int .i64 1)) 3,3,(some (some 25,false))⟩,
 ⟨some 29, .call ⟨(.value (.func 73)), #[(.tmp 26),(.const (.int .i64 0)),(.tmp 28)], #[26,3,3]⟩,4,(some (some 25,false))⟩,
 ⟨some 30, .unOp .not 4 (.tmp 29),4,(some (some 25,false))⟩,
 ⟨some 31, .pick (.tmp 25) (.const (.bool true)) (.tmp 30),4,none⟩,
 ⟨some 32, .move (.tmp 31),4,none⟩,
 ⟨some 33, .move (.tmp 7),3,(some (some 32,false))⟩,
 ⟨some 34, .binOp .gtr 3 (.tmp 33) (.const (.int .i64 0)) 3,4,(some (some 32,false))⟩,
 ⟨some 35, .move (.tmp 34),4,(some (some 32,false))⟩,
 ⟨some 36, .move (.tmp 0),22,(some (some 35,true))⟩,
 ⟨some 37, .move (.tmp 7),3,(some (some 35,true))⟩,
 ⟨some 38, .binOp .sub 3 (.tmp 37) (.const (.int .i64 1)) 3,3,(some (some 35,true))⟩,
 ⟨some 39, .indexAddr 22 (.tmp 36) (.tmp 38),0,(some (some 35,true))⟩,
 ⟨some 40, .load 26 (.tmp 39),26,(some (some 35,true))⟩,
 ⟨some 41, .move (.tmp 8),26,(some (some 35,true))⟩,
 ⟨some 42, .call ⟨(.value (.func 74)), #[(.tmp 40),(.tmp 41)], #[26,26]⟩,3,(some (some 35,true))⟩,
 ⟨some 43, .binOp .geq 3 (.tmp 42) (.const (.int .i64 0)) 3,4,(some (some 35,true))⟩,
 ⟨some 44, .pick (.tmp 35) (.tmp 43) (.const (.bool false)),4,(some (some 32,false))⟩,
 ⟨some 45, .pick (.tmp 32) (.const (.bool true)) (.tmp 44),4,none⟩])
 (.cond (.tmp 45)
 (.seq
 (.ops [
 ⟨some 6, .assign (.const (.bool false)),4,none⟩])
 .ret)
 .skip))))
 (.ops [
 ⟨some 46, .binOp .add 3 (.tmp 11) (.const (.int .i64 1)) 3,3,none⟩,
 ⟨some 11, .move (.tmp 46),3,none⟩])))
def dF:SC:= .loop Tv
def k61:SC:=
 .seq
 (.ops [
 ⟨some 6, .assign (.const (.bool false)),4,none⟩])
 (.seq
 (.seq
 (.ops [
 ⟨some 9, .move (.tmp 0),22,none⟩,
 ⟨some 10, .call ⟨(.builtin .len), #[(.tmp 9)], #[22]⟩,3,none⟩,
 ⟨some 11, .move (.const (.int .i64 0)),3,none⟩])
 (.block 0
 dF))
 (.seq
 (.ops [
 ⟨some 6, .assign (.const (.bool true)),4,none⟩])
 .ret))
theorem mN:Tryz.f61.body.map (Am lends)=some k61:=by kernel_rfl
theorem A3X:As Tryz.f61 3=true:=by kernel_rfl
theorem c61{a l:List D}{r:D×List D}(h:Av Y.env k61 (fin AJ l.length [ResultVar.tmp 6] r) (entry a l))(ha:a.length=3):Y.call 61 a l=some r:=
 AC (Y:=Y) rfl Tryz.func61 (ha▸A3X) mN h
def FV(list:List (List Int))(size labels AZ:Int)(s:St):Prop:=s.v 0=D.sl 26 (A9 (fun x=>D.sl 3 (A9 (D.int .i64) x)) list)∧s.v 1=D.int .i64 size∧s.v 2=D.int .i64 labels∧s.v 9=D.sl 26 (A9 (fun x=>D.sl 3 (A9 (D.int .i64) x)) list)∧s.v 10=D.int .i64 (list.length:Int)∧s.v 11=D.int .i64 AZ
def Gz(list:List (List Int))(size labels:Int)(r:Unit⊕Unit)(ex:Ex)(s:St):Prop:=match r with
 | .inl q=>ex= .ret∧s.v 6=D.bool false
 | .inr q=>ex= .exit 0
theorem aZ(list:List (List Int))(size labels:Int){v:Int}{s:St}{r:Unit⊕Unit}(h:Tu list size labels v=some r)(hM:FV list size labels v s):Av Y.env dF (Gz list size labels r) s:=by
 unfold Tu at h
 refine Aa (c:=Tv) (fun v=>JX list size labels v) (fun v s=>FV list size labels v s) (Gz list size labels) ?_ h hM
 clear h hM s v r
 intro AZ s o hM h
 unfold JX at h
 unfold FV at hM
 obtain⟨m0,m1,m2,m3,m4,m5⟩:=hM
 unfold Tv
 by_cases e1:AZ<(list.length:Int)
 ·rw [if_pos e1]at h
  obtain⟨e2,h⟩:=Ae h
  by_cases e3:((list.getD AZ.toNat default).length:Int)=size
  ·rw [if_pos e3]at h
   obtain⟨e4,h⟩:=Ae h
   have c5:=mG (list.getD AZ.toNat default) e4
   by_cases e6:(DU (list.getD AZ.toNat default))=true
   ·rw [if_pos e6]at h
    have c7:=Kv (list.getD AZ.toNat default) (0:Int) (IntKind.i64.wrap (labels-1)) e4
    by_cases e8:(CV (list.getD AZ.toNat default) (0:Int) (IntKind.i64.wrap (labels-1)))=true
    ·rw [if_pos e8]at h
     by_cases e9:0<AZ
     ·rw [if_pos e9]at h
      obtain⟨e10,h⟩:=Ae h
      obtain⟨e11,h⟩:=Ae h
      have nj:=mK (list.getD ((IntKind.i64.wrap (AZ-1)).toNat) default) (list.getD AZ.toNat default) e11 e4
      by_cases e13:0≤(DR (list.getD ((IntKind.i64.wrap (AZ-1)).toNat) default) (list.getD AZ.toNat default))
      ·rw [if_pos e13]at h
       cases h
       simp (maxDischargeDepth:=9) only [↓A8,A1,AE,Ap,A6,AA,↓reduceIte,Nat.reduceEqDiff,Nat.reduceLT,Nat.reduceAdd,m0,m1,m2,m3,m4,m5,e1,e2.1,e2.2,decide_eq_true e3,c5,e6,c7,e8,e9,e10.1,e10.2,nj,e13,FV,Gz,Ho]
      ·rw [if_neg e13]at h
       cases h
       simp (maxDischargeDepth:=9) only [↓A8,A1,AE,Ap,A6,AA,↓reduceIte,Nat.reduceEqDiff,Nat.reduceLT,Nat.reduceAdd,m0,m1,m2,m3,m4,m5,e1,e2.1,e2.2,decide_eq_true e3,c5,e6,c7,e8,e9,e10.1,e10.2,nj,e13,FV,Ei]
     ·rw [if_neg e9]at h
      cases h
      simp (maxDischargeDepth:=9) only [↓A8,A1,AE,Ap,A6,AA,↓reduceIte,Nat.reduceEqDiff,Nat.reduceLT,Nat.reduceAdd,m0,m1,m2,m3,m4,m5,e1,e2.1,e2.2,decide_eq_true e3,c5,e6,c7,e8,e9,FV,Ei]
    ·rw [if_neg e8]at h
     have e8f:(CV (list.getD AZ.toNat default) (0:Int) (IntKind.i64.wrap (labels-1)))=false:=Bool.eq_false_iff.mpr e8
     cases h
     simp (maxDischargeDepth:=9) only [↓A8,A1,AE,Ap,A6,AA,↓reduceIte,Nat.reduceEqDiff,Nat.reduceLT,Nat.reduceAdd,m1,m2,m3,m4,m5,e1,e2.1,e2.2,decide_eq_true e3,c5,e6,c7,e8f,FV,Gz,Ho]
   ·rw [if_neg e6]at h
    have e6f:(DU (list.getD AZ.toNat default))=false:=Bool.eq_false_iff.mpr e6
    cases h
    simp (maxDischargeDepth:=9) only [↓A8,A1,AE,Ap,A6,AA,↓reduceIte,Nat.reduceEqDiff,Nat.reduceLT,Nat.reduceAdd,m1,m3,m4,m5,e1,e2.1,e2.2,decide_eq_true e3,c5,e6f,FV,Gz,Ho]
  ·rw [if_neg e3]at h
   cases h
   simp (maxDischargeDepth:=9) only [↓A8,A1,AE,A6,AA,↓reduceIte,Nat.reduceEqDiff,Nat.reduceLT,m1,m3,m4,m5,e1,e2.1,e2.2,e3,FV,Gz,Ho]
 ·rw [if_neg e1]at h
  cases h
  simp (maxDischargeDepth:=9) only [↓A8,A1,AA,↓reduceIte,Nat.reduceLT,m4,m5,e1,FV,Gz,Ge]
theorem dG(list:List (List Int))(size labels:Int){r:Bool}(h:xt list size labels=some r):Y.call 61 [D.sl 26 (A9 (fun x=>D.sl 3 (A9 (D.int .i64) x)) list),D.int .i64 size,D.int .i64 labels] []=some (D.bool r,[]):=by
 refine c61 ?_ rfl
 unfold k61
 unfold xt at h
 obtain⟨Au,hl2,h⟩:=AL h
 try dsimp only at h
 simp (maxDischargeDepth:=9) only [↓A8,A1,AE,A6,AA,↓reduceIte,Nat.reduceEqDiff,Nat.reduceLT]
 refine AP (aZ list size labels hl2 ?_) ?_
 ·simp (maxDischargeDepth:=9) only [A1,A6,↓reduceIte,Nat.reduceEqDiff,Nat.reduceLT,FV]
 ·intro ex2 s2 hX2
  rcases Au with q2_ | q2_
  ·unfold Gz at hX2
   dsimp only at hX2 h
   obtain⟨rfl,n2_0⟩:=hX2
   cases h
   simp (maxDischargeDepth:=9) only [↓A8,A1,A6,↓reduceIte,n2_0]
  ·unfold Gz at hX2
   dsimp only at hX2 h
   obtain rfl:=hX2
   cases h
   simp (maxDischargeDepth:=9) only [↓A8,A1,A6,AA,↓reduceIte,Nat.reduceEqDiff,Nat.reduceLT]
theorem mO(l:List (List Int))(size labels:Int)(h:Ab l)(hl:1≤labels∧labels≤8):xt l size labels=some (GB l size labels):=by
 have h1:=h.1
 unfold xt Tu
 have key:=CE (fun v=>JX l size labels v) (fun i=>(i:Int)) l.length (JD l size labels) (.inl ()) (.inr ()) ?_ ?_
 ·simp only [Int.natCast_zero]at key
  rw [key]
  unfold GB
  cases (List.range l.length).all (JD l size labels)<;>rfl
 ·intro i hi
  simp only [JX]
  rw [if_pos (Ak hi),Ac (BS hi),Int.toNat_natCast,Gm i (by omega),Gl (labels-1) (by omega)]
  have hs:=h.getD i
  have hs1:=h.getD (i-1)
  rw [Ac hs]
  unfold JD
  generalize l.getD i default=x at*
  by_cases q1:(x.length:Int)=size
  ·rw [if_pos q1]
   cases q2:DU x with
   | false=>simp
   | true=>
    rw [if_pos rfl]
    cases q3:CV x 0 (labels-1)with
    | false=>simp
    | true=>
     rw [if_pos rfl]
     by_cases q4:i=0
     ·simp [q1,q4]
     ·rw [if_pos (by omega),Gl _ (by omega),Ac (by omega),show((i:Int)-1).toNat=i-1 by omega,Ac hs1]
      generalize l.getD (i-1) default=y at*
      by_cases q5:0≤DR y x
      ·rw [if_pos q5,if_neg (by simp;intro _;exact⟨q4,q5⟩)]
      ·rw [if_neg q5,if_pos (by simp [q1,q4];omega)]
  ·have e:=decide_eq_false q1
   rw [if_neg q1,if_neg (by rw [e];simp)]
 ·simp only [JX];rw [if_neg (AH _)]
theorem dH(list:List (List Int))(size labels:Int)(h0:Ab list)(h1:1≤labels∧labels≤8):Y.call 61 [D.sl 26 (A9 (fun x=>D.sl 3 (A9 (D.int .i64) x)) list),D.int .i64 size,D.int .i64 labels] []=some (D.bool (GB list size labels),[]):=dG list size labels (mO list size labels h0 h1)
noncomputable def IU(l:List (List Int))(size labels B0 k:Int):Option ((Int)⊕(Unit⊕Unit)):=
 if k<size then
  ck (0≤IntKind.i64.wrap (k-1)∧(IntKind.i64.wrap (k-1)).toNat<(l.getD B0.toNat default).length)<|
  ck (0≤k∧k.toNat<(l.getD B0.toNat default).length)<|
  if((l.getD B0.toNat default).getD k.toNat default)<((l.getD B0.toNat default).getD ((IntKind.i64.wrap (k-1)).toNat) default)then
   some (Sum.inr (Sum.inl ()))
  else
   some (Sum.inl (IntKind.i64.wrap (k+1)))
 else
  some (Sum.inr (Sum.inr ()))
noncomputable def Nt(l:List (List Int))(size labels B0 v:Int):Option (Unit⊕Unit):=DT (fun v=>IU l size labels B0 v) v
noncomputable def JY(l:List (List Int))(size labels B0:Int):Option ((Int)⊕(Unit⊕Unit)):=
 if B0<(l.length:Int)then
  ck (0≤B0∧B0.toNat<l.length)<|
  if((l.getD B0.toNat default).length:Int)=size then
   ck ((l.getD B0.toNat default).length<1099511627776)<|
   if(CV (l.getD B0.toNat default) (0:Int) (IntKind.i64.wrap (labels-1)))=true then
    if 0<B0 then
     ck (0≤IntKind.i64.wrap (B0-1)∧(IntKind.i64.wrap (B0-1)).toNat<l.length)<|
     ck ((l.getD ((IntKind.i64.wrap (B0-1)).toNat) default).length<1099511627776)<|
     ck ((l.getD ((IntKind.i64.wrap (B0-1)).toNat) default).length=(l.getD B0.toNat default).length)<|
     ck (Hq (l.getD ((IntKind.i64.wrap (B0-1)).toNat) default)=true)<|
     ck (Hq (l.getD B0.toNat default)=true)<|
     if 0≤(DR (l.getD ((IntKind.i64.wrap (B0-1)).toNat) default) (l.getD B0.toNat default))then
      some (Sum.inr (Sum.inl ()))
     else
      (Nt l size labels B0 1).bind fun mP=>
      match mP with
      | .inl q16_=>
       some (Sum.inr (Sum.inl ()))
      | .inr q16_=>
       some (Sum.inl (IntKind.i64.wrap (B0+1)))
    else
     (Nt l size labels B0 1).bind fun HG=>
     match HG with
     | .inl q9_=>
      some (Sum.inr (Sum.inl ()))
     | .inr q9_=>
      some (Sum.inl (IntKind.i64.wrap (B0+1)))
   else
    some (Sum.inr (Sum.inl ()))
  else
   some (Sum.inr (Sum.inl ()))
 else
  some (Sum.inr (Sum.inr ()))
noncomputable def Tw(l:List (List Int))(size labels v:Int):Option (Unit⊕Unit):=DT (fun v=>JY l size labels v) v
noncomputable def xu(l:List (List Int))(size labels:Int):Option (Bool):=
 (Tw l size labels 0).bind fun Au=>
 match Au with
 | .inl q2_=>
  some false
 | .inr q2_=>
  some true
def Tx:SC:=
 .seq
 (.seq
 (.ops [
 ⟨some 42, .move (.tmp 9),3,none⟩,
 ⟨some 43, .move (.tmp 1),3,none⟩,
 ⟨some 44, .binOp .lss 3 (.tmp 42) (.tmp 43) 3,4,none⟩])
 (.cond (.tmp 44)
 .skip
 (.exit 2)))
 (.seq
 (.block 3
 (.seq
 (.draws [
 (⟨[47,8,8],[47,48,49,50,51,52,53,54,55,56],[47]⟩,⟨some 47, .move (.tmp 8),26,none⟩),
 (⟨[48,9,9],[47,48,49,50,51,52,53,54,55,56],[48]⟩,⟨some 48, .move (.tmp 9),3,none⟩),
 (⟨[49,48,9],[47,48,49,50,51,52,53,54,55,56],[49]⟩,⟨some 49, .binOp .sub 3 (.tmp 48) (.const (.int .i64 1)) 3,3,none⟩),
 (⟨[50,47,49,8,49],[47,48,49,50,51,52,53,54,55,56],[50]⟩,⟨some 50, .indexAddr 26 (.tmp 47) (.tmp 49),0,none⟩),
 (⟨[51,50,8],[47,48,49,50,51,52,53,54,55,56],[51]⟩,⟨some 51, .load 3 (.tmp 50),3,none⟩),
 (⟨[52,8,8],[47,48,49,50,51,52,53,54,55,56],[52]⟩,⟨some 52, .move (.tmp 8),26,none⟩),
 (⟨[53,9,9],[47,48,49,50,51,52,53,54,55,56],[53]⟩,⟨some 53, .move (.tmp 9),3,none⟩),
 (⟨[54,52,53,8,9],[47,48,49,50,51,52,53,54,55,56],[54]⟩,⟨some 54, .indexAddr 26 (.tmp 52) (.tmp 53),0,none⟩),
 (⟨[55,54,8],[47,48,49,50,51,52,53,54,55,56],[55]⟩,⟨some 55, .load 3 (.tmp 54),3,none⟩),
 (⟨[56,51,55,8,8],[47,48,49,50,51,52,53,54,55,56],[56]⟩,⟨some 56, .binOp .gtr 3 (.tmp 51) (.tmp 55) 3,4,none⟩)])
 (.cond (.tmp 56)
 (.seq
 (.ops [
 ⟨some 6, .assign (.const (.bool false)),4,none⟩])
 .ret)
 .skip)))
 (.ops [
 ⟨some 45, .move (.tmp 9),3,none⟩,
 ⟨some 46, .binOp .add 3 (.tmp 45) (.const (.int .i64 1)) 3,3,none⟩,
 ⟨some 9, .assign (.tmp 46),3,none⟩]))
def dI:SC:= .loop Tx
def Tz:SC:=
 .seq
 (.ops [
 ⟨some 13, .binOp .lss 3 (.tmp 12) (.tmp 11) 3,0,none⟩])
 (.seq
 (.cond (.tmp 13)
 .skip
 (.exit 0))
 (.seq
 (.block 1
 (.seq
 (.ops [
 ⟨some 14, .move (.tmp 12),3,none⟩,
 ⟨some 15, .indexAddr 22 (.tmp 10) (.tmp 12),0,none⟩,
 ⟨some 16, .load 26 (.tmp 15),26,none⟩,
 ⟨some 7, .assign (.tmp 14),3,none⟩,
 ⟨some 8, .assign (.tmp 16),26,none⟩])
 (.seq
 (.seq
 (.ops [
 ⟨some 17, .move (.tmp 8),26,none⟩,
 ⟨some 18, .call ⟨(.builtin .len), #[(.tmp 17)], #[26]⟩,3,none⟩,
 ⟨some 19, .move (.tmp 1),3,none⟩,
 ⟨some 20, .binOp .neq 3 (.tmp 18) (.tmp 19) 3,4,none⟩,
 ⟨some 21, .move (.tmp 20),4,none⟩,
 ⟨some 22, .move (.tmp 8),26,(some (some 21,false))⟩,
 ⟨some 23, .move (.tmp 2),3,(some (some 21,false))⟩,
 ⟨some 24, .binOp .sub 3 (.tmp 23) (.const (.int .i64 1)) 3,3,(some (some 21,false))⟩,
 ⟨some 25, .call ⟨(.value (.func 55)), #[(.tmp 22),(.const (.int .i64 0)),(.tmp 24)], #[26,3,3]⟩,4,(some (some 21,false))⟩,
 ⟨some 26, .unOp .not 4 (.tmp 25),4,(some (some 21,false))⟩,
 ⟨some 27, .pick (.tmp 21) (.const (.bool true)) (.tmp 26),4,none⟩,
 ⟨some 28, .move (.tmp 27),4,none⟩,
 ⟨some 29, .move (.tmp 7),3,(some (some 28,false))⟩,
 ⟨some 30, .binOp .gtr 3 (.tmp 29) (.const (.int .i64 0)) 3,4,(some (some 28,false))⟩,
 ⟨some 31, .move (.tmp 30),4,(some (some 28,false))⟩,
 ⟨some 32, .move (.tmp 0),22,(some (some 31,true))⟩,
 ⟨some 33, .move (.tmp 7),3,(some (some 31,true))⟩,
 ⟨some 34, .binOp .sub 3 (.tmp 33) (.const (.int .i64 1)) 3,3,(some (some 31,true))⟩,
 ⟨some 35, .indexAddr 22 (.tmp 32) (.tmp 34),0,(some (some 31,true))⟩,
 ⟨some 36, .load 26 (.tmp 35),26,(some (some 31,true))⟩,
 ⟨some 37, .move (.tmp 8),26,(some (some 31,true))⟩,
 ⟨some 38, .call ⟨(.value (.func 68)), #[(.tmp 36),(.tmp 37)], #[26,26]⟩,3,(some (some 31,true))⟩,
 ⟨some 39, .binOp .geq 3 (.tmp 38) (.const (.int .i64 0)) 3,4,(some (some 31,true))⟩,
 ⟨some 40, .pick (.tmp 31) (.tmp 39) (.const (.bool false)),4,(some (some 28,false))⟩,
 ⟨some 41, .pick (.tmp 28) (.const (.bool true)) (.tmp 40),4,none⟩])
 (.cond (.tmp 41)
 (.seq
 (.ops [
 ⟨some 6, .assign (.const (.bool false)),4,none⟩])
 .ret)
 .skip))
 (.seq
 (.ops [
 ⟨some 9, .assign (.const (.int .i64 1)),3,none⟩])
 (.block 2
 dI)))))
 (.ops [
 ⟨some 57, .binOp .add 3 (.tmp 12) (.const (.int .i64 1)) 3,3,none⟩,
 ⟨some 12, .move (.tmp 57),3,none⟩])))
def dJ:SC:= .loop Tz
def k52:SC:=
 .seq
 (.ops [
 ⟨some 6, .assign (.const (.bool false)),4,none⟩])
 (.seq
 (.seq
 (.ops [
 ⟨some 10, .move (.tmp 0),22,none⟩,
 ⟨some 11, .call ⟨(.builtin .len), #[(.tmp 10)], #[22]⟩,3,none⟩,
 ⟨some 12, .move (.const (.int .i64 0)),3,none⟩])
 (.block 0
 dJ))
 (.seq
 (.ops [
 ⟨some 6, .assign (.const (.bool true)),4,none⟩])
 .ret))
theorem mQ:Tryz.f52.body.map (Am lends)=some k52:=by kernel_rfl
theorem A3Z:As Tryz.f52 3=true:=by kernel_rfl
theorem c52{a l:List D}{r:D×List D}(h:Av Y.env k52 (fin AJ l.length [ResultVar.tmp 6] r) (entry a l))(ha:a.length=3):Y.call 52 a l=some r:=
 AC (Y:=Y) rfl Tryz.func52 (ha▸A3Z) mQ h
def Hc(l:List (List Int))(size labels B0 k:Int)(s:St):Prop:=s.v 0=D.sl 26 (A9 (fun x=>D.sl 3 (A9 (D.int .i64) x)) l)∧s.v 1=D.int .i64 size∧s.v 2=D.int .i64 labels∧s.v 8=D.sl 3 (A9 (D.int .i64) (l.getD B0.toNat default))∧s.v 9=D.int .i64 k∧s.v 10=D.sl 26 (A9 (fun x=>D.sl 3 (A9 (D.int .i64) x)) l)∧s.v 11=D.int .i64 (l.length:Int)∧s.v 12=D.int .i64 B0
def Hd(l:List (List Int))(size labels B0:Int)(r:Unit⊕Unit)(ex:Ex)(s:St):Prop:=match r with
 | .inl q=>ex= .ret∧s.v 6=D.bool false
 | .inr q=>ex= .exit 2∧s.v 0=D.sl 26 (A9 (fun x=>D.sl 3 (A9 (D.int .i64) x)) l)∧s.v 1=D.int .i64 size∧s.v 2=D.int .i64 labels∧s.v 10=D.sl 26 (A9 (fun x=>D.sl 3 (A9 (D.int .i64) x)) l)∧s.v 11=D.int .i64 (l.length:Int)∧s.v 12=D.int .i64 B0
theorem Sg(l:List (List Int))(size labels B0:Int){v:Int}{s:St}{r:Unit⊕Unit}(h:Nt l size labels B0 v=some r)(hM:Hc l size labels B0 v s):Av Y.env dI (Hd l size labels B0 r) s:=by
 unfold Nt at h
 refine Aa (c:=Tx) (fun v=>IU l size labels B0 v) (fun v s=>Hc l size labels B0 v s) (Hd l size labels B0) ?_ h hM
 clear h hM s v r
 intro k s o hM h
 unfold IU at h
 unfold Hc at hM
 obtain⟨m0,m1,m2,m3,m4,m5,m6,m7⟩:=hM
 unfold Tx
 by_cases e15:k<size
 ·rw [if_pos e15]at h
  obtain⟨e16,h⟩:=Ae h
  obtain⟨e17,h⟩:=Ae h
  by_cases e18:((l.getD B0.toNat default).getD k.toNat default)<((l.getD B0.toNat default).getD ((IntKind.i64.wrap (k-1)).toNat) default)
  ·rw [if_pos e18]at h
   cases h
   simp (maxDischargeDepth:=9) only [↓A8,A1,AE,A6,AA,↓reduceIte,Nat.reduceEqDiff,Nat.reduceLT,m1,m3,m4,e15,e16.1,e16.2,e17.1,e17.2,e18,Hc,Hd,Ho]
  ·rw [if_neg e18]at h
   cases h
   simp (maxDischargeDepth:=9) only [↓A8,A1,AE,A6,AA,↓reduceIte,Nat.reduceEqDiff,Nat.reduceLT,m0,m1,m2,m3,m4,m5,m6,m7,e15,e16.1,e16.2,e17.1,e17.2,e18,Hc,Ei]
 ·rw [if_neg e15]at h
  cases h
  simp (maxDischargeDepth:=9) only [↓A8,A1,AA,↓reduceIte,Nat.reduceEqDiff,Nat.reduceLT,m0,m1,m2,m4,m5,m6,m7,e15,Hc,Hd,Ge]
def Ea(l:List (List Int))(size labels B0:Int)(s:St):Prop:=s.v 0=D.sl 26 (A9 (fun x=>D.sl 3 (A9 (D.int .i64) x)) l)∧s.v 1=D.int .i64 size∧s.v 2=D.int .i64 labels∧s.v 10=D.sl 26 (A9 (fun x=>D.sl 3 (A9 (D.int .i64) x)) l)∧s.v 11=D.int .i64 (l.length:Int)∧s.v 12=D.int .i64 B0
def GP(l:List (List Int))(size labels:Int)(r:Unit⊕Unit)(ex:Ex)(s:St):Prop:=match r with
 | .inl q=>ex= .ret∧s.v 6=D.bool false
 | .inr q=>ex= .exit 0
theorem aa(l:List (List Int))(size labels:Int){v:Int}{s:St}{r:Unit⊕Unit}(h:Tw l size labels v=some r)(hM:Ea l size labels v s):Av Y.env dJ (GP l size labels r) s:=by
 unfold Tw at h
 refine Aa (c:=Tz) (fun v=>JY l size labels v) (fun v s=>Ea l size labels v s) (GP l size labels) ?_ h hM
 clear h hM s v r
 intro B0 s o hM h
 unfold JY at h
 unfold Ea at hM
 obtain⟨m0,m1,m2,m3,m4,m5⟩:=hM
 unfold Tz
 by_cases e1:B0<(l.length:Int)
 ·rw [if_pos e1]at h
  obtain⟨e2,h⟩:=Ae h
  by_cases e3:((l.getD B0.toNat default).length:Int)=size
  ·rw [if_pos e3]at h
   obtain⟨e4,h⟩:=Ae h
   have c5:=QP (l.getD B0.toNat default) (0:Int) (IntKind.i64.wrap (labels-1)) e4
   by_cases e6:(CV (l.getD B0.toNat default) (0:Int) (IntKind.i64.wrap (labels-1)))=true
   ·rw [if_pos e6]at h
    by_cases e7:0<B0
    ·rw [if_pos e7]at h
     obtain⟨e8,h⟩:=Ae h
     obtain⟨e9,h⟩:=Ae h
     obtain⟨e10,h⟩:=Ae h
     obtain⟨e11,h⟩:=Ae h
     obtain⟨e12,h⟩:=Ae h
     have j6:=Tt (l.getD ((IntKind.i64.wrap (B0-1)).toNat) default) (l.getD B0.toNat default) e9 e10 e11 e12
     by_cases e14:0≤(DR (l.getD ((IntKind.i64.wrap (B0-1)).toNat) default) (l.getD B0.toNat default))
     ·rw [if_pos e14]at h
      cases h
      simp (maxDischargeDepth:=9) only [↓A8,A1,AE,Ap,A6,AA,↓reduceIte,Nat.reduceEqDiff,Nat.reduceLT,Nat.reduceAdd,m0,m1,m2,m3,m4,m5,e1,e2.1,e2.2,decide_eq_true e3,c5,e6,e7,e8.1,e8.2,j6,e14,Ea,GP,Ho]
     ·rw [if_neg e14]at h
      obtain⟨mP,hl16,h⟩:=AL h
      try dsimp only at h
      simp (maxDischargeDepth:=9) only [↓A8,A1,AE,Ap,A6,AA,↓reduceIte,Nat.reduceEqDiff,Nat.reduceLT,Nat.reduceAdd,m0,m1,m2,m3,m4,m5,e1,e2.1,e2.2,decide_eq_true e3,c5,e6,e7,e8.1,e8.2,j6,e14]
      refine AP (Sg l size labels B0 hl16 ?_) ?_
      ·simp (maxDischargeDepth:=9) only [A1,↓reduceIte,Nat.reduceEqDiff,m0,m1,m2,m3,m4,m5,Hc]
      ·intro ex16 s16 hX16
       rcases mP with q16_ | q16_
       ·unfold Hd at hX16
        dsimp only at hX16 h
        obtain⟨rfl,n16_0⟩:=hX16
        cases h
        simp (maxDischargeDepth:=9) only [↓A8,A1,n16_0,Ea,GP,Ho]
       ·unfold Hd at hX16
        dsimp only at hX16 h
        obtain⟨rfl,n16_0,n16_1,n16_2,n16_3,n16_4,n16_5⟩:=hX16
        cases h
        simp (maxDischargeDepth:=9) only [↓A8,A1,AA,↓reduceIte,Nat.reduceEqDiff,Nat.reduceLT,n16_0,n16_1,n16_2,n16_3,n16_4,n16_5,Ea,Ei]
    ·rw [if_neg e7]at h
     obtain⟨HG,hl9,h⟩:=AL h
     try dsimp only at h
     simp (maxDischargeDepth:=9) only [↓A8,A1,AE,Ap,A6,AA,↓reduceIte,Nat.reduceEqDiff,Nat.reduceLT,Nat.reduceAdd,m1,m2,m3,m4,m5,e1,e2.1,e2.2,decide_eq_true e3,c5,e6,e7]
     refine AP (Sg l size labels B0 hl9 ?_) ?_
     ·simp (maxDischargeDepth:=9) only [A1,↓reduceIte,Nat.reduceEqDiff,m0,m1,m2,m3,m4,m5,Hc]
     ·intro ex9 s9 hX9
      rcases HG with q9_ | q9_
      ·unfold Hd at hX9
       dsimp only at hX9 h
       obtain⟨rfl,n9_0⟩:=hX9
       cases h
       simp (maxDischargeDepth:=9) only [↓A8,A1,n9_0,Ea,GP,Ho]
      ·unfold Hd at hX9
       dsimp only at hX9 h
       obtain⟨rfl,n9_0,n9_1,n9_2,n9_3,n9_4,n9_5⟩:=hX9
       cases h
       simp (maxDischargeDepth:=9) only [↓A8,A1,AA,↓reduceIte,Nat.reduceEqDiff,Nat.reduceLT,n9_0,n9_1,n9_2,n9_3,n9_4,n9_5,Ea,Ei]
   ·rw [if_neg e6]at h
    have e6f:(CV (l.getD B0.toNat default) (0:Int) (IntKind.i64.wrap (labels-1)))=false:=Bool.eq_false_iff.mpr e6
    cases h
    simp (maxDischargeDepth:=9) only [↓A8,A1,AE,Ap,A6,AA,↓reduceIte,Nat.reduceEqDiff,Nat.reduceLT,Nat.reduceAdd,m1,m2,m3,m4,m5,e1,e2.1,e2.2,decide_eq_true e3,c5,e6f,Ea,GP,Ho]
  ·rw [if_neg e3]at h
   cases h
   simp (maxDischargeDepth:=9) only [↓A8,A1,AE,A6,AA,↓reduceIte,Nat.reduceEqDiff,Nat.reduceLT,m1,m3,m4,m5,e1,e2.1,e2.2,e3,Ea,GP,Ho]
 ·rw [if_neg e1]at h
  cases h
  simp (maxDischargeDepth:=9) only [↓A8,A1,AA,↓reduceIte,Nat.reduceLT,m4,m5,e1,Ea,GP,Ge]
theorem dK(l:List (List Int))(size labels:Int){r:Bool}(h:xu l size labels=some r):Y.call 52 [D.sl 26 (A9 (fun x=>D.sl 3 (A9 (D.int .i64) x)) l),D.int .i64 size,D.int .i64 labels] []=some (D.bool r,[]):=by
 refine c52 ?_ rfl
 unfold k52
 unfold xu at h
 obtain⟨Au,hl2,h⟩:=AL h
 try dsimp only at h
 simp (maxDischargeDepth:=9) only [↓A8,A1,AE,A6,AA,↓reduceIte,Nat.reduceEqDiff,Nat.reduceLT]
 refine AP (aa l size labels hl2 ?_) ?_
 ·simp (maxDischargeDepth:=9) only [A1,A6,↓reduceIte,Nat.reduceEqDiff,Nat.reduceLT,Ea]
 ·intro ex2 s2 hX2
  rcases Au with q2_ | q2_
  ·unfold GP at hX2
   dsimp only at hX2 h
   obtain⟨rfl,n2_0⟩:=hX2
   cases h
   simp (maxDischargeDepth:=9) only [↓A8,A1,A6,↓reduceIte,n2_0]
  ·unfold GP at hX2
   dsimp only at hX2 h
   obtain rfl:=hX2
   cases h
   simp (maxDischargeDepth:=9) only [↓A8,A1,A6,AA,↓reduceIte,Nat.reduceEqDiff,Nat.reduceLT]
theorem Rd(l:List (List Int))(size labels t:Int)(x:List Int)(hx:l.getD t.toNat default=x)(hs:(x.length:Int)=size)(hb:x.length<1099511627776):
  Nt l size labels t 1=some (if DU x=true then .inr ()else .inl ()):=by
 unfold Nt
 rcases Nat.eq_zero_or_pos x.length with h0 | h0
 ·rw [C5 (r:=Sum.inr ())]
  ·simp [DU,h0]
  ·simp only [IU];rw [if_neg (by omega)]
 ·have key:=CE (fun v=>IU l size labels t v) (fun j=>(j:Int)+1) (x.length-1) (fun i=>decide (x.getD i default≤x.getD (i+1) default)) (.inl ()) (.inr ()) ?_ ?_
  ·simp only [Int.natCast_zero,Int.zero_add]at key
   rw [key];rfl
  ·intro i hi
   simp only [IU]
   rw [hx,if_pos (by omega),Gl _ (by omega),Gl _ (by omega),Ac (by omega),Ac (by omega),show((i:Int)+1).toNat=i+1 by omega,show((i:Int)+1-1).toNat=i by omega]
   simp only [decide_eq_true_eq]
   by_cases hq:x.getD (i+1) default<x.getD i default
   ·rw [if_pos hq,if_neg (by omega)]
   ·rw [if_neg hq,if_pos (by omega)];rfl
  ·simp only [IU];rw [if_neg (by omega)]
theorem mR(l:List (List Int))(size labels:Int)(h:Ab l)(hl:1≤labels∧labels≤8):xu l size labels=some (GB l size labels):=by
 have h1:=h.1
 unfold xu Tw
 have key:=WY (fun v=>JY l size labels v) (fun i=>(i:Int)) l.length (JD l size labels) (.inl ()) (.inr ()) ?_ ?_
 ·simp only [Int.natCast_zero]at key
  rw [key]
  unfold GB
  cases (List.range l.length).all (JD l size labels)<;>rfl
 ·intro i hi hp
  simp only [JY]
  rw [if_pos (Ak hi),Ac (BS hi),Gm i (by omega),Gl (labels-1) (by omega)]
  have hs:=h.getD i
  have hs1:=h.getD (i-1)
  rw [Int.toNat_natCast,Ac hs]
  by_cases q1:((l.getD i default).length:Int)=size
  ·rw [if_pos q1]
   have inner:=Rd l size labels (i:Int) (l.getD i default) (by rw [Int.toNat_natCast]) q1 hs
   rw [inner]
   have hprev:=hp (i-1)
   unfold JD at hprev ⊢
   generalize l.getD i default=x at*
   cases q3:CV x 0 (labels-1)with
   | false=>simp
   | true=>
    rw [if_pos rfl]
    by_cases q4:i=0
    ·rw [if_neg (by omega)]
     cases q2:DU x<;>simp [q1,q4]
    ·rw [if_pos (by omega),Gl _ (by omega),Ac (by omega),show((i:Int)-1).toNat=i-1 by omega,Ac hs1]
     have hprev:=hprev (by omega)
     generalize l.getD (i-1) default=y at*
     simp only [Bool.and_eq_true,decide_eq_true_eq]at hprev
     rw [Ac (by omega),Ac (Sf hprev.1.2 (by omega) (by omega)),Ac (Sf q3 (by omega) (by omega))]
     by_cases q5:0≤DR y x
     ·rw [if_pos q5,if_neg (by simp;intro _ _;exact⟨q4,q5⟩)]
     ·rw [if_neg q5]
      have q6:DR y x<0:=by omega
      cases q2:DU x<;>simp [q1,q6]
  ·have e:=decide_eq_false q1
   unfold JD
   rw [if_neg q1,if_neg (by rw [e];simp)]
 ·intro _
  simp only [JY];rw [if_neg (AH _)]
theorem dL(l:List (List Int))(size labels:Int)(h0:Ab l)(h1:1≤labels∧labels≤8):Y.call 52 [D.sl 26 (A9 (fun x=>D.sl 3 (A9 (D.int .i64) x)) l),D.int .i64 size,D.int .i64 labels] []=some (D.bool (GB l size labels),[]):=dK l size labels (mR l size labels h0 h1)
noncomputable def Iu(pL pD:Int)(pN pE:List (List Int)):Option (Bool):=
 if(EB pL (1:Int) (8:Int))=true then
  if(EB pD (1:Int) (4:Int))=true then
   ck (Ab pN)<|
   ck (1≤pL∧pL≤8)<|
   if(GB pN pD pL)=true then
    ck (Ab pE)<|
    some (GB pE (2:Int) pL)
   else
    some false
  else
   some false
 else
  some false
def k41:SC:=
 .seq
 (.ops [
 ⟨some 1, .box 33 (.tmp 0),0,none⟩,
 ⟨some 2, .assign (.const (.bool false)),4,none⟩])
 (.seq
 (.ops [
 ⟨some 3, .fieldAddr 33 (.tmp 1) 0,0,none⟩,
 ⟨some 4, .load 3 (.tmp 3),3,none⟩,
 ⟨some 5, .call ⟨(.value (.func 60)), #[(.tmp 4),(.const (.int .i64 1)),(.const (.int .i64 8))], #[3,3,3]⟩,4,none⟩,
 ⟨some 6, .move (.tmp 5),4,none⟩,
 ⟨some 7, .fieldAddr 33 (.tmp 1) 1,0,(some (some 6,true))⟩,
 ⟨some 8, .load 3 (.tmp 7),3,(some (some 6,true))⟩,
 ⟨some 9, .call ⟨(.value (.func 60)), #[(.tmp 8),(.const (.int .i64 1)),(.const (.int .i64 4))], #[3,3,3]⟩,4,(some (some 6,true))⟩,
 ⟨some 10, .pick (.tmp 6) (.tmp 9) (.const (.bool false)),4,none⟩,
 ⟨some 11, .move (.tmp 10),4,none⟩,
 ⟨some 12, .fieldAddr 33 (.tmp 1) 2,0,(some (some 11,true))⟩,
 ⟨some 13, .load 22 (.tmp 12),22,(some (some 11,true))⟩,
 ⟨some 14, .fieldAddr 33 (.tmp 1) 1,0,(some (some 11,true))⟩,
 ⟨some 15, .load 3 (.tmp 14),3,(some (some 11,true))⟩,
 ⟨some 16, .fieldAddr 33 (.tmp 1) 0,0,(some (some 11,true))⟩,
 ⟨some 17, .load 3 (.tmp 16),3,(some (some 11,true))⟩,
 ⟨some 18, .call ⟨(.value (.func 61)), #[(.tmp 13),(.tmp 15),(.tmp 17)], #[22,3,3]⟩,4,(some (some 11,true))⟩,
 ⟨some 19, .pick (.tmp 11) (.tmp 18) (.const (.bool false)),4,none⟩,
 ⟨some 20, .move (.tmp 19),4,none⟩,
 ⟨some 21, .fieldAddr 33 (.tmp 1) 3,0,(some (some 20,true))⟩,
 ⟨some 22, .load 22 (.tmp 21),22,(some (some 20,true))⟩,
 ⟨some 23, .fieldAddr 33 (.tmp 1) 0,0,(some (some 20,true))⟩,
 ⟨some 24, .load 3 (.tmp 23),3,(some (some 20,true))⟩,
 ⟨some 25, .call ⟨(.value (.func 61)), #[(.tmp 22),(.const (.int .i64 2)),(.tmp 24)], #[22,3,3]⟩,4,(some (some 20,true))⟩,
 ⟨some 26, .pick (.tmp 20) (.tmp 25) (.const (.bool false)),4,none⟩,
 ⟨some 2, .assign (.tmp 26),4,none⟩])
 .ret)
theorem mS:Tryz.f41.body.map (Am lends)=some k41:=by kernel_rfl
theorem A3b:As Tryz.f41 1=true:=by kernel_rfl
theorem gL{a l:List D}{r:D×List D}(h:Av Y.env k41 (fin AJ l.length [ResultVar.tmp 2] r) (entry a l))(ha:a.length=1):Y.call 41 a l=some r:=
 AC (Y:=Y) rfl Tryz.func41 (ha▸A3b) mS h
theorem Nu(pL pD:Int)(pN pE:List (List Int)){r:Bool}(h:Iu pL pD pN pE=some r):Y.call 41 [D.agg [D.int .i64 pL,D.int .i64 pD,D.sl 26 (A9 (fun x=>D.sl 3 (A9 (D.int .i64) x)) pN),D.sl 26 (A9 (fun x=>D.sl 3 (A9 (D.int .i64) x)) pE)]] []=some (D.bool r,[]):=by
 refine gL ?_ rfl
 unfold k41
 unfold Iu at h
 have c1:=FT pL (1:Int) (8:Int)
 by_cases e2:(EB pL (1:Int) (8:Int))=true
 ·rw [if_pos e2]at h
  have c3:=FT pD (1:Int) (4:Int)
  by_cases e4:(EB pD (1:Int) (4:Int))=true
  ·rw [if_pos e4]at h
   obtain⟨e5,h⟩:=Ae h
   obtain⟨e6,h⟩:=Ae h
   have c7:=dH pN pD pL e5 e6
   by_cases e8:(GB pN pD pL)=true
   ·rw [if_pos e8]at h
    obtain⟨e9,h⟩:=Ae h
    have OR:=dH pE (2:Int) pL e9 e6
    cases h
    simp (maxDischargeDepth:=9) only [↓A8,A1,Ap,A6,AA,↓reduceIte,Nat.reduceEqDiff,Nat.reduceLT,Nat.reduceAdd,c1,e2,c3,e4,c7,e8,OR]
   ·rw [if_neg e8]at h
    have e8f:(GB pN pD pL)=false:=Bool.eq_false_iff.mpr e8
    cases h
    simp (maxDischargeDepth:=9) only [↓A8,A1,Ap,A6,AA,↓reduceIte,Nat.reduceEqDiff,Nat.reduceLT,Nat.reduceAdd,c1,e2,c3,e4,c7,e8f]
  ·rw [if_neg e4]at h
   have e4f:(EB pD (1:Int) (4:Int))=false:=Bool.eq_false_iff.mpr e4
   cases h
   simp (maxDischargeDepth:=9) only [↓A8,A1,Ap,A6,AA,↓reduceIte,Nat.reduceEqDiff,Nat.reduceLT,Nat.reduceAdd,c1,e2,c3,e4f]
 ·rw [if_neg e2]at h
  have e2f:(EB pL (1:Int) (8:Int))=false:=Bool.eq_false_iff.mpr e2
  cases h
  simp (maxDischargeDepth:=9) only [↓A8,A1,Ap,A6,AA,↓reduceIte,Nat.reduceEqDiff,Nat.reduceLT,Nat.reduceAdd,c1,e2f]
noncomputable def Mw(pL pD:Int)(pN pE:List (List Int)):Option (Bool):=
 if(EB pL (1:Int) (8:Int))=true then
  if(EB pD (1:Int) (4:Int))=true then
   ck (Ab pN)<|
   ck (1≤pL∧pL≤8)<|
   if(GB pN pD pL)=true then
    ck (Ab pE)<|
    some (GB pE (2:Int) pL)
   else
    some false
  else
   some false
 else
  some false
def k35:SC:=
 .seq
 (.ops [
 ⟨some 1, .box 33 (.tmp 0),0,none⟩,
 ⟨some 2, .assign (.const (.bool false)),4,none⟩])
 (.seq
 (.ops [
 ⟨some 3, .fieldAddr 33 (.tmp 1) 0,0,none⟩,
 ⟨some 4, .load 3 (.tmp 3),3,none⟩,
 ⟨some 5, .call ⟨(.value (.func 51)), #[(.tmp 4),(.const (.int .i64 1)),(.const (.int .i64 8))], #[3,3,3]⟩,4,none⟩,
 ⟨some 6, .move (.tmp 5),4,none⟩,
 ⟨some 7, .fieldAddr 33 (.tmp 1) 1,0,(some (some 6,true))⟩,
 ⟨some 8, .load 3 (.tmp 7),3,(some (some 6,true))⟩,
 ⟨some 9, .call ⟨(.value (.func 51)), #[(.tmp 8),(.const (.int .i64 1)),(.const (.int .i64 4))], #[3,3,3]⟩,4,(some (some 6,true))⟩,
 ⟨some 10, .pick (.tmp 6) (.tmp 9) (.const (.bool false)),4,none⟩,
 ⟨some 11, .move (.tmp 10),4,none⟩,
 ⟨some 12, .fieldAddr 33 (.tmp 1) 2,0,(some (some 11,true))⟩,
 ⟨some 13, .load 22 (.tmp 12),22,(some (some 11,true))⟩,
 ⟨some 14, .fieldAddr 33 (.tmp 1) 1,0,(some (some 11,true))⟩,
 ⟨some 15, .load 3 (.tmp 14),3,(some (some 11,true))⟩,
 ⟨some 16, .fieldAddr 33 (.tmp 1) 0,0,(some (some 11,true))⟩,
 ⟨some 17, .load 3 (.tmp 16),3,(some (some 11,true))⟩,
 ⟨some 18, .call ⟨(.value (.func 52)), #[(.tmp 13),(.tmp 15),(.tmp 17)], #[22,3,3]⟩,4,(some (some 11,true))⟩,
 ⟨some 19, .pick (.tmp 11) (.tmp 18) (.const (.bool false)),4,none⟩,
 ⟨some 20, .move (.tmp 19),4,none⟩,
 ⟨some 21, .fieldAddr 33 (.tmp 1) 3,0,(some (some 20,true))⟩,
 ⟨some 22, .load 22 (.tmp 21),22,(some (some 20,true))⟩,
 ⟨some 23, .fieldAddr 33 (.tmp 1) 0,0,(some (some 20,true))⟩,
 ⟨some 24, .load 3 (.tmp 23),3,(some (some 20,true))⟩,
 ⟨some 25, .call ⟨(.value (.func 52)), #[(.tmp 22),(.const (.int .i64 2)),(.tmp 24)], #[22,3,3]⟩,4,(some (some 20,true))⟩,
 ⟨some 26, .pick (.tmp 20) (.tmp 25) (.const (.bool false)),4,none⟩,
 ⟨some 2, .assign (.tmp 26),4,none⟩])
 .ret)
theorem mT:Tryz.f35.body.map (Am lends)=some k35:=by kernel_rfl
theorem A3d:As Tryz.f35 1=true:=by kernel_rfl
theorem dM{a l:List D}{r:D×List D}(h:Av Y.env k35 (fin AJ l.length [ResultVar.tmp 2] r) (entry a l))(ha:a.length=1):Y.call 35 a l=some r:=
 AC (Y:=Y) rfl Tryz.func35 (ha▸A3d) mT h
theorem Re(pL pD:Int)(pN pE:List (List Int)){r:Bool}(h:Mw pL pD pN pE=some r):Y.call 35 [D.agg [D.int .i64 pL,D.int .i64 pD,D.sl 26 (A9 (fun x=>D.sl 3 (A9 (D.int .i64) x)) pN),D.sl 26 (A9 (fun x=>D.sl 3 (A9 (D.int .i64) x)) pE)]] []=some (D.bool r,[]):=by
 refine dM ?_ rfl
 unfold k35
 unfold Mw at h
 have c1:=Gk pL (1:Int) (8:Int)
 by_cases e2:(EB pL (1:Int) (8:Int))=true
 ·rw [if_pos e2]at h
  have c3:=Gk pD (1:Int) (4:Int)
  by_cases e4:(EB pD (1:Int) (4:Int))=true
  ·rw [if_pos e4]at h
   obtain⟨e5,h⟩:=Ae h
   obtain⟨e6,h⟩:=Ae h
   have c7:=dL pN pD pL e5 e6
   by_cases e8:(GB pN pD pL)=true
   ·rw [if_pos e8]at h
    obtain⟨e9,h⟩:=Ae h
    have OR:=dL pE (2:Int) pL e9 e6
    cases h
    simp (maxDischargeDepth:=9) only [↓A8,A1,Ap,A6,AA,↓reduceIte,Nat.reduceEqDiff,Nat.reduceLT,Nat.reduceAdd,c1,e2,c3,e4,c7,e8,OR]
   ·rw [if_neg e8]at h
    have e8f:(GB pN pD pL)=false:=Bool.eq_false_iff.mpr e8
    cases h
    simp (maxDischargeDepth:=9) only [↓A8,A1,Ap,A6,AA,↓reduceIte,Nat.reduceEqDiff,Nat.reduceLT,Nat.reduceAdd,c1,e2,c3,e4,c7,e8f]
  ·rw [if_neg e4]at h
   have e4f:(EB pD (1:Int) (4:Int))=false:=Bool.eq_false_iff.mpr e4
   cases h
   simp (maxDischargeDepth:=9) only [↓A8,A1,Ap,A6,AA,↓reduceIte,Nat.reduceEqDiff,Nat.reduceLT,Nat.reduceAdd,c1,e2,c3,e4f]
 ·rw [if_neg e2]at h
  have e2f:(EB pL (1:Int) (8:Int))=false:=Bool.eq_false_iff.mpr e2
  cases h
  simp (maxDischargeDepth:=9) only [↓A8,A1,Ap,A6,AA,↓reduceIte,Nat.reduceEqDiff,Nat.reduceLT,Nat.reduceAdd,c1,e2f]
theorem QT(a b:Int)(n e:List (List Int))(hn:Ab n)(he:Ab e):Iu a b n e=some (Gf a b n e):=by
 unfold Iu Gf
 by_cases h1:EB a 1 8=true
 ·have h1':=FG.1 h1
  by_cases h2:EB b 1 4=true
  ·rw [if_pos h1,if_pos h2,Ac hn,Ac h1',Ac he]
   cases h3:GB n b a<;>simp [h1,h2]
  ·rw [if_pos h1,if_neg h2];simp [h2]
 ·rw [if_neg h1];simp [h1]
theorem Wn(a b:Int)(n e:List (List Int))(hn:Ab n)(he:Ab e):Mw a b n e=some (Gf a b n e):=by
 unfold Mw Gf
 by_cases h1:EB a 1 8=true
 ·have h1':=FG.1 h1
  by_cases h2:EB b 1 4=true
  ·rw [if_pos h1,if_pos h2,Ac hn,Ac h1',Ac he]
   cases h3:GB n b a<;>simp [h1,h2]
  ·rw [if_pos h1,if_neg h2];simp [h2]
 ·rw [if_neg h1];simp [h1]
theorem QU(pL pD:Int)(pN pE:List (List Int))(h0:Ab pN)(h1:Ab pE):Y.call 41 [D.agg [D.int .i64 pL,D.int .i64 pD,D.sl 26 (A9 (fun x=>D.sl 3 (A9 (D.int .i64) x)) pN),D.sl 26 (A9 (fun x=>D.sl 3 (A9 (D.int .i64) x)) pE)]] []=some (D.bool (Gf pL pD pN pE),[]):=Nu pL pD pN pE (QT pL pD pN pE h0 h1)
theorem Wo(pL pD:Int)(pN pE:List (List Int))(h0:Ab pN)(h1:Ab pE):Y.call 35 [D.agg [D.int .i64 pL,D.int .i64 pD,D.sl 26 (A9 (fun x=>D.sl 3 (A9 (D.int .i64) x)) pN),D.sl 26 (A9 (fun x=>D.sl 3 (A9 (D.int .i64) x)) pE)]] []=some (D.bool (Gf pL pD pN pE),[]):=Re pL pD pN pE (Wn pL pD pN pE h0 h1)
end Go.Proofs.YtipfckompmhljaaGreat
