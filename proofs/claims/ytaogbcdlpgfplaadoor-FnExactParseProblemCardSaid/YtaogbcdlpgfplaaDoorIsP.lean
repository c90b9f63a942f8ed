/- When lists are a problem, as plain functions. Conditions: the lists are short. -/
import Derived.Test.YtaogbcdlpgfplaaDoorL6
import Derived.Test.YtaogbcdlpgfplaaDoorPB
namespace Go.Proofs.YtaogbcdlpgfplaaDoor
open Go Dv
set_option linter.unusedSimpArgs false
set_option linter.unusedVariables false
set_option maxRecDepth 100000
set_option maxHeartbeats 4000000
def Kr(n lo hi:Int):Bool:=decide (lo≤n∧n≤hi)
theorem Fg{n lo hi:Int}:Kr n lo hi=true↔lo≤n∧n≤hi:=by simp [Kr]
noncomputable def O5(n_:Int)(low:Int)(high:Int):Option (Bool):=
 if low≤n_ then
  some (decide (n_≤high))
 else
  some false
def k54:SC:=
 .seq
 (.ops [
 ⟨(some 6),(.assign (.const (.bool false))),4,none⟩])
 (.seq
 (.ops [
 ⟨(some 7),(.move (.tmp 1)),3,none⟩,
 ⟨(some 8),(.move (.tmp 0)),3,none⟩,
 ⟨(some 9),(.binOp .leq 3 (.tmp 7) (.tmp 8) 3),4,none⟩,
 ⟨(some 10),(.move (.tmp 9)),4,none⟩,
 ⟨(some 11),(.move (.tmp 0)),3,(some (some 10,true))⟩,
 ⟨(some 12),(.move (.tmp 2)),3,(some (some 10,true))⟩,
 ⟨(some 13),(.binOp .leq 3 (.tmp 11) (.tmp 12) 3),4,(some (some 10,true))⟩,
 ⟨(some 14),(.pick (.tmp 10) (.tmp 13) (.const (.bool false))),4,none⟩,
 ⟨(some 6),(.assign (.tmp 14)),4,none⟩])
 .ret)
theorem vU:Tryd.f54.body.map (CY lends)=some k54:=by kernel_rfl
theorem ACK:DR Tryd.f54 3=true:=by kernel_rfl
theorem c54{a l:List D}{r:D×List D}(h:Cu Y.env k54 (HZ Ak l.length [ResultVar.tmp 6] r) (entry a l))(ha:a.length=3):Y.call 54 a l=some r:=
 Ah (Y:=Y) rfl Tryd.func54 (ha▸ACK) vU h
theorem Sk(n_:Int)(low:Int)(high:Int){r:Bool}(h:O5 n_ low high=some r):Y.call 54 [D.int .i64 n_,D.int .i64 low,D.int .i64 high] []=some (D.bool r,[]):=by
 refine c54 ?_ rfl
 unfold k54
 unfold O5 at h
 by_cases e1:low≤n_
 ·rw [if_pos e1]at h
  obtain rfl:=Option.some.inj h
  simp (maxDischargeDepth:=9) only [↓AL,AB,AO,Ao,AC,AP,Ap,↓reduceIte,Nat.reduceEqDiff,Nat.reduceLT,Nat.reduceLeDiff,Nat.reduceAdd,Nat.reduceMul,Nat.reduceMod,Nat.reduceDiv,Nat.reducePow,Nat.reduceSub,Nat.reduceBEq,Int.reduceLE,Int.reduceLT,Int.reduceEq,Int.reduceSub,Int.reduceAdd,Int.reduceToNat,Int.reduceNeg,e1]<;>(repeat' apply And.intro)<;>first|rfl|exact⟨_,rfl⟩|exact⟨_,_,rfl⟩|simp [AJ,A7]
 ·rw [if_neg e1]at h
  obtain rfl:=Option.some.inj h
  simp (maxDischargeDepth:=9) only [↓AL,AB,AO,Ao,AC,AP,Ap,↓reduceIte,Nat.reduceEqDiff,Nat.reduceLT,Nat.reduceLeDiff,Nat.reduceAdd,Nat.reduceMul,Nat.reduceMod,Nat.reduceDiv,Nat.reducePow,Nat.reduceSub,Nat.reduceBEq,Int.reduceLE,Int.reduceLT,Int.reduceEq,Int.reduceSub,Int.reduceAdd,Int.reduceToNat,Int.reduceNeg,e1]<;>(repeat' apply And.intro)<;>first|rfl|exact⟨_,rfl⟩|exact⟨_,_,rfl⟩|simp [AJ,A7]
noncomputable def Ux(n_:Int)(lo:Int)(hi:Int):Option (Bool):=
 if lo≤n_ then
  some (decide (n_≤hi))
 else
  some false
def k51:SC:=
 .seq
 (.ops [
 ⟨(some 6),(.assign (.const (.bool false))),4,none⟩])
 (.seq
 (.ops [
 ⟨(some 7),(.move (.tmp 0)),3,none⟩,
 ⟨(some 8),(.move (.tmp 1)),3,none⟩,
 ⟨(some 9),(.binOp .geq 3 (.tmp 7) (.tmp 8) 3),4,none⟩,
 ⟨(some 10),(.move (.tmp 9)),4,none⟩,
 ⟨(some 11),(.move (.tmp 0)),3,(some (some 10,true))⟩,
 ⟨(some 12),(.move (.tmp 2)),3,(some (some 10,true))⟩,
 ⟨(some 13),(.binOp .leq 3 (.tmp 11) (.tmp 12) 3),4,(some (some 10,true))⟩,
 ⟨(some 14),(.pick (.tmp 10) (.tmp 13) (.const (.bool false))),4,none⟩,
 ⟨(some 6),(.assign (.tmp 14)),4,none⟩])
 .ret)
theorem vV:Tryd.f51.body.map (CY lends)=some k51:=by kernel_rfl
theorem ACN:DR Tryd.f51 3=true:=by kernel_rfl
theorem c51{a l:List D}{r:D×List D}(h:Cu Y.env k51 (HZ Ak l.length [ResultVar.tmp 6] r) (entry a l))(ha:a.length=3):Y.call 51 a l=some r:=
 Ah (Y:=Y) rfl Tryd.func51 (ha▸ACN) vV h
theorem XR(n_:Int)(lo:Int)(hi:Int){r:Bool}(h:Ux n_ lo hi=some r):Y.call 51 [D.int .i64 n_,D.int .i64 lo,D.int .i64 hi] []=some (D.bool r,[]):=by
 refine c51 ?_ rfl
 unfold k51
 unfold Ux at h
 by_cases e1:lo≤n_
 ·rw [if_pos e1]at h
  obtain rfl:=Option.some.inj h
  simp (maxDischargeDepth:=9) only [↓AL,AB,AO,Ao,AC,AP,Ap,↓reduceIte,Nat.reduceEqDiff,Nat.reduceLT,Nat.reduceLeDiff,Nat.reduceAdd,Nat.reduceMul,Nat.reduceMod,Nat.reduceDiv,Nat.reducePow,Nat.reduceSub,Nat.reduceBEq,Int.reduceLE,Int.reduceLT,Int.reduceEq,Int.reduceSub,Int.reduceAdd,Int.reduceToNat,Int.reduceNeg,e1]<;>(repeat' apply And.intro)<;>first|rfl|exact⟨_,rfl⟩|exact⟨_,_,rfl⟩|simp [AJ,A7]
 ·rw [if_neg e1]at h
  obtain rfl:=Option.some.inj h
  simp (maxDischargeDepth:=9) only [↓AL,AB,AO,Ao,AC,AP,Ap,↓reduceIte,Nat.reduceEqDiff,Nat.reduceLT,Nat.reduceLeDiff,Nat.reduceAdd,Nat.reduceMul,Nat.reduceMod,Nat.reduceDiv,Nat.reducePow,Nat.reduceSub,Nat.reduceBEq,Int.reduceLE,Int.reduceLT,Int.reduceEq,Int.reduceSub,Int.reduceAdd,Int.reduceToNat,Int.reduceNeg,e1]<;>(repeat' apply And.intro)<;>first|rfl|exact⟨_,rfl⟩|exact⟨_,_,rfl⟩|simp [AJ,A7]
theorem XT(n lo hi:Int):O5 n lo hi=some (Kr n lo hi):=by unfold O5 Kr;by_cases h1:lo≤n<;>by_cases h2:n≤hi<;>simp [h1,h2]
theorem cZ(n lo hi:Int):Ux n lo hi=some (Kr n lo hi):=by unfold Ux Kr;by_cases h1:lo≤n<;>by_cases h2:n≤hi<;>simp [h1,h2]
theorem Ll(n_:Int)(low:Int)(high:Int):Y.call 54 [D.int .i64 n_,D.int .i64 low,D.int .i64 high] []=some (D.bool (Kr n_ low high),[]):=Sk n_ low high (XT n_ low high)
theorem MM(n_:Int)(lo:Int)(hi:Int):Y.call 51 [D.int .i64 n_,D.int .i64 lo,D.int .i64 hi] []=some (D.bool (Kr n_ lo hi),[]):=XR n_ lo hi (cZ n_ lo hi)
noncomputable def GL(l:List Int)(lo:Int)(hi:Int)(Bp:Int):Option ((Int)⊕(Unit⊕Unit)):=
 if Bp<(l.length:Int)then
  ck (0≤Bp∧Bp.toNat<l.length)<|
  if(Kr (l.getD Bp.toNat default) lo hi)=true then
   some (Sum.inl (IntKind.i64.wrap (Bp+1)))
  else
   some (Sum.inr (Sum.inl ()))
 else
  some (Sum.inr (Sum.inr ()))
noncomputable def Kt(l:List Int)(lo:Int)(hi:Int)(v:Int):Option (Unit⊕Unit):=Jk (fun v=>GL l lo hi v) v
noncomputable def Pz(l:List Int)(lo:Int)(hi:Int):Option (Bool):=
 (Kt l lo hi 0).bind fun AZ=>
 match AZ with
 | .inl q1000_=>
  some false
 | .inr q1000_=>
  some true
def Uy:SC:=
 .seq
 (.ops [
 ⟨(some 12),(.binOp .lss 3 (.tmp 11) (.tmp 10) 3),0,none⟩])
 (.seq
 (.cond (.tmp 12)
 .skip
 (.exit 0))
 (.seq
 (.block 1
 (.seq
 (.ops [
 ⟨(some 13),(.indexAddr 70 (.tmp 9) (.tmp 11)),0,none⟩,
 ⟨(some 14),(.load 3 (.tmp 13)),3,none⟩,
 ⟨(some 8),(.assign (.tmp 14)),3,none⟩])
 (.seq
 (.ops [
 ⟨(some 15),(.move (.tmp 8)),3,none⟩,
 ⟨(some 16),(.move (.tmp 1)),3,none⟩,
 ⟨(some 17),(.move (.tmp 2)),3,none⟩,
 ⟨(some 18),(.call ⟨(.value (.func 51)), #[(.tmp 15),(.tmp 16),(.tmp 17)], #[3,3,3]⟩),4,none⟩,
 ⟨(some 19),(.unOp .not 4 (.tmp 18)),4,none⟩])
 (.cond (.tmp 19)
 (.seq
 (.ops [
 ⟨(some 6),(.assign (.const (.bool false))),4,none⟩])
 .ret)
 .skip))))
 (.ops [
 ⟨(some 20),(.binOp .add 3 (.tmp 11) (.const (.int .i64 1)) 3),3,none⟩,
 ⟨(some 11),(.move (.tmp 20)),3,none⟩])))
def iw:SC:= .loop Uy
def k86:SC:=
 .seq
 (.ops [
 ⟨(some 6),(.assign (.const (.bool false))),4,none⟩])
 (.seq
 (.seq
 (.ops [
 ⟨(some 9),(.move (.tmp 0)),70,none⟩,
 ⟨(some 10),(.call ⟨(.builtin .len), #[(.tmp 9)], #[70]⟩),3,none⟩,
 ⟨(some 11),(.move (.const (.int .i64 0))),3,none⟩])
 (.block 0
 iw))
 (.seq
 (.ops [
 ⟨(some 6),(.assign (.const (.bool true))),4,none⟩])
 .ret))
theorem vW:Tryd.f86.body.map (CY lends)=some k86:=by kernel_rfl
theorem ACP:DR Tryd.f86 3=true:=by kernel_rfl
theorem c86{a l:List D}{r:D×List D}(h:Cu Y.env k86 (HZ Ak l.length [ResultVar.tmp 6] r) (entry a l))(ha:a.length=3):Y.call 86 a l=some r:=
 Ah (Y:=Y) rfl Tryd.func86 (ha▸ACP) vW h
def FE(l:List Int)(lo:Int)(hi:Int)(Bp:Int)(s:St):Prop:=s.v 1=D.int .i64 lo∧s.v 2=D.int .i64 hi∧s.v 9=D.sl 3 (AJ (D.int .i64) l)∧s.v 10=D.int .i64 (l.length:Int)∧s.v 11=D.int .i64 Bp
def FF(l:List Int)(lo:Int)(hi:Int)(r:Unit⊕Unit)(ex:Ex)(s:St):Prop:=match r with
 | .inl q=>ex= .ret∧s.v 6=D.bool false
 | .inr q=>ex= .exit 0
theorem Sl(l:List Int)(lo:Int)(hi:Int){v:Int}{s:St}{r:Unit⊕Unit}(h:Kt l lo hi v=some r)(hM:FE l lo hi v s):Cu Y.env iw (FF l lo hi r) s:=by
 unfold Kt at h
 refine DL (c:=Uy) (fun v=>GL l lo hi v) (fun v s=>FE l lo hi v s) (FF l lo hi) ?_ h hM
 clear h hM s v r
 intro Bp s o hM h
 unfold GL at h
 unfold FE at hM
 obtain⟨m0,m1,m2,m3,m4⟩:=hM
 unfold Uy
 by_cases e1:Bp<(l.length:Int)
 ·rw [if_pos e1]at h
  obtain⟨e2,h⟩:=Cf h
  have c3:=MM (l.getD Bp.toNat default) lo hi
  by_cases e4:(Kr (l.getD Bp.toNat default) lo hi)=true
  ·rw [if_pos e4]at h
   obtain rfl:=Option.some.inj h
   simp (maxDischargeDepth:=9) only [↓AL,AB,AO,Ao,AC,AP,Ap,↓reduceIte,Nat.reduceEqDiff,Nat.reduceLT,Nat.reduceLeDiff,Nat.reduceAdd,Nat.reduceMul,Nat.reduceMod,Nat.reduceDiv,Nat.reducePow,Nat.reduceSub,Nat.reduceBEq,Int.reduceLE,Int.reduceLT,Int.reduceEq,Int.reduceSub,Int.reduceAdd,Int.reduceToNat,Int.reduceNeg,m0,m1,m2,m3,m4,e1,e2.1,e2.2,c3,e4,FE,FF,De,Df,Dh]<;>(repeat' apply And.intro)<;>first|rfl|exact⟨_,rfl⟩|exact⟨_,_,rfl⟩|simp [AJ,A7]
  ·rw [if_neg e4]at h
   have e4f:(Kr (l.getD Bp.toNat default) lo hi)=false:=Bool.eq_false_iff.mpr e4
   obtain rfl:=Option.some.inj h
   simp (maxDischargeDepth:=9) only [↓AL,AB,AO,Ao,AC,AP,Ap,↓reduceIte,Nat.reduceEqDiff,Nat.reduceLT,Nat.reduceLeDiff,Nat.reduceAdd,Nat.reduceMul,Nat.reduceMod,Nat.reduceDiv,Nat.reducePow,Nat.reduceSub,Nat.reduceBEq,Int.reduceLE,Int.reduceLT,Int.reduceEq,Int.reduceSub,Int.reduceAdd,Int.reduceToNat,Int.reduceNeg,m0,m1,m2,m3,m4,e1,e2.1,e2.2,c3,e4f,FE,FF,De,Df,Dh]<;>(repeat' apply And.intro)<;>first|rfl|exact⟨_,rfl⟩|exact⟨_,_,rfl⟩|simp [AJ,A7]
 ·rw [if_neg e1]at h
  obtain rfl:=Option.some.inj h
  simp (maxDischargeDepth:=9) only [↓AL,AB,AO,Ao,AC,AP,Ap,↓reduceIte,Nat.reduceEqDiff,Nat.reduceLT,Nat.reduceLeDiff,Nat.reduceAdd,Nat.reduceMul,Nat.reduceMod,Nat.reduceDiv,Nat.reducePow,Nat.reduceSub,Nat.reduceBEq,Int.reduceLE,Int.reduceLT,Int.reduceEq,Int.reduceSub,Int.reduceAdd,Int.reduceToNat,Int.reduceNeg,m0,m1,m2,m3,m4,e1,FE,FF,De,Df,Dh]<;>(repeat' apply And.intro)<;>first|rfl|exact⟨_,rfl⟩|exact⟨_,_,rfl⟩|simp [AJ,A7]
theorem Uz(l:List Int)(lo:Int)(hi:Int){r:Bool}(h:Pz l lo hi=some r):Y.call 86 [D.sl 3 (AJ (D.int .i64) l),D.int .i64 lo,D.int .i64 hi] []=some (D.bool r,[]):=by
 refine c86 ?_ rfl
 unfold k86
 unfold Pz at h
 obtain⟨AZ,hl2,h⟩:=BP h
 try dsimp only at h
 simp (maxDischargeDepth:=9) only [↓AL,AB,AO,Ao,AC,AP,Ap,↓reduceIte,Nat.reduceEqDiff,Nat.reduceLT,Nat.reduceLeDiff,Nat.reduceAdd,Nat.reduceMul,Nat.reduceMod,Nat.reduceDiv,Nat.reducePow,Nat.reduceSub,Nat.reduceBEq,Int.reduceLE,Int.reduceLT,Int.reduceEq,Int.reduceSub,Int.reduceAdd,Int.reduceToNat,Int.reduceNeg]
 refine C8 (Sl l lo hi hl2 ?_) ?_
 ·simp (maxDischargeDepth:=9) only [↓AL,AB,AO,Ao,AC,AP,Ap,↓reduceIte,Nat.reduceEqDiff,Nat.reduceLT,Nat.reduceLeDiff,Nat.reduceAdd,Nat.reduceMul,Nat.reduceMod,Nat.reduceDiv,Nat.reducePow,Nat.reduceSub,Nat.reduceBEq,Int.reduceLE,Int.reduceLT,Int.reduceEq,Int.reduceSub,Int.reduceAdd,Int.reduceToNat,Int.reduceNeg,FE]<;>(repeat' apply And.intro)<;>first|rfl|exact⟨_,rfl⟩|exact⟨_,_,rfl⟩|simp [AJ,A7]
 ·intro ex2 s2 hX2
  rcases AZ with q1000_|q1000_
  ·unfold FF at hX2
   dsimp only at hX2 h
   obtain⟨rfl,n2_0⟩:=hX2
   obtain rfl:=Option.some.inj h
   simp (maxDischargeDepth:=9) only [↓AL,AB,AO,Ao,AC,AP,Ap,↓reduceIte,Nat.reduceEqDiff,Nat.reduceLT,Nat.reduceLeDiff,Nat.reduceAdd,Nat.reduceMul,Nat.reduceMod,Nat.reduceDiv,Nat.reducePow,Nat.reduceSub,Nat.reduceBEq,Int.reduceLE,Int.reduceLT,Int.reduceEq,Int.reduceSub,Int.reduceAdd,Int.reduceToNat,Int.reduceNeg,n2_0]<;>(repeat' apply And.intro)<;>first|rfl|exact⟨_,rfl⟩|exact⟨_,_,rfl⟩|simp [AJ,A7]
  ·unfold FF at hX2
   dsimp only at hX2 h
   obtain rfl:=hX2
   obtain rfl:=Option.some.inj h
   simp (maxDischargeDepth:=9) only [↓AL,AB,AO,Ao,AC,AP,Ap,↓reduceIte,Nat.reduceEqDiff,Nat.reduceLT,Nat.reduceLeDiff,Nat.reduceAdd,Nat.reduceMul,Nat.reduceMod,Nat.reduceDiv,Nat.reducePow,Nat.reduceSub,Nat.reduceBEq,Int.reduceLE,Int.reduceLT,Int.reduceEq,Int.reduceSub,Int.reduceAdd,Int.reduceToNat,Int.reduceNeg]<;>(repeat' apply And.intro)<;>first|rfl|exact⟨_,rfl⟩|exact⟨_,_,rfl⟩|simp [AJ,A7]
def Hz(l:List Int)(lo hi:Int):Bool:=l.all fun x=>Kr x lo hi
theorem Z7(l:List Int)(lo hi:Int)(h:l.length<1099511627776):Pz l lo hi=some (Hz l lo hi):=by
 unfold Pz Kt
 have key:=MJ (fun v=>GL l lo hi v) (fun i=>(i:Int)) l.length (fun i=>Kr (l.getD i default) lo hi) (.inl ()) (.inr ()) ?_ ?_
 ·simp only [Int.natCast_zero]at key
  rw [key,iO (fun x=>Kr x lo hi)]
  unfold Hz
  cases l.all (fun x=>Kr x lo hi)<;>rfl
 ·intro i hi
  simp only [GL]
  rw [if_pos (EJ hi),Cn (Hu hi),Int.toNat_natCast,PV i (by omega)]
 ·simp only [GL];rw [if_neg (Bq _)]
theorem Z8(l:List Int)(lo:Int)(hi:Int)(h0:l.length<1099511627776):Y.call 86 [D.sl 3 (AJ (D.int .i64) l),D.int .i64 lo,D.int .i64 hi] []=some (D.bool (Hz l lo hi),[]):=Uz l lo hi (Z7 l lo hi h0)
noncomputable def Aj(s_:List Int)(f:Int→Option Bool)(jZ:Int):Option ((Int)⊕(Int⊕Unit)):=
 if jZ<(s_.length:Int)then
  ck (0≤jZ∧jZ.toNat<s_.length)<|
  (f (s_.getD jZ.toNat default)).bind fun F7=>
  if F7=true then
   some (Sum.inr (Sum.inl jZ))
  else
   some (Sum.inl (IntKind.i64.wrap (jZ+1)))
 else
  some (Sum.inr (Sum.inr ()))
noncomputable def CK(s_:List Int)(f:Int→Option Bool)(v:Int):Option (Int⊕Unit):=Jk (fun v=>Aj s_ f v) v
noncomputable def Bt(s_:List Int)(f:Int→Option Bool):Option (Int):=
 (CK s_ f 0).bind fun AZ=>
 match AZ with
 | .inl q1000_=>
  some q1000_
 | .inr q1000_=>
  some (-1)
def RL:SC:=
 .seq
 (.ops [
 ⟨(some 9),(.binOp .lss 3 (.tmp 8) (.tmp 7) 3),0,none⟩])
 (.seq
 (.cond (.tmp 9)
 .skip
 (.exit 0))
 (.seq
 (.block 1
 (.seq
 (.ops [
 ⟨(some 10),(.move (.tmp 8)),3,none⟩,
 ⟨(some 5),(.assign (.tmp 10)),3,none⟩])
 (.seq
 (.ops [
 ⟨(some 11),(.move (.tmp 1)),129,none⟩,
 ⟨(some 12),(.move (.tmp 0)),70,none⟩,
 ⟨(some 13),(.move (.tmp 5)),3,none⟩,
 ⟨(some 14),(.indexAddr 70 (.tmp 12) (.tmp 13)),0,none⟩,
 ⟨(some 15),(.load 3 (.tmp 14)),3,none⟩,
 ⟨(some 16),(.call ⟨(.value (.tmp 11)), #[(.tmp 15)], #[3]⟩),4,none⟩])
 (.cond (.tmp 16)
 (.seq
 (.ops [
 ⟨(some 17),(.move (.tmp 5)),3,none⟩,
 ⟨(some 4),(.assign (.tmp 17)),3,none⟩])
 .ret)
 .skip))))
 (.ops [
 ⟨(some 18),(.binOp .add 3 (.tmp 8) (.const (.int .i64 1)) 3),3,none⟩,
 ⟨(some 8),(.move (.tmp 18)),3,none⟩])))
def Zq:SC:= .loop RL
def vX:SC:=
 .seq
 (.ops [
 ⟨(some 4),(.assign (.const (.int .i64 0))),3,none⟩])
 (.seq
 (.seq
 (.ops [
 ⟨(some 6),(.move (.tmp 0)),70,none⟩,
 ⟨(some 7),(.call ⟨(.builtin .len), #[(.tmp 6)], #[70]⟩),3,none⟩,
 ⟨(some 8),(.move (.const (.int .i64 0))),3,none⟩])
 (.block 0
 Zq))
 (.seq
 (.ops [
 ⟨(some 4),(.assign (.const (.int .i64 (-1)))),3,none⟩])
 .ret))
theorem lX:Tryd.f124.body.map (CY lends)=some vX:=by kernel_rfl
theorem A5o:DR Tryd.f124 2=true:=by kernel_rfl
theorem ACQ{a l:List D}{r:D×List D}(h:Cu Y.env vX (HZ Ak l.length [ResultVar.tmp 4] r) (entry a l))(ha:a.length=2):Y.call 124 a l=some r:=
 Ah (Y:=Y) rfl Tryd.func124 (ha▸A5o) lX h
def Az(s_:List Int)(f:Int→Option Bool)(f_f:FuncId)(f_c:List D)(jZ:Int)(s:St):Prop:=s.v 0=D.sl 3 (AJ (D.int .i64) s_)∧s.v 1=D.clo f_f f_c∧s.v 7=D.int .i64 (s_.length:Int)∧s.v 8=D.int .i64 jZ
def BA(s_:List Int)(f:Int→Option Bool)(f_f:FuncId)(f_c:List D)(r:Int⊕Unit)(ex:Ex)(s:St):Prop:=match r with
 | .inl q=>ex= .ret∧s.v 4=D.int .i64 q
 | .inr q=>ex= .exit 0
theorem Ha(s_:List Int)(f:Int→Option Bool)(f_f:FuncId)(f_c:List D)(f_h: ∀(a0:Int) (r:Bool),f a0=some r→Y.call f_f (D.int .i64 a0::f_c) []=some (D.bool r,[]))(f_l:lends f_f=false){v:Int}{s:St}{r:Int⊕Unit}(h:CK s_ f v=some r)(hM:Az s_ f f_f f_c v s):Cu Y.env Zq (BA s_ f f_f f_c r) s:=by
 unfold CK at h
 refine DL (c:=RL) (fun v=>Aj s_ f v) (fun v s=>Az s_ f f_f f_c v s) (BA s_ f f_f f_c) ?_ h hM
 clear h hM s v r
 intro jZ s o hM h
 unfold Aj at h
 unfold Az at hM
 obtain⟨m0,m1,m2,m3⟩:=hM
 unfold RL
 by_cases e1:jZ<(s_.length:Int)
 ·rw [if_pos e1]at h
  obtain⟨e2,h⟩:=Cf h
  obtain⟨F7,hl3,h⟩:=BP h
  try dsimp only at h
  have c3:=f_h _ _ hl3
  by_cases e4:F7=true
  ·rw [if_pos e4]at h
   obtain rfl:=Option.some.inj h
   simp (maxDischargeDepth:=9) only [↓AL,AB,AO,Ao,AC,AP,Ap,↓reduceIte,Nat.reduceEqDiff,Nat.reduceLT,Nat.reduceLeDiff,Nat.reduceAdd,Nat.reduceMul,Nat.reduceMod,Nat.reduceDiv,Nat.reducePow,Nat.reduceSub,Nat.reduceBEq,Int.reduceLE,Int.reduceLT,Int.reduceEq,Int.reduceSub,Int.reduceAdd,Int.reduceToNat,Int.reduceNeg,m0,m1,m2,m3,f_l,e1,e2.1,e2.2,c3,e4,Az,BA,De,Df,Dh]<;>(repeat' apply And.intro)<;>first|rfl|exact⟨_,rfl⟩|exact⟨_,_,rfl⟩|simp [AJ,A7]
  ·rw [if_neg e4]at h
   have e4f:F7=false:=Bool.eq_false_iff.mpr e4
   obtain rfl:=Option.some.inj h
   simp (maxDischargeDepth:=9) only [↓AL,AB,AO,Ao,AC,AP,Ap,↓reduceIte,Nat.reduceEqDiff,Nat.reduceLT,Nat.reduceLeDiff,Nat.reduceAdd,Nat.reduceMul,Nat.reduceMod,Nat.reduceDiv,Nat.reducePow,Nat.reduceSub,Nat.reduceBEq,Int.reduceLE,Int.reduceLT,Int.reduceEq,Int.reduceSub,Int.reduceAdd,Int.reduceToNat,Int.reduceNeg,m0,m1,m2,m3,f_l,e1,e2.1,e2.2,c3,e4f,Az,BA,De,Df,Dh]<;>(repeat' apply And.intro)<;>first|rfl|exact⟨_,rfl⟩|exact⟨_,_,rfl⟩|simp [AJ,A7]
 ·rw [if_neg e1]at h
  obtain rfl:=Option.some.inj h
  simp (maxDischargeDepth:=9) only [↓AL,AB,AO,Ao,AC,AP,Ap,↓reduceIte,Nat.reduceEqDiff,Nat.reduceLT,Nat.reduceLeDiff,Nat.reduceAdd,Nat.reduceMul,Nat.reduceMod,Nat.reduceDiv,Nat.reducePow,Nat.reduceSub,Nat.reduceBEq,Int.reduceLE,Int.reduceLT,Int.reduceEq,Int.reduceSub,Int.reduceAdd,Int.reduceToNat,Int.reduceNeg,m0,m1,m2,m3,f_l,e1,Az,BA,De,Df,Dh]<;>(repeat' apply And.intro)<;>first|rfl|exact⟨_,rfl⟩|exact⟨_,_,rfl⟩|simp [AJ,A7]
theorem I1(s_:List Int)(f:Int→Option Bool)(f_f:FuncId)(f_c:List D)(f_h: ∀(a0:Int) (r:Bool),f a0=some r→Y.call f_f (D.int .i64 a0::f_c) []=some (D.bool r,[]))(f_l:lends f_f=false){r:Int}(h:Bt s_ f=some r):Y.call 124 [D.sl 3 (AJ (D.int .i64) s_),D.clo f_f f_c] []=some (D.int .i64 r,[]):=by
 refine ACQ ?_ rfl
 unfold vX
 unfold Bt at h
 obtain⟨AZ,hl2,h⟩:=BP h
 try dsimp only at h
 simp (maxDischargeDepth:=9) only [↓AL,AB,AO,Ao,AC,AP,Ap,↓reduceIte,Nat.reduceEqDiff,Nat.reduceLT,Nat.reduceLeDiff,Nat.reduceAdd,Nat.reduceMul,Nat.reduceMod,Nat.reduceDiv,Nat.reducePow,Nat.reduceSub,Nat.reduceBEq,Int.reduceLE,Int.reduceLT,Int.reduceEq,Int.reduceSub,Int.reduceAdd,Int.reduceToNat,Int.reduceNeg,f_l]
 refine C8 (Ha s_ f f_f f_c f_h f_l hl2 ?_) ?_
 ·simp (maxDischargeDepth:=9) only [↓AL,AB,AO,Ao,AC,AP,Ap,↓reduceIte,Nat.reduceEqDiff,Nat.reduceLT,Nat.reduceLeDiff,Nat.reduceAdd,Nat.reduceMul,Nat.reduceMod,Nat.reduceDiv,Nat.reducePow,Nat.reduceSub,Nat.reduceBEq,Int.reduceLE,Int.reduceLT,Int.reduceEq,Int.reduceSub,Int.reduceAdd,Int.reduceToNat,Int.reduceNeg,f_l,Az]<;>(repeat' apply And.intro)<;>first|rfl|exact⟨_,rfl⟩|exact⟨_,_,rfl⟩|simp [AJ,A7]
 ·intro ex2 s2 hX2
  rcases AZ with q1000_|q1000_
  ·unfold BA at hX2
   dsimp only at hX2 h
   obtain⟨rfl,n2_0⟩:=hX2
   obtain rfl:=Option.some.inj h
   simp (maxDischargeDepth:=9) only [↓AL,AB,AO,Ao,AC,AP,Ap,↓reduceIte,Nat.reduceEqDiff,Nat.reduceLT,Nat.reduceLeDiff,Nat.reduceAdd,Nat.reduceMul,Nat.reduceMod,Nat.reduceDiv,Nat.reducePow,Nat.reduceSub,Nat.reduceBEq,Int.reduceLE,Int.reduceLT,Int.reduceEq,Int.reduceSub,Int.reduceAdd,Int.reduceToNat,Int.reduceNeg,f_l,n2_0]<;>(repeat' apply And.intro)<;>first|rfl|exact⟨_,rfl⟩|exact⟨_,_,rfl⟩|simp [AJ,A7]
  ·unfold BA at hX2
   dsimp only at hX2 h
   obtain rfl:=hX2
   obtain rfl:=Option.some.inj h
   simp (maxDischargeDepth:=9) only [↓AL,AB,AO,Ao,AC,AP,Ap,↓reduceIte,Nat.reduceEqDiff,Nat.reduceLT,Nat.reduceLeDiff,Nat.reduceAdd,Nat.reduceMul,Nat.reduceMod,Nat.reduceDiv,Nat.reducePow,Nat.reduceSub,Nat.reduceBEq,Int.reduceLE,Int.reduceLT,Int.reduceEq,Int.reduceSub,Int.reduceAdd,Int.reduceToNat,Int.reduceNeg,f_l]<;>(repeat' apply And.intro)<;>first|rfl|exact⟨_,rfl⟩|exact⟨_,_,rfl⟩|simp [AJ,A7]
noncomputable def Bh(s_:List Int)(f:Int→Option Bool):Option (Bool):=
 (Bt s_ f).bind fun r7_=>
 some (decide (0≤r7_))
def vY:SC:=
 .seq
 (.ops [
 ⟨(some 4),(.assign (.const (.bool false))),4,none⟩])
 (.seq
 (.ops [
 ⟨(some 5),(.move (.tmp 0)),70,none⟩,
 ⟨(some 6),(.move (.tmp 1)),129,none⟩,
 ⟨(some 7),(.call ⟨(.value (.func 124)), #[(.tmp 5),(.tmp 6)], #[70,129]⟩),3,none⟩,
 ⟨(some 8),(.binOp .geq 3 (.tmp 7) (.const (.int .i64 0)) 3),4,none⟩,
 ⟨(some 4),(.assign (.tmp 8)),4,none⟩])
 .ret)
theorem lY:Tryd.f107.body.map (CY lends)=some vY:=by kernel_rfl
theorem A5p:DR Tryd.f107 2=true:=by kernel_rfl
theorem ACR{a l:List D}{r:D×List D}(h:Cu Y.env vY (HZ Ak l.length [ResultVar.tmp 4] r) (entry a l))(ha:a.length=2):Y.call 107 a l=some r:=
 Ah (Y:=Y) rfl Tryd.func107 (ha▸A5p) lY h
theorem Gj(s_:List Int)(f:Int→Option Bool)(f_f:FuncId)(f_c:List D)(f_h: ∀(a0:Int) (r:Bool),f a0=some r→Y.call f_f (D.int .i64 a0::f_c) []=some (D.bool r,[]))(f_l:lends f_f=false){r:Bool}(h:Bh s_ f=some r):Y.call 107 [D.sl 3 (AJ (D.int .i64) s_),D.clo f_f f_c] []=some (D.bool r,[]):=by
 refine ACR ?_ rfl
 unfold vY
 unfold Bh at h
 obtain⟨r7_,hl1,h⟩:=BP h
 try dsimp only at h
 have c1:=I1 s_ f f_f f_c f_h f_l hl1
 obtain rfl:=Option.some.inj h
 simp (maxDischargeDepth:=9) only [↓AL,AB,AO,Ao,AC,AP,Ap,↓reduceIte,Nat.reduceEqDiff,Nat.reduceLT,Nat.reduceLeDiff,Nat.reduceAdd,Nat.reduceMul,Nat.reduceMod,Nat.reduceDiv,Nat.reducePow,Nat.reduceSub,Nat.reduceBEq,Int.reduceLE,Int.reduceLT,Int.reduceEq,Int.reduceSub,Int.reduceAdd,Int.reduceToNat,Int.reduceNeg,f_l,c1]<;>(repeat' apply And.intro)<;>first|rfl|exact⟨_,rfl⟩|exact⟨_,_,rfl⟩|simp [AJ,A7]
noncomputable def Gl(n_:Int)(c0_:Int)(c1_:Int):Option (Bool):=
 some (!(Kr n_ c0_ c1_))
def vZ:SC:=
 .seq
 (.ops [
 ⟨(some 4),(.assign (.const (.bool false))),4,none⟩])
 (.seq
 (.ops [
 ⟨(some 5),(.move (.tmp 0)),3,none⟩,
 ⟨(some 6),(.load 3 (.tmp 1)),3,none⟩,
 ⟨(some 7),(.load 3 (.tmp 2)),3,none⟩,
 ⟨(some 8),(.call ⟨(.value (.func 54)), #[(.tmp 5),(.tmp 6),(.tmp 7)], #[3,3,3]⟩),4,none⟩,
 ⟨(some 9),(.unOp .not 4 (.tmp 8)),4,none⟩,
 ⟨(some 4),(.assign (.tmp 9)),4,none⟩])
 .ret)
theorem lZ:Tryd.f108.body.map (CY lends)=some vZ:=by kernel_rfl
theorem A5q:DR Tryd.f108 3=true:=by kernel_rfl
theorem ACS{a l:List D}{r:D×List D}(h:Cu Y.env vZ (HZ Ak l.length [ResultVar.tmp 4] r) (entry a l))(ha:a.length=3):Y.call 108 a l=some r:=
 Ah (Y:=Y) rfl Tryd.func108 (ha▸A5q) lZ h
theorem ND(n_:Int)(c0_:Int)(c1_:Int){r:Bool}(h:Gl n_ c0_ c1_=some r):Y.call 108 [D.int .i64 n_,D.cptr [D.int .i64 c0_],D.cptr [D.int .i64 c1_]] []=some (D.bool r,[]):=by
 refine ACS ?_ rfl
 unfold vZ
 unfold Gl at h
 have c1:=Ll n_ c0_ c1_
 obtain rfl:=Option.some.inj h
 simp (maxDischargeDepth:=9) only [↓AL,AB,AO,Ao,AC,AP,Ap,↓reduceIte,Nat.reduceEqDiff,Nat.reduceLT,Nat.reduceLeDiff,Nat.reduceAdd,Nat.reduceMul,Nat.reduceMod,Nat.reduceDiv,Nat.reducePow,Nat.reduceSub,Nat.reduceBEq,Int.reduceLE,Int.reduceLT,Int.reduceEq,Int.reduceSub,Int.reduceAdd,Int.reduceToNat,Int.reduceNeg,c1]<;>(repeat' apply And.intro)<;>first|rfl|exact⟨_,rfl⟩|exact⟨_,_,rfl⟩|simp [AJ,A7]
noncomputable def Jr(list:List Int)(low:Int)(high:Int):Option (Bool):=
 (Bh list (fun a0=>Gl a0 low high)).bind fun vg=>
 some (!vg)
def k89:SC:=
 .seq
 (.ops [
 ⟨(some 4),(.box 3 (.tmp 1)),0,none⟩,
 ⟨(some 5),(.box 3 (.tmp 2)),0,none⟩,
 ⟨(some 6),(.assign (.const (.bool false))),4,none⟩])
 (.seq
 (.ops [
 ⟨(some 7),(.move (.tmp 0)),70,none⟩,
 ⟨(some 8),(.makeFunc (Fn.func 108) #[] #[(.tmp 4),(.tmp 5)]),129,none⟩,
 ⟨(some 9),(.call ⟨(.value (.func 107)), #[(.tmp 7),(.tmp 8)], #[70,129]⟩),4,none⟩,
 ⟨(some 10),(.unOp .not 4 (.tmp 9)),4,none⟩,
 ⟨(some 6),(.assign (.tmp 10)),4,none⟩])
 .ret)
theorem vk:Tryd.f89.body.map (CY lends)=some k89:=by kernel_rfl
theorem ACU:DR Tryd.f89 3=true:=by kernel_rfl
theorem c89{a l:List D}{r:D×List D}(h:Cu Y.env k89 (HZ Ak l.length [ResultVar.tmp 6] r) (entry a l))(ha:a.length=3):Y.call 89 a l=some r:=
 Ah (Y:=Y) rfl Tryd.func89 (ha▸ACU) vk h
theorem Ou(list:List Int)(low:Int)(high:Int){r:Bool}(h:Jr list low high=some r):Y.call 89 [D.sl 3 (AJ (D.int .i64) list),D.int .i64 low,D.int .i64 high] []=some (D.bool r,[]):=by
 refine c89 ?_ rfl
 unfold k89
 unfold Jr at h
 obtain⟨vg,hl1,h⟩:=BP h
 try dsimp only at h
 have c1:=Gj list (fun a0=>Gl a0 low high) 108 [D.cptr [D.int .i64 low],D.cptr [D.int .i64 high]] (fun a0 _ hh=>ND a0 low high hh) iQ hl1
 obtain rfl:=Option.some.inj h
 simp (maxDischargeDepth:=9) only [↓AL,AB,AO,Ao,AC,AP,Ap,↓reduceIte,Nat.reduceEqDiff,Nat.reduceLT,Nat.reduceLeDiff,Nat.reduceAdd,Nat.reduceMul,Nat.reduceMod,Nat.reduceDiv,Nat.reducePow,Nat.reduceSub,Nat.reduceBEq,Int.reduceLE,Int.reduceLT,Int.reduceEq,Int.reduceSub,Int.reduceAdd,Int.reduceToNat,Int.reduceNeg,c1]<;>(repeat' apply And.intro)<;>first|rfl|exact⟨_,rfl⟩|exact⟨_,_,rfl⟩|simp [AJ,A7]
theorem V3(l:List Int)(f:Int→Option Bool)(p:Int→Bool)(h:l.length<1099511627776)(hf: ∀x∈l,f x=some (p x)):
  ∃r,Bt l f=some r∧(0≤r↔l.any p=true):=by
 unfold Bt CK
 by_cases ha: ∀i,i<l.length→(!p (l.getD i default))=true
 ·have key:=JC (fun v=>Aj l f v) (fun i=>(i:Int)) l.length (.inr ()) ?_ ?_
  ·simp only [Int.natCast_zero]at key
   rw [key]
   refine⟨-1,rfl,by simp,fun hc=> ?_⟩
   obtain⟨x,hx,hpx⟩:=List.any_eq_true.1 hc
   obtain⟨i,hi,rfl⟩:=List.getElem_of_mem hx
   have:=ha i hi
   rw [Cm _ _ hi,hpx]at this;cases this
  ·intro i hi
   simp only [Aj]
   have e:=ha i hi
   rw [Cm _ _ hi]at e
   rw [if_pos (EJ hi),Cn (Hu hi),Nr _ _ hi,hf _ (List.getElem_mem hi),Option.bind_some,if_neg (by cases hp:p l[i]<;>simp_all),PV i (by omega)]
  ·simp only [Aj];rw [if_neg (Bq _)]
 ·obtain⟨m,h1,h2,h3⟩:=RD (P:=fun i=> !p (l.getD i default)) ha
  have key:=JC (fun v=>Aj l f v) (fun i=>(i:Int)) m (.inl (m:Int)) ?_ ?_
  ·simp only [Int.natCast_zero]at key
   rw [key]
   refine⟨(m:Int),rfl,fun _=> ?_,fun _=>by omega⟩
   have h2':p l[m]=true:=by rw [Cm _ _ h1]at h2;simpa using h2
   exact List.any_eq_true.2 ⟨_,List.getElem_mem h1,h2'⟩
  ·intro i hi
   simp only [Aj]
   have e:=h3 i hi
   rw [Cm _ _ (by omega)]at e
   rw [if_pos (EJ (by omega)),Cn (Hu (by omega)),Nr _ _ (by omega),hf _ (List.getElem_mem _),Option.bind_some,if_neg (by cases hp:p l[i]<;>simp_all),PV i (by omega)]
  ·simp only [Aj]
   have h2':p l[m]=true:=by rw [Cm _ _ h1]at h2;simpa using h2
   rw [if_pos (EJ h1),Cn (Hu h1),Nr _ _ h1,hf _ (List.getElem_mem _),Option.bind_some,if_pos h2']
theorem Pp(l:List Int)(f:Int→Option Bool)(p:Int→Bool)(h:l.length<1099511627776)(hf: ∀x∈l,f x=some (p x)):Bh l f=some (l.any p):=by
 obtain⟨r,h1,h2⟩:=V3 l f p h hf
 unfold Bh
 rw [h1,Option.bind_some]
 congr 1
 rw [Bool.eq_iff_iff];simpa using h2
theorem RN(l:List Int)(lo hi:Int)(h:l.length<1099511627776):Jr l lo hi=some (Hz l lo hi):=by
 unfold Jr
 rw [Pp l (fun a0=>Gl a0 lo hi) (fun x=> !Kr x lo hi) h (fun x _=>rfl),Option.bind_some]
 unfold Hz
 rw [List.all_eq_not_any_not]
theorem RO(list:List Int)(low:Int)(high:Int)(h0:list.length<1099511627776):Y.call 89 [D.sl 3 (AJ (D.int .i64) list),D.int .i64 low,D.int .i64 high] []=some (D.bool (Hz list low high),[]):=Ou list low high (RN list low high h0)
noncomputable def Ct(x_:Int):Option (Bool):=
 some false
def vo:SC:=
 .seq
 (.ops [
 ⟨(some 2),(.assign (.const (.bool false))),4,none⟩])
 (.seq
 (.ops [
 ⟨(some 3),(.move (.tmp 0)),3,none⟩,
 ⟨(some 4),(.move (.tmp 0)),3,none⟩,
 ⟨(some 5),(.binOp .neq 3 (.tmp 3) (.tmp 4) 3),4,none⟩,
 ⟨(some 2),(.assign (.tmp 5)),4,none⟩])
 .ret)
theorem lg:Tryd.f123.body.map (CY lends)=some vo:=by kernel_rfl
theorem A5r:DR Tryd.f123 1=true:=by kernel_rfl
theorem ACV{a l:List D}{r:D×List D}(h:Cu Y.env vo (HZ Ak l.length [ResultVar.tmp 2] r) (entry a l))(ha:a.length=1):Y.call 123 a l=some r:=
 Ah (Y:=Y) rfl Tryd.func123 (ha▸A5r) lg h
theorem EQ(x_:Int){r:Bool}(h:Ct x_=some r):Y.call 123 [D.int .i64 x_] []=some (D.bool r,[]):=by
 refine ACV ?_ rfl
 unfold vo
 unfold Ct at h
 obtain rfl:=Option.some.inj h
 simp (maxDischargeDepth:=9) only [↓AL,AB,AO,Ao,AC,AP,Ap,↓reduceIte,Nat.reduceEqDiff,Nat.reduceLT,Nat.reduceLeDiff,Nat.reduceAdd,Nat.reduceMul,Nat.reduceMod,Nat.reduceDiv,Nat.reducePow,Nat.reduceSub,Nat.reduceBEq,Int.reduceLE,Int.reduceLT,Int.reduceEq,Int.reduceSub,Int.reduceAdd,Int.reduceToNat,Int.reduceNeg]<;>(repeat' apply And.intro)<;>first|rfl|exact⟨_,rfl⟩|exact⟨_,_,rfl⟩|simp [AJ,A7]
noncomputable def G6(x_:Int)(y:Int):Option (Bool):=
 (Ct x_).bind fun r6_=>
 if r6_=true then
  (Ct y).bind fun vg=>
  if vg=true then
   some (decide (x_<y))
  else
   some true
 else
  some (decide (x_<y))
def vz:SC:=
 .seq
 (.ops [
 ⟨(some 4),(.assign (.const (.bool false))),4,none⟩])
 (.seq
 (.ops [
 ⟨(some 5),(.move (.tmp 0)),3,none⟩,
 ⟨(some 6),(.call ⟨(.value (.func 123)), #[(.tmp 5)], #[3]⟩),4,none⟩,
 ⟨(some 7),(.move (.tmp 6)),4,none⟩,
 ⟨(some 8),(.move (.tmp 1)),3,(some (some 7,true))⟩,
 ⟨(some 9),(.call ⟨(.value (.func 123)), #[(.tmp 8)], #[3]⟩),4,(some (some 7,true))⟩,
 ⟨(some 10),(.unOp .not 4 (.tmp 9)),4,(some (some 7,true))⟩,
 ⟨(some 11),(.pick (.tmp 7) (.tmp 10) (.const (.bool false))),4,none⟩,
 ⟨(some 12),(.move (.tmp 11)),4,none⟩,
 ⟨(some 13),(.move (.tmp 0)),3,(some (some 12,false))⟩,
 ⟨(some 14),(.move (.tmp 1)),3,(some (some 12,false))⟩,
 ⟨(some 15),(.binOp .lss 3 (.tmp 13) (.tmp 14) 3),4,(some (some 12,false))⟩,
 ⟨(some 16),(.pick (.tmp 12) (.const (.bool true)) (.tmp 15)),4,none⟩,
 ⟨(some 4),(.assign (.tmp 16)),4,none⟩])
 .ret)
theorem lh:Tryd.f106.body.map (CY lends)=some vz:=by kernel_rfl
theorem A5s:DR Tryd.f106 2=true:=by kernel_rfl
theorem ACW{a l:List D}{r:D×List D}(h:Cu Y.env vz (HZ Ak l.length [ResultVar.tmp 4] r) (entry a l))(ha:a.length=2):Y.call 106 a l=some r:=
 Ah (Y:=Y) rfl Tryd.func106 (ha▸A5s) lh h
theorem MV(x_:Int)(y:Int){r:Bool}(h:G6 x_ y=some r):Y.call 106 [D.int .i64 x_,D.int .i64 y] []=some (D.bool r,[]):=by
 refine ACW ?_ rfl
 unfold vz
 unfold G6 at h
 obtain⟨r6_,hl1,h⟩:=BP h
 try dsimp only at h
 have c1:=EQ x_ hl1
 by_cases e2:r6_=true
 ·rw [if_pos e2]at h
  obtain⟨vg,hl3,h⟩:=BP h
  try dsimp only at h
  have c3:=EQ y hl3
  by_cases e4:vg=true
  ·rw [if_pos e4]at h
   obtain rfl:=Option.some.inj h
   simp (maxDischargeDepth:=9) only [↓AL,AB,AO,Ao,AC,AP,Ap,↓reduceIte,Nat.reduceEqDiff,Nat.reduceLT,Nat.reduceLeDiff,Nat.reduceAdd,Nat.reduceMul,Nat.reduceMod,Nat.reduceDiv,Nat.reducePow,Nat.reduceSub,Nat.reduceBEq,Int.reduceLE,Int.reduceLT,Int.reduceEq,Int.reduceSub,Int.reduceAdd,Int.reduceToNat,Int.reduceNeg,c1,e2,c3,e4]<;>(repeat' apply And.intro)<;>first|rfl|exact⟨_,rfl⟩|exact⟨_,_,rfl⟩|simp [AJ,A7]
  ·rw [if_neg e4]at h
   have e4f:vg=false:=Bool.eq_false_iff.mpr e4
   obtain rfl:=Option.some.inj h
   simp (maxDischargeDepth:=9) only [↓AL,AB,AO,Ao,AC,AP,Ap,↓reduceIte,Nat.reduceEqDiff,Nat.reduceLT,Nat.reduceLeDiff,Nat.reduceAdd,Nat.reduceMul,Nat.reduceMod,Nat.reduceDiv,Nat.reducePow,Nat.reduceSub,Nat.reduceBEq,Int.reduceLE,Int.reduceLT,Int.reduceEq,Int.reduceSub,Int.reduceAdd,Int.reduceToNat,Int.reduceNeg,c1,e2,c3,e4f]<;>(repeat' apply And.intro)<;>first|rfl|exact⟨_,rfl⟩|exact⟨_,_,rfl⟩|simp [AJ,A7]
 ·rw [if_neg e2]at h
  have e2f:r6_=false:=Bool.eq_false_iff.mpr e2
  obtain rfl:=Option.some.inj h
  simp (maxDischargeDepth:=9) only [↓AL,AB,AO,Ao,AC,AP,Ap,↓reduceIte,Nat.reduceEqDiff,Nat.reduceLT,Nat.reduceLeDiff,Nat.reduceAdd,Nat.reduceMul,Nat.reduceMod,Nat.reduceDiv,Nat.reducePow,Nat.reduceSub,Nat.reduceBEq,Int.reduceLE,Int.reduceLT,Int.reduceEq,Int.reduceSub,Int.reduceAdd,Int.reduceToNat,Int.reduceNeg,c1,e2f]<;>(repeat' apply And.intro)<;>first|rfl|exact⟨_,rfl⟩|exact⟨_,_,rfl⟩|simp [AJ,A7]
noncomputable def BF(x_:List Int)(i:Int):Option ((Int)⊕(Unit⊕Unit)):=
 if 0<i then
  ck (0≤i∧i.toNat<x_.length)<|
  ck (0≤IntKind.i64.wrap (i-1)∧(IntKind.i64.wrap (i-1)).toNat<x_.length)<|
  (G6 (x_.getD i.toNat default) (x_.getD ((IntKind.i64.wrap (i-1)).toNat) default)).bind fun ll=>
  if ll=true then
   some (Sum.inr (Sum.inl ()))
  else
   some (Sum.inl (IntKind.i64.wrap (i-1)))
 else
  some (Sum.inr (Sum.inr ()))
noncomputable def CS(x_:List Int)(v:Int):Option (Unit⊕Unit):=Jk (fun v=>BF x_ v) v
noncomputable def Co(x_:List Int):Option (Bool):=
 (CS x_ (IntKind.i64.wrap ((x_.length:Int)-1))).bind fun AZ=>
 match AZ with
 | .inl q1000_=>
  some false
 | .inr q1000_=>
  some true
def V4:SC:=
 .seq
 (.seq
 (.ops [
 ⟨(some 7),(.move (.tmp 3)),3,none⟩,
 ⟨(some 8),(.binOp .gtr 3 (.tmp 7) (.const (.int .i64 0)) 3),4,none⟩])
 (.cond (.tmp 8)
 .skip
 (.exit 0)))
 (.seq
 (.block 1
 (.seq
 (.draws [
 (⟨[11,0,0],[11,12,13,14,15,16,17,18,19,20],[11]⟩,⟨(some 11),(.move (.tmp 0)),70,none⟩),
 (⟨[12,3,3],[11,12,13,14,15,16,17,18,19,20],[12]⟩,⟨(some 12),(.move (.tmp 3)),3,none⟩),
 (⟨[13,11,12,0,3],[11,12,13,14,15,16,17,18,19,20],[13]⟩,⟨(some 13),(.indexAddr 70 (.tmp 11) (.tmp 12)),0,none⟩),
 (⟨[14,13,0],[11,12,13,14,15,16,17,18,19,20],[14]⟩,⟨(some 14),(.load 3 (.tmp 13)),3,none⟩),
 (⟨[15,0,0],[11,12,13,14,15,16,17,18,19,20],[15]⟩,⟨(some 15),(.move (.tmp 0)),70,none⟩),
 (⟨[16,3,3],[11,12,13,14,15,16,17,18,19,20],[16]⟩,⟨(some 16),(.move (.tmp 3)),3,none⟩),
 (⟨[17,16,3],[11,12,13,14,15,16,17,18,19,20],[17]⟩,⟨(some 17),(.binOp .sub 3 (.tmp 16) (.const (.int .i64 1)) 3),3,none⟩),
 (⟨[18,15,17,0,17],[11,12,13,14,15,16,17,18,19,20],[18]⟩,⟨(some 18),(.indexAddr 70 (.tmp 15) (.tmp 17)),0,none⟩),
 (⟨[19,18,0],[11,12,13,14,15,16,17,18,19,20],[19]⟩,⟨(some 19),(.load 3 (.tmp 18)),3,none⟩),
 (⟨[20,14,19,0,0],[11,12,13,14,15,16,17,18,19,20],[20]⟩,⟨(some 20),(.call ⟨(.value (.func 106)), #[(.tmp 14),(.tmp 19)], #[3,3]⟩),4,none⟩)])
 (.cond (.tmp 20)
 (.seq
 (.ops [
 ⟨(some 2),(.assign (.const (.bool false))),4,none⟩])
 .ret)
 .skip)))
 (.ops [
 ⟨(some 9),(.move (.tmp 3)),3,none⟩,
 ⟨(some 10),(.binOp .sub 3 (.tmp 9) (.const (.int .i64 1)) 3),3,none⟩,
 ⟨(some 3),(.assign (.tmp 10)),3,none⟩]))
def iy:SC:= .loop V4
def k88:SC:=
 .seq
 (.ops [
 ⟨(some 2),(.assign (.const (.bool false))),4,none⟩])
 (.seq
 (.seq
 (.ops [
 ⟨(some 4),(.move (.tmp 0)),70,none⟩,
 ⟨(some 5),(.call ⟨(.builtin .len), #[(.tmp 4)], #[70]⟩),3,none⟩,
 ⟨(some 6),(.binOp .sub 3 (.tmp 5) (.const (.int .i64 1)) 3),3,none⟩,
 ⟨(some 3),(.assign (.tmp 6)),3,none⟩])
 (.block 0
 iy))
 (.seq
 (.ops [
 ⟨(some 2),(.assign (.const (.bool true))),4,none⟩])
 .ret))
theorem w9:Tryd.f88.body.map (CY lends)=some k88:=by kernel_rfl
theorem ACY:DR Tryd.f88 1=true:=by kernel_rfl
theorem c88{a l:List D}{r:D×List D}(h:Cu Y.env k88 (HZ Ak l.length [ResultVar.tmp 2] r) (entry a l))(ha:a.length=1):Y.call 88 a l=some r:=
 Ah (Y:=Y) rfl Tryd.func88 (ha▸ACY) w9 h
def BG(x_:List Int)(i:Int)(s:St):Prop:=s.v 0=D.sl 3 (AJ (D.int .i64) x_)∧s.v 3=D.int .i64 i
def BH(x_:List Int)(r:Unit⊕Unit)(ex:Ex)(s:St):Prop:=match r with
 | .inl q=>ex= .ret∧s.v 2=D.bool false
 | .inr q=>ex= .exit 0
theorem I4(x_:List Int){v:Int}{s:St}{r:Unit⊕Unit}(h:CS x_ v=some r)(hM:BG x_ v s):Cu Y.env iy (BH x_ r) s:=by
 unfold CS at h
 refine DL (c:=V4) (fun v=>BF x_ v) (fun v s=>BG x_ v s) (BH x_) ?_ h hM
 clear h hM s v r
 intro i s o hM h
 unfold BF at h
 unfold BG at hM
 obtain⟨m0,m1⟩:=hM
 unfold V4
 by_cases e1:0<i
 ·rw [if_pos e1]at h
  obtain⟨e2,h⟩:=Cf h
  obtain⟨e3,h⟩:=Cf h
  obtain⟨ll,hl4,h⟩:=BP h
  try dsimp only at h
  have c4:=MV (x_.getD i.toNat default) (x_.getD ((IntKind.i64.wrap (i-1)).toNat) default) hl4
  by_cases e5:ll=true
  ·rw [if_pos e5]at h
   obtain rfl:=Option.some.inj h
   simp (maxDischargeDepth:=9) only [↓AL,AB,AO,Ao,AC,AP,Ap,↓reduceIte,Nat.reduceEqDiff,Nat.reduceLT,Nat.reduceLeDiff,Nat.reduceAdd,Nat.reduceMul,Nat.reduceMod,Nat.reduceDiv,Nat.reducePow,Nat.reduceSub,Nat.reduceBEq,Int.reduceLE,Int.reduceLT,Int.reduceEq,Int.reduceSub,Int.reduceAdd,Int.reduceToNat,Int.reduceNeg,m0,m1,e1,e2.1,e2.2,e3.1,e3.2,c4,e5,BG,BH,De,Df,Dh]<;>(repeat' apply And.intro)<;>first|rfl|exact⟨_,rfl⟩|exact⟨_,_,rfl⟩|simp [AJ,A7]
  ·rw [if_neg e5]at h
   have e5f:ll=false:=Bool.eq_false_iff.mpr e5
   obtain rfl:=Option.some.inj h
   simp (maxDischargeDepth:=9) only [↓AL,AB,AO,Ao,AC,AP,Ap,↓reduceIte,Nat.reduceEqDiff,Nat.reduceLT,Nat.reduceLeDiff,Nat.reduceAdd,Nat.reduceMul,Nat.reduceMod,Nat.reduceDiv,Nat.reducePow,Nat.reduceSub,Nat.reduceBEq,Int.reduceLE,Int.reduceLT,Int.reduceEq,Int.reduceSub,Int.reduceAdd,Int.reduceToNat,Int.reduceNeg,m0,m1,e1,e2.1,e2.2,e3.1,e3.2,c4,e5f,BG,BH,De,Df,Dh]<;>(repeat' apply And.intro)<;>first|rfl|exact⟨_,rfl⟩|exact⟨_,_,rfl⟩|simp [AJ,A7]
 ·rw [if_neg e1]at h
  obtain rfl:=Option.some.inj h
  simp (maxDischargeDepth:=9) only [↓AL,AB,AO,Ao,AC,AP,Ap,↓reduceIte,Nat.reduceEqDiff,Nat.reduceLT,Nat.reduceLeDiff,Nat.reduceAdd,Nat.reduceMul,Nat.reduceMod,Nat.reduceDiv,Nat.reducePow,Nat.reduceSub,Nat.reduceBEq,Int.reduceLE,Int.reduceLT,Int.reduceEq,Int.reduceSub,Int.reduceAdd,Int.reduceToNat,Int.reduceNeg,m0,m1,e1,BG,BH,De,Df,Dh]<;>(repeat' apply And.intro)<;>first|rfl|exact⟨_,rfl⟩|exact⟨_,_,rfl⟩|simp [AJ,A7]
theorem IE(x_:List Int){r:Bool}(h:Co x_=some r):Y.call 88 [D.sl 3 (AJ (D.int .i64) x_)] []=some (D.bool r,[]):=by
 refine c88 ?_ rfl
 unfold k88
 unfold Co at h
 obtain⟨AZ,hl2,h⟩:=BP h
 try dsimp only at h
 simp (maxDischargeDepth:=9) only [↓AL,AB,AO,Ao,AC,AP,Ap,↓reduceIte,Nat.reduceEqDiff,Nat.reduceLT,Nat.reduceLeDiff,Nat.reduceAdd,Nat.reduceMul,Nat.reduceMod,Nat.reduceDiv,Nat.reducePow,Nat.reduceSub,Nat.reduceBEq,Int.reduceLE,Int.reduceLT,Int.reduceEq,Int.reduceSub,Int.reduceAdd,Int.reduceToNat,Int.reduceNeg]
 refine C8 (I4 x_ hl2 ?_) ?_
 ·simp (maxDischargeDepth:=9) only [↓AL,AB,AO,Ao,AC,AP,Ap,↓reduceIte,Nat.reduceEqDiff,Nat.reduceLT,Nat.reduceLeDiff,Nat.reduceAdd,Nat.reduceMul,Nat.reduceMod,Nat.reduceDiv,Nat.reducePow,Nat.reduceSub,Nat.reduceBEq,Int.reduceLE,Int.reduceLT,Int.reduceEq,Int.reduceSub,Int.reduceAdd,Int.reduceToNat,Int.reduceNeg,BG]<;>(repeat' apply And.intro)<;>first|rfl|exact⟨_,rfl⟩|exact⟨_,_,rfl⟩|simp [AJ,A7]
 ·intro ex2 s2 hX2
  rcases AZ with q1000_|q1000_
  ·unfold BH at hX2
   dsimp only at hX2 h
   obtain⟨rfl,n2_0⟩:=hX2
   obtain rfl:=Option.some.inj h
   simp (maxDischargeDepth:=9) only [↓AL,AB,AO,Ao,AC,AP,Ap,↓reduceIte,Nat.reduceEqDiff,Nat.reduceLT,Nat.reduceLeDiff,Nat.reduceAdd,Nat.reduceMul,Nat.reduceMod,Nat.reduceDiv,Nat.reducePow,Nat.reduceSub,Nat.reduceBEq,Int.reduceLE,Int.reduceLT,Int.reduceEq,Int.reduceSub,Int.reduceAdd,Int.reduceToNat,Int.reduceNeg,n2_0]<;>(repeat' apply And.intro)<;>first|rfl|exact⟨_,rfl⟩|exact⟨_,_,rfl⟩|simp [AJ,A7]
  ·unfold BH at hX2
   dsimp only at hX2 h
   obtain rfl:=hX2
   obtain rfl:=Option.some.inj h
   simp (maxDischargeDepth:=9) only [↓AL,AB,AO,Ao,AC,AP,Ap,↓reduceIte,Nat.reduceEqDiff,Nat.reduceLT,Nat.reduceLeDiff,Nat.reduceAdd,Nat.reduceMul,Nat.reduceMod,Nat.reduceDiv,Nat.reducePow,Nat.reduceSub,Nat.reduceBEq,Int.reduceLE,Int.reduceLT,Int.reduceEq,Int.reduceSub,Int.reduceAdd,Int.reduceToNat,Int.reduceNeg]<;>(repeat' apply And.intro)<;>first|rfl|exact⟨_,rfl⟩|exact⟨_,_,rfl⟩|simp [AJ,A7]
def FH(l:List Int):Bool:=(List.range (l.length-1)).all fun i=>decide (l.getD i default≤l.getD (i+1) default)
theorem Iq(l:List Int)(h:l.length<1099511627776):Co l=some (FH l):=by
 unfold Co CS
 rw [KQ _ (by omega)]
 rcases Nat.eq_zero_or_pos l.length with h0|h0
 ·rw [FD (r:=Sum.inr ())]
  ·simp [FH,h0]
  ·simp only [BF];rw [if_neg (by omega)]
 ·have key:=MJ (fun v=>BF l v) (fun j=>(l.length:Int)-1-j) (l.length-1) (fun j=>decide (l.getD (l.length-1-j-1) default≤l.getD (l.length-1-j) default)) (.inl ()) (.inr ()) ?_ ?_
  ·simp only [Int.natCast_zero,Int.sub_zero]at key
   rw [key]
   have e:(List.range (l.length-1)).all (fun j=>decide (l.getD (l.length-1-j-1) default≤l.getD (l.length-1-j) default))=FH l:=by
    unfold FH
    rw [Bool.eq_iff_iff,H6,H6]
    constructor
    ·intro hh i hi
     have:=hh (l.length-1-i-1) (by omega)
     rwa [show l.length-1-(l.length-1-i-1)=i+1 by omega,Nat.add_sub_cancel]at this
    ·intro hh i hi
     have:=hh (l.length-1-i-1) (by omega)
     rwa [show l.length-1-i-1+1=l.length-1-i by omega]at this
   rw [e]
   cases FH l<;>rfl
  ·intro i hi
   simp only [BF]
   rw [if_pos (by omega),KQ _ (by omega)]
   rw [Cn (by omega),Cn (by omega),show((l.length:Int)-1-i).toNat=l.length-1-i by omega,show((l.length:Int)-1-i-1).toNat=l.length-1-i-1 by omega]
   have e:G6 (l.getD (l.length-1-i) default) (l.getD (l.length-1-i-1) default)=some (decide (l.getD (l.length-1-i) default<l.getD (l.length-1-i-1) default)):=by
    unfold G6 Ct;by_cases hq:l.getD (l.length-1-i) default<l.getD (l.length-1-i-1) default<;>simp [hq]
   rw [e,Option.bind_some]
   simp only [decide_eq_true_eq]
   by_cases hq:l.getD (l.length-1-i) default<l.getD (l.length-1-i-1) default
   ·rw [if_pos hq,if_neg (by omega)]
   ·rw [if_neg hq,if_pos (by omega),show(l.length:Int)-1-i-1=(l.length:Int)-1-((i+1:Nat):Int) by omega]
  ·simp only [BF];rw [if_neg (by omega)]
theorem Ir(x_:List Int)(h0:x_.length<1099511627776):Y.call 88 [D.sl 3 (AJ (D.int .i64) x_)] []=some (D.bool (FH x_),[]):=IE x_ (Iq x_ h0)
def Lm:List Int→List Int→Int
 | [],[]=>0
 | [],_::_=> -1
 |_::_,[]=>1
 |x::a,y::b=>if x=y then Lm a b else if x<y then-1 else 1
noncomputable def ER(x_:Int)(y:Int):Option (Int):=
 (Ct x_).bind fun Oq=>
 (Ct y).bind fun Z9=>
 if Oq=true then
  if Z9=true then
   some 0
  else
   some (-1)
 else
  if Z9=true then
   some 1
  else
   if x_<y then
    some (-1)
   else
    if y<x_ then
     some 1
    else
     some 0
def wB:SC:=
 .seq
 (.ops [
 ⟨(some 4),(.assign (.const (.int .i64 0))),3,none⟩])
 (.seq
 (.ops [
 ⟨(some 7),(.move (.tmp 0)),3,none⟩,
 ⟨(some 8),(.call ⟨(.value (.func 123)), #[(.tmp 7)], #[3]⟩),4,none⟩,
 ⟨(some 5),(.assign (.tmp 8)),4,none⟩])
 (.seq
 (.ops [
 ⟨(some 9),(.move (.tmp 1)),3,none⟩,
 ⟨(some 10),(.call ⟨(.value (.func 123)), #[(.tmp 9)], #[3]⟩),4,none⟩,
 ⟨(some 6),(.assign (.tmp 10)),4,none⟩])
 (.seq
 (.seq
 (.ops [
 ⟨(some 11),(.move (.tmp 5)),4,none⟩])
 (.cond (.tmp 11)
 (.seq
 (.seq
 (.ops [
 ⟨(some 12),(.move (.tmp 6)),4,none⟩])
 (.cond (.tmp 12)
 (.seq
 (.ops [
 ⟨(some 4),(.assign (.const (.int .i64 0))),3,none⟩])
 .ret)
 .skip))
 (.seq
 (.ops [
 ⟨(some 4),(.assign (.const (.int .i64 (-1)))),3,none⟩])
 .ret))
 .skip))
 (.seq
 (.seq
 (.ops [
 ⟨(some 13),(.move (.tmp 6)),4,none⟩])
 (.cond (.tmp 13)
 (.seq
 (.ops [
 ⟨(some 4),(.assign (.const (.int .i64 1))),3,none⟩])
 .ret)
 .skip))
 (.seq
 (.seq
 (.ops [
 ⟨(some 14),(.move (.tmp 0)),3,none⟩,
 ⟨(some 15),(.move (.tmp 1)),3,none⟩,
 ⟨(some 16),(.binOp .lss 3 (.tmp 14) (.tmp 15) 3),4,none⟩])
 (.cond (.tmp 16)
 (.seq
 (.ops [
 ⟨(some 4),(.assign (.const (.int .i64 (-1)))),3,none⟩])
 .ret)
 .skip))
 (.seq
 (.seq
 (.ops [
 ⟨(some 17),(.move (.tmp 0)),3,none⟩,
 ⟨(some 18),(.move (.tmp 1)),3,none⟩,
 ⟨(some 19),(.binOp .gtr 3 (.tmp 17) (.tmp 18) 3),4,none⟩])
 (.cond (.tmp 19)
 (.seq
 (.ops [
 ⟨(some 4),(.assign (.const (.int .i64 1))),3,none⟩])
 .ret)
 .skip))
 (.seq
 (.ops [
 ⟨(some 4),(.assign (.const (.int .i64 0))),3,none⟩])
 .ret)))))))
theorem lm:Tryd.f109.body.map (CY lends)=some wB:=by kernel_rfl
theorem A5t:DR Tryd.f109 2=true:=by kernel_rfl
theorem ACZ{a l:List D}{r:D×List D}(h:Cu Y.env wB (HZ Ak l.length [ResultVar.tmp 4] r) (entry a l))(ha:a.length=2):Y.call 109 a l=some r:=
 Ah (Y:=Y) rfl Tryd.func109 (ha▸A5t) lm h
theorem Ku(x_:Int)(y:Int){r:Int}(h:ER x_ y=some r):Y.call 109 [D.int .i64 x_,D.int .i64 y] []=some (D.int .i64 r,[]):=by
 refine ACZ ?_ rfl
 unfold wB
 unfold ER at h
 obtain⟨Oq,hl1,h⟩:=BP h
 try dsimp only at h
 have c1:=EQ x_ hl1
 obtain⟨Z9,hl2,h⟩:=BP h
 try dsimp only at h
 have c2:=EQ y hl2
 by_cases e3:Oq=true
 ·rw [if_pos e3]at h
  by_cases e4:Z9=true
  ·rw [if_pos e4]at h
   obtain rfl:=Option.some.inj h
   simp (maxDischargeDepth:=9) only [↓AL,AB,AO,Ao,AC,AP,Ap,↓reduceIte,Nat.reduceEqDiff,Nat.reduceLT,Nat.reduceLeDiff,Nat.reduceAdd,Nat.reduceMul,Nat.reduceMod,Nat.reduceDiv,Nat.reducePow,Nat.reduceSub,Nat.reduceBEq,Int.reduceLE,Int.reduceLT,Int.reduceEq,Int.reduceSub,Int.reduceAdd,Int.reduceToNat,Int.reduceNeg,c1,c2,e3,e4]<;>(repeat' apply And.intro)<;>first|rfl|exact⟨_,rfl⟩|exact⟨_,_,rfl⟩|simp [AJ,A7]
  ·rw [if_neg e4]at h
   have e4f:Z9=false:=Bool.eq_false_iff.mpr e4
   obtain rfl:=Option.some.inj h
   simp (maxDischargeDepth:=9) only [↓AL,AB,AO,Ao,AC,AP,Ap,↓reduceIte,Nat.reduceEqDiff,Nat.reduceLT,Nat.reduceLeDiff,Nat.reduceAdd,Nat.reduceMul,Nat.reduceMod,Nat.reduceDiv,Nat.reducePow,Nat.reduceSub,Nat.reduceBEq,Int.reduceLE,Int.reduceLT,Int.reduceEq,Int.reduceSub,Int.reduceAdd,Int.reduceToNat,Int.reduceNeg,c1,c2,e3,e4f]<;>(repeat' apply And.intro)<;>first|rfl|exact⟨_,rfl⟩|exact⟨_,_,rfl⟩|simp [AJ,A7]
 ·rw [if_neg e3]at h
  have e3f:Oq=false:=Bool.eq_false_iff.mpr e3
  by_cases e4:Z9=true
  ·rw [if_pos e4]at h
   obtain rfl:=Option.some.inj h
   simp (maxDischargeDepth:=9) only [↓AL,AB,AO,Ao,AC,AP,Ap,↓reduceIte,Nat.reduceEqDiff,Nat.reduceLT,Nat.reduceLeDiff,Nat.reduceAdd,Nat.reduceMul,Nat.reduceMod,Nat.reduceDiv,Nat.reducePow,Nat.reduceSub,Nat.reduceBEq,Int.reduceLE,Int.reduceLT,Int.reduceEq,Int.reduceSub,Int.reduceAdd,Int.reduceToNat,Int.reduceNeg,c1,c2,e3f,e4]<;>(repeat' apply And.intro)<;>first|rfl|exact⟨_,rfl⟩|exact⟨_,_,rfl⟩|simp [AJ,A7]
  ·rw [if_neg e4]at h
   have e4f:Z9=false:=Bool.eq_false_iff.mpr e4
   by_cases e5:x_<y
   ·rw [if_pos e5]at h
    obtain rfl:=Option.some.inj h
    simp (maxDischargeDepth:=9) only [↓AL,AB,AO,Ao,AC,AP,Ap,↓reduceIte,Nat.reduceEqDiff,Nat.reduceLT,Nat.reduceLeDiff,Nat.reduceAdd,Nat.reduceMul,Nat.reduceMod,Nat.reduceDiv,Nat.reducePow,Nat.reduceSub,Nat.reduceBEq,Int.reduceLE,Int.reduceLT,Int.reduceEq,Int.reduceSub,Int.reduceAdd,Int.reduceToNat,Int.reduceNeg,c1,c2,e3f,e4f,e5]<;>(repeat' apply And.intro)<;>first|rfl|exact⟨_,rfl⟩|exact⟨_,_,rfl⟩|simp [AJ,A7]
   ·rw [if_neg e5]at h
    by_cases e6:y<x_
    ·rw [if_pos e6]at h
     obtain rfl:=Option.some.inj h
     simp (maxDischargeDepth:=9) only [↓AL,AB,AO,Ao,AC,AP,Ap,↓reduceIte,Nat.reduceEqDiff,Nat.reduceLT,Nat.reduceLeDiff,Nat.reduceAdd,Nat.reduceMul,Nat.reduceMod,Nat.reduceDiv,Nat.reducePow,Nat.reduceSub,Nat.reduceBEq,Int.reduceLE,Int.reduceLT,Int.reduceEq,Int.reduceSub,Int.reduceAdd,Int.reduceToNat,Int.reduceNeg,c1,c2,e3f,e4f,e5,e6]<;>(repeat' apply And.intro)<;>first|rfl|exact⟨_,rfl⟩|exact⟨_,_,rfl⟩|simp [AJ,A7]
    ·rw [if_neg e6]at h
     obtain rfl:=Option.some.inj h
     simp (maxDischargeDepth:=9) only [↓AL,AB,AO,Ao,AC,AP,Ap,↓reduceIte,Nat.reduceEqDiff,Nat.reduceLT,Nat.reduceLeDiff,Nat.reduceAdd,Nat.reduceMul,Nat.reduceMod,Nat.reduceDiv,Nat.reducePow,Nat.reduceSub,Nat.reduceBEq,Int.reduceLE,Int.reduceLT,Int.reduceEq,Int.reduceSub,Int.reduceAdd,Int.reduceToNat,Int.reduceNeg,c1,c2,e3f,e4f,e5,e6]<;>(repeat' apply And.intro)<;>first|rfl|exact⟨_,rfl⟩|exact⟨_,_,rfl⟩|simp [AJ,A7]
noncomputable def BJ(s1_:List Int)(s2_:List Int)(Bp:Int):Option ((Int)⊕(Int⊕Unit)):=
 if Bp<(s1_.length:Int)then
  ck (0≤Bp∧Bp.toNat<s1_.length)<|
  if(s2_.length:Int)≤Bp then
   some (Sum.inr (Sum.inl 1))
  else
   ck (0≤Bp∧Bp.toNat<s2_.length)<|
   (ER (s1_.getD Bp.toNat default) (s2_.getD Bp.toNat default)).bind fun ZA=>
   if ZA=0 then
    some (Sum.inl (IntKind.i64.wrap (Bp+1)))
   else
    some (Sum.inr (Sum.inl ZA))
 else
  some (Sum.inr (Sum.inr ()))
noncomputable def BD(s1_:List Int)(s2_:List Int)(v:Int):Option (Int⊕Unit):=Jk (fun v=>BJ s1_ s2_ v) v
noncomputable def Cv(s1_:List Int)(s2_:List Int):Option (Int):=
 (BD s1_ s2_ 0).bind fun AZ=>
 match AZ with
 | .inl q1000_=>
  some q1000_
 | .inr q1000_=>
  if(s1_.length:Int)<(s2_.length:Int)then
   some (-1)
  else
   some 0
def V5:SC:=
 .seq
 (.ops [
 ⟨(some 12),(.binOp .lss 3 (.tmp 11) (.tmp 10) 3),0,none⟩])
 (.seq
 (.cond (.tmp 12)
 .skip
 (.exit 0))
 (.seq
 (.block 1
 (.seq
 (.ops [
 ⟨(some 13),(.move (.tmp 11)),3,none⟩,
 ⟨(some 14),(.indexAddr 70 (.tmp 9) (.tmp 11)),0,none⟩,
 ⟨(some 15),(.load 3 (.tmp 14)),3,none⟩,
 ⟨(some 5),(.assign (.tmp 13)),3,none⟩,
 ⟨(some 6),(.assign (.tmp 15)),3,none⟩])
 (.seq
 (.seq
 (.ops [
 ⟨(some 16),(.move (.tmp 5)),3,none⟩,
 ⟨(some 17),(.move (.tmp 1)),70,none⟩,
 ⟨(some 18),(.call ⟨(.builtin .len), #[(.tmp 17)], #[70]⟩),3,none⟩,
 ⟨(some 19),(.binOp .geq 3 (.tmp 16) (.tmp 18) 3),4,none⟩])
 (.cond (.tmp 19)
 (.seq
 (.ops [
 ⟨(some 4),(.assign (.const (.int .i64 1))),3,none⟩])
 .ret)
 .skip))
 (.seq
 (.ops [
 ⟨(some 20),(.move (.tmp 1)),70,none⟩,
 ⟨(some 21),(.move (.tmp 5)),3,none⟩,
 ⟨(some 22),(.indexAddr 70 (.tmp 20) (.tmp 21)),0,none⟩,
 ⟨(some 23),(.load 3 (.tmp 22)),3,none⟩,
 ⟨(some 7),(.assign (.tmp 23)),3,none⟩])
 (.seq
 (.ops [
 ⟨(some 24),(.move (.tmp 6)),3,none⟩,
 ⟨(some 25),(.move (.tmp 7)),3,none⟩,
 ⟨(some 26),(.call ⟨(.value (.func 109)), #[(.tmp 24),(.tmp 25)], #[3,3]⟩),3,none⟩,
 ⟨(some 8),(.assign (.tmp 26)),3,none⟩])
 (.seq
 (.ops [
 ⟨(some 27),(.move (.tmp 8)),3,none⟩,
 ⟨(some 28),(.binOp .neq 3 (.tmp 27) (.const (.int .i64 0)) 3),4,none⟩])
 (.cond (.tmp 28)
 (.seq
 (.ops [
 ⟨(some 29),(.move (.tmp 8)),3,none⟩,
 ⟨(some 4),(.assign (.tmp 29)),3,none⟩])
 .ret)
 .skip)))))))
 (.ops [
 ⟨(some 30),(.binOp .add 3 (.tmp 11) (.const (.int .i64 1)) 3),3,none⟩,
 ⟨(some 11),(.move (.tmp 30)),3,none⟩])))
def j3:SC:= .loop V5
def k90:SC:=
 .seq
 (.ops [
 ⟨(some 4),(.assign (.const (.int .i64 0))),3,none⟩])
 (.seq
 (.seq
 (.ops [
 ⟨(some 9),(.move (.tmp 0)),70,none⟩,
 ⟨(some 10),(.call ⟨(.builtin .len), #[(.tmp 9)], #[70]⟩),3,none⟩,
 ⟨(some 11),(.move (.const (.int .i64 0))),3,none⟩])
 (.block 0
 j3))
 (.seq
 (.seq
 (.ops [
 ⟨(some 31),(.move (.tmp 0)),70,none⟩,
 ⟨(some 32),(.call ⟨(.builtin .len), #[(.tmp 31)], #[70]⟩),3,none⟩,
 ⟨(some 33),(.move (.tmp 1)),70,none⟩,
 ⟨(some 34),(.call ⟨(.builtin .len), #[(.tmp 33)], #[70]⟩),3,none⟩,
 ⟨(some 35),(.binOp .lss 3 (.tmp 32) (.tmp 34) 3),4,none⟩])
 (.cond (.tmp 35)
 (.seq
 (.ops [
 ⟨(some 4),(.assign (.const (.int .i64 (-1)))),3,none⟩])
 .ret)
 .skip))
 (.seq
 (.ops [
 ⟨(some 4),(.assign (.const (.int .i64 0))),3,none⟩])
 .ret)))
theorem wC:Tryd.f90.body.map (CY lends)=some k90:=by kernel_rfl
theorem ACb:DR Tryd.f90 2=true:=by kernel_rfl
theorem c90{a l:List D}{r:D×List D}(h:Cu Y.env k90 (HZ Ak l.length [ResultVar.tmp 4] r) (entry a l))(ha:a.length=2):Y.call 90 a l=some r:=
 Ah (Y:=Y) rfl Tryd.func90 (ha▸ACb) wC h
def Au(s1_:List Int)(s2_:List Int)(Bp:Int)(s:St):Prop:=s.v 0=D.sl 3 (AJ (D.int .i64) s1_)∧s.v 1=D.sl 3 (AJ (D.int .i64) s2_)∧s.v 9=D.sl 3 (AJ (D.int .i64) s1_)∧s.v 10=D.int .i64 (s1_.length:Int)∧s.v 11=D.int .i64 Bp
def Av(s1_:List Int)(s2_:List Int)(r:Int⊕Unit)(ex:Ex)(s:St):Prop:=match r with
 | .inl q=>ex= .ret∧s.v 4=D.int .i64 q
 | .inr q=>ex= .exit 0∧s.v 0=D.sl 3 (AJ (D.int .i64) s1_)∧s.v 1=D.sl 3 (AJ (D.int .i64) s2_)
theorem IG(s1_:List Int)(s2_:List Int){v:Int}{s:St}{r:Int⊕Unit}(h:BD s1_ s2_ v=some r)(hM:Au s1_ s2_ v s):Cu Y.env j3 (Av s1_ s2_ r) s:=by
 unfold BD at h
 refine DL (c:=V5) (fun v=>BJ s1_ s2_ v) (fun v s=>Au s1_ s2_ v s) (Av s1_ s2_) ?_ h hM
 clear h hM s v r
 intro Bp s o hM h
 unfold BJ at h
 unfold Au at hM
 obtain⟨m0,m1,m2,m3,m4⟩:=hM
 unfold V5
 by_cases e1:Bp<(s1_.length:Int)
 ·rw [if_pos e1]at h
  obtain⟨e2,h⟩:=Cf h
  by_cases e3:(s2_.length:Int)≤Bp
  ·rw [if_pos e3]at h
   obtain rfl:=Option.some.inj h
   simp (maxDischargeDepth:=9) only [↓AL,AB,AO,Ao,AC,AP,Ap,↓reduceIte,Nat.reduceEqDiff,Nat.reduceLT,Nat.reduceLeDiff,Nat.reduceAdd,Nat.reduceMul,Nat.reduceMod,Nat.reduceDiv,Nat.reducePow,Nat.reduceSub,Nat.reduceBEq,Int.reduceLE,Int.reduceLT,Int.reduceEq,Int.reduceSub,Int.reduceAdd,Int.reduceToNat,Int.reduceNeg,m0,m1,m2,m3,m4,e1,e2.1,e2.2,e3,Au,Av,De,Df,Dh]<;>(repeat' apply And.intro)<;>first|rfl|exact⟨_,rfl⟩|exact⟨_,_,rfl⟩|simp [AJ,A7]
  ·rw [if_neg e3]at h
   obtain⟨e4,h⟩:=Cf h
   obtain⟨ZA,hl5,h⟩:=BP h
   try dsimp only at h
   have c5:=Ku (s1_.getD Bp.toNat default) (s2_.getD Bp.toNat default) hl5
   by_cases e6:ZA=0
   ·rw [if_pos e6]at h
    obtain rfl:=Option.some.inj h
    simp (maxDischargeDepth:=9) only [↓AL,AB,AO,Ao,AC,AP,Ap,↓reduceIte,Nat.reduceEqDiff,Nat.reduceLT,Nat.reduceLeDiff,Nat.reduceAdd,Nat.reduceMul,Nat.reduceMod,Nat.reduceDiv,Nat.reducePow,Nat.reduceSub,Nat.reduceBEq,Int.reduceLE,Int.reduceLT,Int.reduceEq,Int.reduceSub,Int.reduceAdd,Int.reduceToNat,Int.reduceNeg,m0,m1,m2,m3,m4,e1,e2.1,e2.2,e3,e4.1,e4.2,c5,decide_eq_true e6,Au,Av,De,Df,Dh]<;>(repeat' apply And.intro)<;>first|rfl|exact⟨_,rfl⟩|exact⟨_,_,rfl⟩|simp [AJ,A7]
   ·rw [if_neg e6]at h
    obtain rfl:=Option.some.inj h
    simp (maxDischargeDepth:=9) only [↓AL,AB,AO,Ao,AC,AP,Ap,↓reduceIte,Nat.reduceEqDiff,Nat.reduceLT,Nat.reduceLeDiff,Nat.reduceAdd,Nat.reduceMul,Nat.reduceMod,Nat.reduceDiv,Nat.reducePow,Nat.reduceSub,Nat.reduceBEq,Int.reduceLE,Int.reduceLT,Int.reduceEq,Int.reduceSub,Int.reduceAdd,Int.reduceToNat,Int.reduceNeg,m0,m1,m2,m3,m4,e1,e2.1,e2.2,e3,e4.1,e4.2,c5,e6,Au,Av,De,Df,Dh]<;>(repeat' apply And.intro)<;>first|rfl|exact⟨_,rfl⟩|exact⟨_,_,rfl⟩|simp [AJ,A7]
 ·rw [if_neg e1]at h
  obtain rfl:=Option.some.inj h
  simp (maxDischargeDepth:=9) only [↓AL,AB,AO,Ao,AC,AP,Ap,↓reduceIte,Nat.reduceEqDiff,Nat.reduceLT,Nat.reduceLeDiff,Nat.reduceAdd,Nat.reduceMul,Nat.reduceMod,Nat.reduceDiv,Nat.reducePow,Nat.reduceSub,Nat.reduceBEq,Int.reduceLE,Int.reduceLT,Int.reduceEq,Int.reduceSub,Int.reduceAdd,Int.reduceToNat,Int.reduceNeg,m0,m1,m2,m3,m4,e1,Au,Av,De,Df,Dh]<;>(repeat' apply And.intro)<;>first|rfl|exact⟨_,rfl⟩|exact⟨_,_,rfl⟩|simp [AJ,A7]
theorem IZ(s1_:List Int)(s2_:List Int){r:Int}(h:Cv s1_ s2_=some r):Y.call 90 [D.sl 3 (AJ (D.int .i64) s1_),D.sl 3 (AJ (D.int .i64) s2_)] []=some (D.int .i64 r,[]):=by
 refine c90 ?_ rfl
 unfold k90
 unfold Cv at h
 obtain⟨AZ,hl2,h⟩:=BP h
 try dsimp only at h
 simp (maxDischargeDepth:=9) only [↓AL,AB,AO,Ao,AC,AP,Ap,↓reduceIte,Nat.reduceEqDiff,Nat.reduceLT,Nat.reduceLeDiff,Nat.reduceAdd,Nat.reduceMul,Nat.reduceMod,Nat.reduceDiv,Nat.reducePow,Nat.reduceSub,Nat.reduceBEq,Int.reduceLE,Int.reduceLT,Int.reduceEq,Int.reduceSub,Int.reduceAdd,Int.reduceToNat,Int.reduceNeg]
 refine C8 (IG s1_ s2_ hl2 ?_) ?_
 ·simp (maxDischargeDepth:=9) only [↓AL,AB,AO,Ao,AC,AP,Ap,↓reduceIte,Nat.reduceEqDiff,Nat.reduceLT,Nat.reduceLeDiff,Nat.reduceAdd,Nat.reduceMul,Nat.reduceMod,Nat.reduceDiv,Nat.reducePow,Nat.reduceSub,Nat.reduceBEq,Int.reduceLE,Int.reduceLT,Int.reduceEq,Int.reduceSub,Int.reduceAdd,Int.reduceToNat,Int.reduceNeg,Au]<;>(repeat' apply And.intro)<;>first|rfl|exact⟨_,rfl⟩|exact⟨_,_,rfl⟩|simp [AJ,A7]
 ·intro ex2 s2 hX2
  rcases AZ with q1000_|q1000_
  ·unfold Av at hX2
   dsimp only at hX2 h
   obtain⟨rfl,n2_0⟩:=hX2
   obtain rfl:=Option.some.inj h
   simp (maxDischargeDepth:=9) only [↓AL,AB,AO,Ao,AC,AP,Ap,↓reduceIte,Nat.reduceEqDiff,Nat.reduceLT,Nat.reduceLeDiff,Nat.reduceAdd,Nat.reduceMul,Nat.reduceMod,Nat.reduceDiv,Nat.reducePow,Nat.reduceSub,Nat.reduceBEq,Int.reduceLE,Int.reduceLT,Int.reduceEq,Int.reduceSub,Int.reduceAdd,Int.reduceToNat,Int.reduceNeg,n2_0]<;>(repeat' apply And.intro)<;>first|rfl|exact⟨_,rfl⟩|exact⟨_,_,rfl⟩|simp [AJ,A7]
  ·unfold Av at hX2
   dsimp only at hX2 h
   obtain⟨rfl,n2_0,n2_1⟩:=hX2
   by_cases e3:(s1_.length:Int)<(s2_.length:Int)
   ·rw [if_pos e3]at h
    obtain rfl:=Option.some.inj h
    simp (maxDischargeDepth:=9) only [↓AL,AB,AO,Ao,AC,AP,Ap,↓reduceIte,Nat.reduceEqDiff,Nat.reduceLT,Nat.reduceLeDiff,Nat.reduceAdd,Nat.reduceMul,Nat.reduceMod,Nat.reduceDiv,Nat.reducePow,Nat.reduceSub,Nat.reduceBEq,Int.reduceLE,Int.reduceLT,Int.reduceEq,Int.reduceSub,Int.reduceAdd,Int.reduceToNat,Int.reduceNeg,n2_0,n2_1,e3]<;>(repeat' apply And.intro)<;>first|rfl|exact⟨_,rfl⟩|exact⟨_,_,rfl⟩|simp [AJ,A7]
   ·rw [if_neg e3]at h
    obtain rfl:=Option.some.inj h
    simp (maxDischargeDepth:=9) only [↓AL,AB,AO,Ao,AC,AP,Ap,↓reduceIte,Nat.reduceEqDiff,Nat.reduceLT,Nat.reduceLeDiff,Nat.reduceAdd,Nat.reduceMul,Nat.reduceMod,Nat.reduceDiv,Nat.reducePow,Nat.reduceSub,Nat.reduceBEq,Int.reduceLE,Int.reduceLT,Int.reduceEq,Int.reduceSub,Int.reduceAdd,Int.reduceToNat,Int.reduceNeg,n2_0,n2_1,e3]<;>(repeat' apply And.intro)<;>first|rfl|exact⟨_,rfl⟩|exact⟨_,_,rfl⟩|simp [AJ,A7]
theorem Ov(x y:Int):ER x y=some (if x<y then-1 else if y<x then 1 else 0):=by
 unfold ER Ct
 by_cases h1:x<y<;>by_cases h2:y<x<;>simp [h1,h2]
theorem Sm: ∀(a b p q:List Int),p.length=q.length→p.length+a.length<1099511627776→q.length+b.length<1099511627776→
  (BD (p++a) (q++b) (p.length:Int)).bind (fun r=>match r with| .inl q2=>some q2| .inr _=>if((p++a).length:Int)<((q++b).length:Int)then some (-1)else some 0)=some (Lm a b):=by
 intro a
 induction a with
 |nil=>
  intro b p q hpq ha hb
  unfold BD
  rw [FD (r:=Sum.inr ())]
  ·simp only [Option.bind_some,List.append_nil,List.length_append,hpq]
   cases b with
   |nil=>rw [if_neg (by simp)];rfl
   |cons y b=>rw [if_pos (by simp;omega)];rfl
  ·simp only [BJ];rw [if_neg (Nz _)]
 |cons x a ih=>
  intro b p q hpq ha hb
  simp only [List.length_cons]at ha hb
  have ex:(p++x::a).getD (p.length:Int).toNat default=x:=by rw [Int.toNat_natCast];exact Dw p (x::a) p.length rfl (by simp)
  cases b with
  |nil=>
   unfold BD
   rw [FD (r:=Sum.inl 1)]
   ·rfl
   ·simp only [BJ]
    rw [if_pos (NA ..),Cn (NB ..),if_pos (by simp;omega)]
  |cons y b=>
   simp only [List.length_cons]at hb
   have ey:(q++y::b).getD (p.length:Int).toNat default=y:=by rw [Int.toNat_natCast,hpq];exact Dw q (y::b) q.length rfl (by simp)
   have step:BJ (p++x::a) (q++y::b) (p.length:Int)=if x=y then some (.inl (((p++[x]).length:Nat):Int))else some (.inr (.inl (if x<y then-1 else 1))):=by
    unfold BJ
    rw [if_pos (NA ..),Cn (NB ..),if_neg (by simp;omega),Cn (by simp;omega),ex,ey,Ov,Option.bind_some,PV _ (by omega)]
    by_cases h1:x=y
    ·subst h1;simp
    ·rw [if_neg h1]
     by_cases h2:x<y
     ·simp [h2]
     ·have h3:y<x:=by omega
      simp [h2,h3]
   unfold Lm
   by_cases h1:x=y
   ·rw [if_pos h1]
    rw [if_pos h1]at step
    have:=ih b (p++[x]) (q++[y]) (by simp [hpq]) (by simp;omega) (by simp;omega)
    unfold BD at this ⊢
    rw [JB step]
    simpa using this
   ·rw [if_neg h1]
    rw [if_neg h1]at step
    unfold BD
    rw [FD step];rfl
theorem J3(a b:List Int)(ha:a.length<1099511627776)(hb:b.length<1099511627776):Cv a b=some (Lm a b):=by
 have:=Sm a b [] [] rfl (by simpa using ha) (by simpa using hb)
 unfold Cv
 simp only [List.nil_append,List.length_nil,Int.natCast_zero]at this
 exact this
theorem J4(s1_:List Int)(s2_:List Int)(h0:s1_.length<1099511627776)(h1:s2_.length<1099511627776):Y.call 90 [D.sl 3 (AJ (D.int .i64) s1_),D.sl 3 (AJ (D.int .i64) s2_)] []=some (D.int .i64 (Lm s1_ s2_),[]):=IZ s1_ s2_ (J3 s1_ s2_ h0 h1)
noncomputable def Lp(n_:Int):Option (Int):=
 if 0<n_ then
  some 1
 else
  if n_<0 then
   some (-1)
  else
   some 0
def wD:SC:=
 .seq
 (.ops [
 ⟨(some 2),(.assign (.const (.int .i64 0))),3,none⟩])
 (.seq
 (.block 0
 (.seq
 (.ops [
 ⟨(some 4),(.move (.tmp 0)),3,none⟩,
 ⟨(some 5),(.binOp .gtr 3 (.tmp 4) (.const (.int .i64 0)) 3),4,none⟩,
 ⟨(some 3),(.assign (.tmp 5)),4,none⟩])
 (.cond (.tmp 3)
 (.seq
 (.ops [
 ⟨(some 2),(.assign (.const (.int .i64 1))),3,none⟩])
 .ret)
 (.seq
 (.ops [
 ⟨(some 7),(.move (.tmp 0)),3,none⟩,
 ⟨(some 8),(.binOp .lss 3 (.tmp 7) (.const (.int .i64 0)) 3),4,none⟩,
 ⟨(some 6),(.assign (.tmp 8)),4,none⟩])
 (.cond (.tmp 6)
 (.seq
 (.ops [
 ⟨(some 2),(.assign (.const (.int .i64 (-1)))),3,none⟩])
 .ret)
 .skip)))))
 (.seq
 (.ops [
 ⟨(some 2),(.assign (.const (.int .i64 0))),3,none⟩])
 .ret))
theorem lq:Tryd.f105.body.map (CY lends)=some wD:=by kernel_rfl
theorem A5u:DR Tryd.f105 1=true:=by kernel_rfl
theorem ACc{a l:List D}{r:D×List D}(h:Cu Y.env wD (HZ Ak l.length [ResultVar.tmp 2] r) (entry a l))(ha:a.length=1):Y.call 105 a l=some r:=
 Ah (Y:=Y) rfl Tryd.func105 (ha▸A5u) lq h
theorem Sn(n_:Int){r:Int}(h:Lp n_=some r):Y.call 105 [D.int .i64 n_] []=some (D.int .i64 r,[]):=by
 refine ACc ?_ rfl
 unfold wD
 unfold Lp at h
 by_cases e1:0<n_
 ·rw [if_pos e1]at h
  obtain rfl:=Option.some.inj h
  simp (maxDischargeDepth:=9) only [↓AL,AB,AO,Ao,AC,AP,Ap,↓reduceIte,Nat.reduceEqDiff,Nat.reduceLT,Nat.reduceLeDiff,Nat.reduceAdd,Nat.reduceMul,Nat.reduceMod,Nat.reduceDiv,Nat.reducePow,Nat.reduceSub,Nat.reduceBEq,Int.reduceLE,Int.reduceLT,Int.reduceEq,Int.reduceSub,Int.reduceAdd,Int.reduceToNat,Int.reduceNeg,e1]<;>(repeat' apply And.intro)<;>first|rfl|exact⟨_,rfl⟩|exact⟨_,_,rfl⟩|simp [AJ,A7]
 ·rw [if_neg e1]at h
  by_cases e2:n_<0
  ·rw [if_pos e2]at h
   obtain rfl:=Option.some.inj h
   simp (maxDischargeDepth:=9) only [↓AL,AB,AO,Ao,AC,AP,Ap,↓reduceIte,Nat.reduceEqDiff,Nat.reduceLT,Nat.reduceLeDiff,Nat.reduceAdd,Nat.reduceMul,Nat.reduceMod,Nat.reduceDiv,Nat.reducePow,Nat.reduceSub,Nat.reduceBEq,Int.reduceLE,Int.reduceLT,Int.reduceEq,Int.reduceSub,Int.reduceAdd,Int.reduceToNat,Int.reduceNeg,e1,e2]<;>(repeat' apply And.intro)<;>first|rfl|exact⟨_,rfl⟩|exact⟨_,_,rfl⟩|simp [AJ,A7]
  ·rw [if_neg e2]at h
   obtain rfl:=Option.some.inj h
   simp (maxDischargeDepth:=9) only [↓AL,AB,AO,Ao,AC,AP,Ap,↓reduceIte,Nat.reduceEqDiff,Nat.reduceLT,Nat.reduceLeDiff,Nat.reduceAdd,Nat.reduceMul,Nat.reduceMod,Nat.reduceDiv,Nat.reducePow,Nat.reduceSub,Nat.reduceBEq,Int.reduceLE,Int.reduceLT,Int.reduceEq,Int.reduceSub,Int.reduceAdd,Int.reduceToNat,Int.reduceNeg,e1,e2]<;>(repeat' apply And.intro)<;>first|rfl|exact⟨_,rfl⟩|exact⟨_,_,rfl⟩|simp [AJ,A7]
noncomputable def Es(a:List Int)(b:List Int)(J8:Int):Option ((Int)⊕(Int⊕Unit)):=
 if J8<(a.length:Int)then
  ck (0≤J8∧J8.toNat<a.length)<|
  ck (0≤J8∧J8.toNat<b.length)<|
  if(a.getD J8.toNat default)=(b.getD J8.toNat default)then
   some (Sum.inl (IntKind.i64.wrap (J8+1)))
  else
   (Lp (IntKind.i64.wrap ((a.getD J8.toNat default)-(b.getD J8.toNat default)))).bind fun ZA=>
   some (Sum.inr (Sum.inl ZA))
 else
  some (Sum.inr (Sum.inr ()))
noncomputable def FI(a:List Int)(b:List Int)(v:Int):Option (Int⊕Unit):=Jk (fun v=>Es a b v) v
noncomputable def MN(a:List Int)(b:List Int):Option (Int):=
 (FI a b 0).bind fun AZ=>
 match AZ with
 | .inl q1000_=>
  some q1000_
 | .inr q1000_=>
  some 0
def V6:SC:=
 .seq
 (.ops [
 ⟨(some 10),(.binOp .lss 3 (.tmp 9) (.tmp 8) 3),0,none⟩])
 (.seq
 (.cond (.tmp 10)
 .skip
 (.exit 0))
 (.seq
 (.block 1
 (.seq
 (.ops [
 ⟨(some 11),(.move (.tmp 9)),3,none⟩,
 ⟨(some 12),(.indexAddr 70 (.tmp 7) (.tmp 9)),0,none⟩,
 ⟨(some 13),(.load 3 (.tmp 12)),3,none⟩,
 ⟨(some 5),(.assign (.tmp 11)),3,none⟩,
 ⟨(some 6),(.assign (.tmp 13)),3,none⟩])
 (.seq
 (.ops [
 ⟨(some 14),(.move (.tmp 6)),3,none⟩,
 ⟨(some 15),(.move (.tmp 1)),70,none⟩,
 ⟨(some 16),(.move (.tmp 5)),3,none⟩,
 ⟨(some 17),(.indexAddr 70 (.tmp 15) (.tmp 16)),0,none⟩,
 ⟨(some 18),(.load 3 (.tmp 17)),3,none⟩,
 ⟨(some 19),(.binOp .neq 3 (.tmp 14) (.tmp 18) 3),4,none⟩])
 (.cond (.tmp 19)
 (.seq
 (.ops [
 ⟨(some 20),(.move (.tmp 6)),3,none⟩,
 ⟨(some 21),(.move (.tmp 1)),70,none⟩,
 ⟨(some 22),(.move (.tmp 5)),3,none⟩,
 ⟨(some 23),(.indexAddr 70 (.tmp 21) (.tmp 22)),0,none⟩,
 ⟨(some 24),(.load 3 (.tmp 23)),3,none⟩,
 ⟨(some 25),(.binOp .sub 3 (.tmp 20) (.tmp 24) 3),3,none⟩,
 ⟨(some 26),(.call ⟨(.value (.func 105)), #[(.tmp 25)], #[3]⟩),3,none⟩,
 ⟨(some 4),(.assign (.tmp 26)),3,none⟩])
 .ret)
 .skip))))
 (.ops [
 ⟨(some 27),(.binOp .add 3 (.tmp 9) (.const (.int .i64 1)) 3),3,none⟩,
 ⟨(some 9),(.move (.tmp 27)),3,none⟩])))
def j4:SC:= .loop V6
def k87:SC:=
 .seq
 (.ops [
 ⟨(some 4),(.assign (.const (.int .i64 0))),3,none⟩])
 (.seq
 (.seq
 (.ops [
 ⟨(some 7),(.move (.tmp 0)),70,none⟩,
 ⟨(some 8),(.call ⟨(.builtin .len), #[(.tmp 7)], #[70]⟩),3,none⟩,
 ⟨(some 9),(.move (.const (.int .i64 0))),3,none⟩])
 (.block 0
 j4))
 (.seq
 (.ops [
 ⟨(some 4),(.assign (.const (.int .i64 0))),3,none⟩])
 .ret))
theorem wE:Tryd.f87.body.map (CY lends)=some k87:=by kernel_rfl
theorem ACe:DR Tryd.f87 2=true:=by kernel_rfl
theorem c87{a l:List D}{r:D×List D}(h:Cu Y.env k87 (HZ Ak l.length [ResultVar.tmp 4] r) (entry a l))(ha:a.length=2):Y.call 87 a l=some r:=
 Ah (Y:=Y) rfl Tryd.func87 (ha▸ACe) wE h
def E5(a:List Int)(b:List Int)(J8:Int)(s:St):Prop:=s.v 1=D.sl 3 (AJ (D.int .i64) b)∧s.v 7=D.sl 3 (AJ (D.int .i64) a)∧s.v 8=D.int .i64 (a.length:Int)∧s.v 9=D.int .i64 J8
def E8(a:List Int)(b:List Int)(r:Int⊕Unit)(ex:Ex)(s:St):Prop:=match r with
 | .inl q=>ex= .ret∧s.v 4=D.int .i64 q
 | .inr q=>ex= .exit 0
theorem Pq(a:List Int)(b:List Int){v:Int}{s:St}{r:Int⊕Unit}(h:FI a b v=some r)(hM:E5 a b v s):Cu Y.env j4 (E8 a b r) s:=by
 unfold FI at h
 refine DL (c:=V6) (fun v=>Es a b v) (fun v s=>E5 a b v s) (E8 a b) ?_ h hM
 clear h hM s v r
 intro J8 s o hM h
 unfold Es at h
 unfold E5 at hM
 obtain⟨m0,m1,m2,m3⟩:=hM
 unfold V6
 by_cases e1:J8<(a.length:Int)
 ·rw [if_pos e1]at h
  obtain⟨e2,h⟩:=Cf h
  obtain⟨e3,h⟩:=Cf h
  by_cases e4:(a.getD J8.toNat default)=(b.getD J8.toNat default)
  ·rw [if_pos e4]at h
   obtain rfl:=Option.some.inj h
   simp (maxDischargeDepth:=9) only [↓AL,AB,AO,Ao,AC,AP,Ap,↓reduceIte,Nat.reduceEqDiff,Nat.reduceLT,Nat.reduceLeDiff,Nat.reduceAdd,Nat.reduceMul,Nat.reduceMod,Nat.reduceDiv,Nat.reducePow,Nat.reduceSub,Nat.reduceBEq,Int.reduceLE,Int.reduceLT,Int.reduceEq,Int.reduceSub,Int.reduceAdd,Int.reduceToNat,Int.reduceNeg,m0,m1,m2,m3,e1,e2.1,e2.2,e3.1,e3.2,decide_eq_true e4,E5,E8,De,Df,Dh]<;>(repeat' apply And.intro)<;>first|rfl|exact⟨_,rfl⟩|exact⟨_,_,rfl⟩|simp [AJ,A7]
  ·rw [if_neg e4]at h
   obtain⟨ZA,hl5,h⟩:=BP h
   try dsimp only at h
   have c5:=Sn (IntKind.i64.wrap ((a.getD J8.toNat default)-(b.getD J8.toNat default))) hl5
   obtain rfl:=Option.some.inj h
   simp (maxDischargeDepth:=9) only [↓AL,AB,AO,Ao,AC,AP,Ap,↓reduceIte,Nat.reduceEqDiff,Nat.reduceLT,Nat.reduceLeDiff,Nat.reduceAdd,Nat.reduceMul,Nat.reduceMod,Nat.reduceDiv,Nat.reducePow,Nat.reduceSub,Nat.reduceBEq,Int.reduceLE,Int.reduceLT,Int.reduceEq,Int.reduceSub,Int.reduceAdd,Int.reduceToNat,Int.reduceNeg,m0,m1,m2,m3,e1,e2.1,e2.2,e3.1,e3.2,e4,c5,E5,E8,De,Df,Dh]<;>(repeat' apply And.intro)<;>first|rfl|exact⟨_,rfl⟩|exact⟨_,_,rfl⟩|simp [AJ,A7]
 ·rw [if_neg e1]at h
  obtain rfl:=Option.some.inj h
  simp (maxDischargeDepth:=9) only [↓AL,AB,AO,Ao,AC,AP,Ap,↓reduceIte,Nat.reduceEqDiff,Nat.reduceLT,Nat.reduceLeDiff,Nat.reduceAdd,Nat.reduceMul,Nat.reduceMod,Nat.reduceDiv,Nat.reducePow,Nat.reduceSub,Nat.reduceBEq,Int.reduceLE,Int.reduceLT,Int.reduceEq,Int.reduceSub,Int.reduceAdd,Int.reduceToNat,Int.reduceNeg,m0,m1,m2,m3,e1,E5,E8,De,Df,Dh]<;>(repeat' apply And.intro)<;>first|rfl|exact⟨_,rfl⟩|exact⟨_,_,rfl⟩|simp [AJ,A7]
theorem RP(a:List Int)(b:List Int){r:Int}(h:MN a b=some r):Y.call 87 [D.sl 3 (AJ (D.int .i64) a),D.sl 3 (AJ (D.int .i64) b)] []=some (D.int .i64 r,[]):=by
 refine c87 ?_ rfl
 unfold k87
 unfold MN at h
 obtain⟨AZ,hl2,h⟩:=BP h
 try dsimp only at h
 simp (maxDischargeDepth:=9) only [↓AL,AB,AO,Ao,AC,AP,Ap,↓reduceIte,Nat.reduceEqDiff,Nat.reduceLT,Nat.reduceLeDiff,Nat.reduceAdd,Nat.reduceMul,Nat.reduceMod,Nat.reduceDiv,Nat.reducePow,Nat.reduceSub,Nat.reduceBEq,Int.reduceLE,Int.reduceLT,Int.reduceEq,Int.reduceSub,Int.reduceAdd,Int.reduceToNat,Int.reduceNeg]
 refine C8 (Pq a b hl2 ?_) ?_
 ·simp (maxDischargeDepth:=9) only [↓AL,AB,AO,Ao,AC,AP,Ap,↓reduceIte,Nat.reduceEqDiff,Nat.reduceLT,Nat.reduceLeDiff,Nat.reduceAdd,Nat.reduceMul,Nat.reduceMod,Nat.reduceDiv,Nat.reducePow,Nat.reduceSub,Nat.reduceBEq,Int.reduceLE,Int.reduceLT,Int.reduceEq,Int.reduceSub,Int.reduceAdd,Int.reduceToNat,Int.reduceNeg,E5]<;>(repeat' apply And.intro)<;>first|rfl|exact⟨_,rfl⟩|exact⟨_,_,rfl⟩|simp [AJ,A7]
 ·intro ex2 s2 hX2
  rcases AZ with q1000_|q1000_
  ·unfold E8 at hX2
   dsimp only at hX2 h
   obtain⟨rfl,n2_0⟩:=hX2
   obtain rfl:=Option.some.inj h
   simp (maxDischargeDepth:=9) only [↓AL,AB,AO,Ao,AC,AP,Ap,↓reduceIte,Nat.reduceEqDiff,Nat.reduceLT,Nat.reduceLeDiff,Nat.reduceAdd,Nat.reduceMul,Nat.reduceMod,Nat.reduceDiv,Nat.reducePow,Nat.reduceSub,Nat.reduceBEq,Int.reduceLE,Int.reduceLT,Int.reduceEq,Int.reduceSub,Int.reduceAdd,Int.reduceToNat,Int.reduceNeg,n2_0]<;>(repeat' apply And.intro)<;>first|rfl|exact⟨_,rfl⟩|exact⟨_,_,rfl⟩|simp [AJ,A7]
  ·unfold E8 at hX2
   dsimp only at hX2 h
   obtain rfl:=hX2
   obtain rfl:=Option.some.inj h
   simp (maxDischargeDepth:=9) only [↓AL,AB,AO,Ao,AC,AP,Ap,↓reduceIte,Nat.reduceEqDiff,Nat.reduceLT,Nat.reduceLeDiff,Nat.reduceAdd,Nat.reduceMul,Nat.reduceMod,Nat.reduceDiv,Nat.reducePow,Nat.reduceSub,Nat.reduceBEq,Int.reduceLE,Int.reduceLT,Int.reduceEq,Int.reduceSub,Int.reduceAdd,Int.reduceToNat,Int.reduceNeg]<;>(repeat' apply And.intro)<;>first|rfl|exact⟨_,rfl⟩|exact⟨_,_,rfl⟩|simp [AJ,A7]
def J5(l:List Int):Bool:=Hz l (-1099511627776) 1099511627776
theorem RQ{l:List Int}(h:J5 l=true){x:Int}(hx:x∈l): -1099511627776≤x∧x≤1099511627776:=by
 have:=List.all_eq_true.1 h x hx;exact Fg.1 this
theorem Ti{l:List Int}{lo hi:Int}(h:Hz l lo hi=true)(h1: -1099511627776≤lo)(h2:hi≤1099511627776):J5 l=true:=by
 refine List.all_eq_true.2 fun x hx=> ?_
 have:=Fg.1 (List.all_eq_true.1 h x hx)
 exact Fg.2 ⟨by omega,by omega⟩
theorem XU(n:Int):Lp n=some (if n<0 then-1 else if 0<n then 1 else 0):=by
 unfold Lp
 by_cases h1:n<0<;>by_cases h2:0<n<;>simp [h1,h2]<;>omega
theorem XV: ∀(a b p q:List Int),p.length=q.length→a.length=b.length→p.length+a.length<1099511627776→J5 a=true→J5 b=true→
  (FI (p++a) (q++b) (p.length:Int)).bind (fun r=>match r with| .inl q2=>some q2| .inr _=>some 0)=some (Lm a b):=by
 intro a
 induction a with
 |nil=>
  intro b p q hpq hab ha h1 h2
  have:b=[]:=by cases b with|nil=>rfl|cons _ _=>simp at hab
  subst this
  unfold FI
  rw [FD (r:=Sum.inr ())]
  ·rfl
  ·simp only [Es];rw [if_neg (Nz _)]
 |cons x a ih=>
  intro b p q hpq hab ha h1 h2
  cases b with
  |nil=>simp at hab
  |cons y b=>
   simp only [List.length_cons]at ha hab
   have sx1:=RQ h1 (List.mem_cons_self ..)
   have sy1:=RQ h2 (List.mem_cons_self ..)
   have ex:(p++x::a).getD (p.length:Int).toNat default=x:=by rw [Int.toNat_natCast];exact Dw p (x::a) p.length rfl (by simp)
   have ey:(q++y::b).getD (p.length:Int).toNat default=y:=by rw [Int.toNat_natCast,hpq];exact Dw q (y::b) q.length rfl (by simp)
   have step:Es (p++x::a) (q++y::b) (p.length:Int)=if x=y then some (.inl (((p++[x]).length:Nat):Int))else some (.inr (.inl (if x<y then-1 else 1))):=by
    unfold Es
    rw [if_pos (NA ..),Cn (NB ..),Cn (by simp;omega),ex,ey,PV _ (by omega),KQ _ (by omega),XU,Option.bind_some]
    by_cases h1:x=y
    ·subst h1;simp
    ·rw [if_neg h1,if_neg h1]
     by_cases h2:x<y
     ·rw [if_pos (by omega),if_pos h2]
     ·rw [if_neg (by omega),if_pos (by omega),if_neg h2]
   have s1:J5 a=true:=List.all_eq_true.2 fun z hz=>List.all_eq_true.1 h1 z (List.mem_cons_of_mem _ hz)
   have s2:J5 b=true:=List.all_eq_true.2 fun z hz=>List.all_eq_true.1 h2 z (List.mem_cons_of_mem _ hz)
   unfold Lm
   by_cases h1:x=y
   ·rw [if_pos h1]
    rw [if_pos h1]at step
    have:=ih b (p++[x]) (q++[y]) (by simp [hpq]) (by omega) (by simp;omega) s1 s2
    unfold FI at this ⊢
    rw [JB step]
    simpa using this
   ·rw [if_neg h1]
    rw [if_neg h1]at step
    unfold FI
    rw [FD step];rfl
theorem V7(a b:List Int)(ha:a.length<1099511627776)(hab:a.length=b.length)(h1:J5 a=true)(h2:J5 b=true):MN a b=some (Lm a b):=by
 have:=XV a b [] [] rfl hab (by simpa using ha) h1 h2
 unfold MN
 simp only [List.nil_append,List.length_nil,Int.natCast_zero]at this
 exact this
theorem V8(a:List Int)(b:List Int)(h0:a.length<1099511627776)(h1:a.length=b.length)(h2:J5 a=true)(h3:J5 b=true):Y.call 87 [D.sl 3 (AJ (D.int .i64) a),D.sl 3 (AJ (D.int .i64) b)] []=some (D.int .i64 (Lm a b),[]):=RP a b (V7 a b h0 h1 h2 h3)
def K3(l:List (List Int))(size labels:Int)(i:Nat):Bool:=
 ((decide (((l.getD i default).length:Int)=size)&&FH (l.getD i default))&&Hz (l.getD i default) 0 (labels-1))&&(decide (i=0)||decide (Lm (l.getD (i-1) default) (l.getD i default)<0))
def H9(l:List (List Int))(size labels:Int):Bool:=(List.range l.length).all (K3 l size labels)
def DZ(labels degree:Int)(ns es:List (List Int)):Bool:=((Kr labels 1 8&&Kr degree 1 4)&&H9 ns degree labels)&&H9 es 2 labels
theorem BV.getD{l:List (List Int)}(h:BV l)(i:Nat):(l.getD i default).length<1099511627776:=by
 rcases Nat.lt_or_ge i l.length with hi|hi
 ·rw [Cm _ _ hi];exact h.at i hi
 ·rw [List.getD_eq_getElem?_getD,List.getElem?_eq_none hi];decide
noncomputable def Bw(list:List (List Int))(size:Int)(labels:Int)(Bp:Int):Option ((Int)⊕(Unit⊕Unit)):=
 if Bp<(list.length:Int)then
  ck (0≤Bp∧Bp.toNat<list.length)<|
  if((list.getD Bp.toNat default).length:Int)=size then
   ck ((list.getD Bp.toNat default).length<1099511627776)<|
   if(FH (list.getD Bp.toNat default))=true then
    if(Hz (list.getD Bp.toNat default) (0:Int) (IntKind.i64.wrap (labels-1)))=true then
     if 0<Bp then
      ck (0≤IntKind.i64.wrap (Bp-1)∧(IntKind.i64.wrap (Bp-1)).toNat<list.length)<|
      ck ((list.getD ((IntKind.i64.wrap (Bp-1)).toNat) default).length<1099511627776)<|
      if 0≤(Lm (list.getD ((IntKind.i64.wrap (Bp-1)).toNat) default) (list.getD Bp.toNat default))then
       some (Sum.inr (Sum.inl ()))
      else
       some (Sum.inl (IntKind.i64.wrap (Bp+1)))
     else
      some (Sum.inl (IntKind.i64.wrap (Bp+1)))
    else
     some (Sum.inr (Sum.inl ()))
   else
    some (Sum.inr (Sum.inl ()))
  else
   some (Sum.inr (Sum.inl ()))
 else
  some (Sum.inr (Sum.inr ()))
noncomputable def EF(list:List (List Int))(size:Int)(labels:Int)(v:Int):Option (Unit⊕Unit):=Jk (fun v=>Bw list size labels v) v
noncomputable def FJ(list:List (List Int))(size:Int)(labels:Int):Option (Bool):=
 (EF list size labels 0).bind fun AZ=>
 match AZ with
 | .inl q1000_=>
  some false
 | .inr q1000_=>
  some true
def V9:SC:=
 .seq
 (.ops [
 ⟨(some 12),(.binOp .lss 3 (.tmp 11) (.tmp 10) 3),0,none⟩])
 (.seq
 (.cond (.tmp 12)
 .skip
 (.exit 0))
 (.seq
 (.block 1
 (.seq
 (.ops [
 ⟨(some 13),(.move (.tmp 11)),3,none⟩,
 ⟨(some 14),(.indexAddr 34 (.tmp 9) (.tmp 11)),0,none⟩,
 ⟨(some 15),(.load 70 (.tmp 14)),70,none⟩,
 ⟨(some 7),(.assign (.tmp 13)),3,none⟩,
 ⟨(some 8),(.assign (.tmp 15)),70,none⟩])
 (.seq
 (.ops [
 ⟨(some 16),(.move (.tmp 8)),70,none⟩,
 ⟨(some 17),(.call ⟨(.builtin .len), #[(.tmp 16)], #[70]⟩),3,none⟩,
 ⟨(some 18),(.move (.tmp 1)),3,none⟩,
 ⟨(some 19),(.binOp .neq 3 (.tmp 17) (.tmp 18) 3),4,none⟩,
 ⟨(some 20),(.move (.tmp 19)),4,none⟩,
 ⟨(some 21),(.move (.tmp 8)),70,(some (some 20,false))⟩,
 ⟨(some 22),(.call ⟨(.value (.func 88)), #[(.tmp 21)], #[70]⟩),4,(some (some 20,false))⟩,
 ⟨(some 23),(.unOp .not 4 (.tmp 22)),4,(some (some 20,false))⟩,
 ⟨(some 24),(.pick (.tmp 20) (.const (.bool true)) (.tmp 23)),4,none⟩,
 ⟨(some 25),(.move (.tmp 24)),4,none⟩,
 ⟨(some 26),(.move (.tmp 8)),70,(some (some 25,false))⟩,
 ⟨(some 27),(.move (.tmp 2)),3,(some (some 25,false))⟩,
 ⟨(some 28),(.binOp .sub 3 (.tmp 27) (.const (.int .i64 1)) 3),3,(some (some 25,false))⟩,
 ⟨(some 29),(.call ⟨(.value (.func 89)), #[(.tmp 26),(.const (.int .i64 0)),(.tmp 28)], #[70,3,3]⟩),4,(some (some 25,false))⟩,
 ⟨(some 30),(.unOp .not 4 (.tmp 29)),4,(some (some 25,false))⟩,
 ⟨(some 31),(.pick (.tmp 25) (.const (.bool true)) (.tmp 30)),4,none⟩,
 ⟨(some 32),(.move (.tmp 31)),4,none⟩,
 ⟨(some 33),(.move (.tmp 7)),3,(some (some 32,false))⟩,
 ⟨(some 34),(.binOp .gtr 3 (.tmp 33) (.const (.int .i64 0)) 3),4,(some (some 32,false))⟩,
 ⟨(some 35),(.move (.tmp 34)),4,(some (some 32,false))⟩,
 ⟨(some 36),(.move (.tmp 0)),34,(some (some 35,true))⟩,
 ⟨(some 37),(.move (.tmp 7)),3,(some (some 35,true))⟩,
 ⟨(some 38),(.binOp .sub 3 (.tmp 37) (.const (.int .i64 1)) 3),3,(some (some 35,true))⟩,
 ⟨(some 39),(.indexAddr 34 (.tmp 36) (.tmp 38)),0,(some (some 35,true))⟩,
 ⟨(some 40),(.load 70 (.tmp 39)),70,(some (some 35,true))⟩,
 ⟨(some 41),(.move (.tmp 8)),70,(some (some 35,true))⟩,
 ⟨(some 42),(.call ⟨(.value (.func 90)), #[(.tmp 40),(.tmp 41)], #[70,70]⟩),3,(some (some 35,true))⟩,
 ⟨(some 43),(.binOp .geq 3 (.tmp 42) (.const (.int .i64 0)) 3),4,(some (some 35,true))⟩,
 ⟨(some 44),(.pick (.tmp 35) (.tmp 43) (.const (.bool false))),4,(some (some 32,false))⟩,
 ⟨(some 45),(.pick (.tmp 32) (.const (.bool true)) (.tmp 44)),4,none⟩])
 (.cond (.tmp 45)
 (.seq
 (.ops [
 ⟨(some 6),(.assign (.const (.bool false))),4,none⟩])
 .ret)
 .skip))))
 (.ops [
 ⟨(some 46),(.binOp .add 3 (.tmp 11) (.const (.int .i64 1)) 3),3,none⟩,
 ⟨(some 11),(.move (.tmp 46)),3,none⟩])))
def j5:SC:= .loop V9
def k68:SC:=
 .seq
 (.ops [
 ⟨(some 6),(.assign (.const (.bool false))),4,none⟩])
 (.seq
 (.seq
 (.ops [
 ⟨(some 9),(.move (.tmp 0)),34,none⟩,
 ⟨(some 10),(.call ⟨(.builtin .len), #[(.tmp 9)], #[34]⟩),3,none⟩,
 ⟨(some 11),(.move (.const (.int .i64 0))),3,none⟩])
 (.block 0
 j5))
 (.seq
 (.ops [
 ⟨(some 6),(.assign (.const (.bool true))),4,none⟩])
 .ret))
theorem wF:Tryd.f68.body.map (CY lends)=some k68:=by kernel_rfl
theorem ACg:DR Tryd.f68 3=true:=by kernel_rfl
theorem c68{a l:List D}{r:D×List D}(h:Cu Y.env k68 (HZ Ak l.length [ResultVar.tmp 6] r) (entry a l))(ha:a.length=3):Y.call 68 a l=some r:=
 Ah (Y:=Y) rfl Tryd.func68 (ha▸ACg) wF h
def Aw(list:List (List Int))(size:Int)(labels:Int)(Bp:Int)(s:St):Prop:=s.v 0=D.sl 70 (AJ (fun x=>D.sl 3 (AJ (D.int .i64) x)) list)∧s.v 1=D.int .i64 size∧s.v 2=D.int .i64 labels∧s.v 9=D.sl 70 (AJ (fun x=>D.sl 3 (AJ (D.int .i64) x)) list)∧s.v 10=D.int .i64 (list.length:Int)∧s.v 11=D.int .i64 Bp
def Ay(list:List (List Int))(size:Int)(labels:Int)(r:Unit⊕Unit)(ex:Ex)(s:St):Prop:=match r with
 | .inl q=>ex= .ret∧s.v 6=D.bool false
 | .inr q=>ex= .exit 0
theorem K4(list:List (List Int))(size:Int)(labels:Int){v:Int}{s:St}{r:Unit⊕Unit}(h:EF list size labels v=some r)(hM:Aw list size labels v s):Cu Y.env j5 (Ay list size labels r) s:=by
 unfold EF at h
 refine DL (c:=V9) (fun v=>Bw list size labels v) (fun v s=>Aw list size labels v s) (Ay list size labels) ?_ h hM
 clear h hM s v r
 intro Bp s o hM h
 unfold Bw at h
 unfold Aw at hM
 obtain⟨m0,m1,m2,m3,m4,m5⟩:=hM
 unfold V9
 by_cases e1:Bp<(list.length:Int)
 ·rw [if_pos e1]at h
  obtain⟨e2,h⟩:=Cf h
  by_cases e3:((list.getD Bp.toNat default).length:Int)=size
  ·rw [if_pos e3]at h
   obtain⟨e4,h⟩:=Cf h
   have c5:=Ir (list.getD Bp.toNat default) e4
   by_cases e6:(FH (list.getD Bp.toNat default))=true
   ·rw [if_pos e6]at h
    have c7:=RO (list.getD Bp.toNat default) (0:Int) (IntKind.i64.wrap (labels-1)) e4
    by_cases e8:(Hz (list.getD Bp.toNat default) (0:Int) (IntKind.i64.wrap (labels-1)))=true
    ·rw [if_pos e8]at h
     by_cases e9:0<Bp
     ·rw [if_pos e9]at h
      obtain⟨Hd,h⟩:=Cf h
      obtain⟨e11,h⟩:=Cf h
      have c12:=J4 (list.getD ((IntKind.i64.wrap (Bp-1)).toNat) default) (list.getD Bp.toNat default) e11 e4
      by_cases e13:0≤(Lm (list.getD ((IntKind.i64.wrap (Bp-1)).toNat) default) (list.getD Bp.toNat default))
      ·rw [if_pos e13]at h
       obtain rfl:=Option.some.inj h
       simp (maxDischargeDepth:=9) only [↓AL,AB,AO,Ao,AC,AP,Ap,↓reduceIte,Nat.reduceEqDiff,Nat.reduceLT,Nat.reduceLeDiff,Nat.reduceAdd,Nat.reduceMul,Nat.reduceMod,Nat.reduceDiv,Nat.reducePow,Nat.reduceSub,Nat.reduceBEq,Int.reduceLE,Int.reduceLT,Int.reduceEq,Int.reduceSub,Int.reduceAdd,Int.reduceToNat,Int.reduceNeg,m0,m1,m2,m3,m4,m5,e1,e2.1,e2.2,decide_eq_true e3,e4,c5,e6,c7,e8,e9,Hd.1,Hd.2,e11,c12,e13,Aw,Ay,De,Df,Dh]<;>(repeat' apply And.intro)<;>first|rfl|exact⟨_,rfl⟩|exact⟨_,_,rfl⟩|simp [AJ,A7]
      ·rw [if_neg e13]at h
       obtain rfl:=Option.some.inj h
       simp (maxDischargeDepth:=9) only [↓AL,AB,AO,Ao,AC,AP,Ap,↓reduceIte,Nat.reduceEqDiff,Nat.reduceLT,Nat.reduceLeDiff,Nat.reduceAdd,Nat.reduceMul,Nat.reduceMod,Nat.reduceDiv,Nat.reducePow,Nat.reduceSub,Nat.reduceBEq,Int.reduceLE,Int.reduceLT,Int.reduceEq,Int.reduceSub,Int.reduceAdd,Int.reduceToNat,Int.reduceNeg,m0,m1,m2,m3,m4,m5,e1,e2.1,e2.2,decide_eq_true e3,e4,c5,e6,c7,e8,e9,Hd.1,Hd.2,e11,c12,e13,Aw,Ay,De,Df,Dh]<;>(repeat' apply And.intro)<;>first|rfl|exact⟨_,rfl⟩|exact⟨_,_,rfl⟩|simp [AJ,A7]
     ·rw [if_neg e9]at h
      obtain rfl:=Option.some.inj h
      simp (maxDischargeDepth:=9) only [↓AL,AB,AO,Ao,AC,AP,Ap,↓reduceIte,Nat.reduceEqDiff,Nat.reduceLT,Nat.reduceLeDiff,Nat.reduceAdd,Nat.reduceMul,Nat.reduceMod,Nat.reduceDiv,Nat.reducePow,Nat.reduceSub,Nat.reduceBEq,Int.reduceLE,Int.reduceLT,Int.reduceEq,Int.reduceSub,Int.reduceAdd,Int.reduceToNat,Int.reduceNeg,m0,m1,m2,m3,m4,m5,e1,e2.1,e2.2,decide_eq_true e3,e4,c5,e6,c7,e8,e9,Aw,Ay,De,Df,Dh]<;>(repeat' apply And.intro)<;>first|rfl|exact⟨_,rfl⟩|exact⟨_,_,rfl⟩|simp [AJ,A7]
    ·rw [if_neg e8]at h
     have e8f:(Hz (list.getD Bp.toNat default) (0:Int) (IntKind.i64.wrap (labels-1)))=false:=Bool.eq_false_iff.mpr e8
     obtain rfl:=Option.some.inj h
     simp (maxDischargeDepth:=9) only [↓AL,AB,AO,Ao,AC,AP,Ap,↓reduceIte,Nat.reduceEqDiff,Nat.reduceLT,Nat.reduceLeDiff,Nat.reduceAdd,Nat.reduceMul,Nat.reduceMod,Nat.reduceDiv,Nat.reducePow,Nat.reduceSub,Nat.reduceBEq,Int.reduceLE,Int.reduceLT,Int.reduceEq,Int.reduceSub,Int.reduceAdd,Int.reduceToNat,Int.reduceNeg,m0,m1,m2,m3,m4,m5,e1,e2.1,e2.2,decide_eq_true e3,e4,c5,e6,c7,e8f,Aw,Ay,De,Df,Dh]<;>(repeat' apply And.intro)<;>first|rfl|exact⟨_,rfl⟩|exact⟨_,_,rfl⟩|simp [AJ,A7]
   ·rw [if_neg e6]at h
    have e6f:(FH (list.getD Bp.toNat default))=false:=Bool.eq_false_iff.mpr e6
    obtain rfl:=Option.some.inj h
    simp (maxDischargeDepth:=9) only [↓AL,AB,AO,Ao,AC,AP,Ap,↓reduceIte,Nat.reduceEqDiff,Nat.reduceLT,Nat.reduceLeDiff,Nat.reduceAdd,Nat.reduceMul,Nat.reduceMod,Nat.reduceDiv,Nat.reducePow,Nat.reduceSub,Nat.reduceBEq,Int.reduceLE,Int.reduceLT,Int.reduceEq,Int.reduceSub,Int.reduceAdd,Int.reduceToNat,Int.reduceNeg,m0,m1,m2,m3,m4,m5,e1,e2.1,e2.2,decide_eq_true e3,e4,c5,e6f,Aw,Ay,De,Df,Dh]<;>(repeat' apply And.intro)<;>first|rfl|exact⟨_,rfl⟩|exact⟨_,_,rfl⟩|simp [AJ,A7]
  ·rw [if_neg e3]at h
   obtain rfl:=Option.some.inj h
   simp (maxDischargeDepth:=9) only [↓AL,AB,AO,Ao,AC,AP,Ap,↓reduceIte,Nat.reduceEqDiff,Nat.reduceLT,Nat.reduceLeDiff,Nat.reduceAdd,Nat.reduceMul,Nat.reduceMod,Nat.reduceDiv,Nat.reducePow,Nat.reduceSub,Nat.reduceBEq,Int.reduceLE,Int.reduceLT,Int.reduceEq,Int.reduceSub,Int.reduceAdd,Int.reduceToNat,Int.reduceNeg,m0,m1,m2,m3,m4,m5,e1,e2.1,e2.2,e3,Aw,Ay,De,Df,Dh]<;>(repeat' apply And.intro)<;>first|rfl|exact⟨_,rfl⟩|exact⟨_,_,rfl⟩|simp [AJ,A7]
 ·rw [if_neg e1]at h
  obtain rfl:=Option.some.inj h
  simp (maxDischargeDepth:=9) only [↓AL,AB,AO,Ao,AC,AP,Ap,↓reduceIte,Nat.reduceEqDiff,Nat.reduceLT,Nat.reduceLeDiff,Nat.reduceAdd,Nat.reduceMul,Nat.reduceMod,Nat.reduceDiv,Nat.reducePow,Nat.reduceSub,Nat.reduceBEq,Int.reduceLE,Int.reduceLT,Int.reduceEq,Int.reduceSub,Int.reduceAdd,Int.reduceToNat,Int.reduceNeg,m0,m1,m2,m3,m4,m5,e1,Aw,Ay,De,Df,Dh]<;>(repeat' apply And.intro)<;>first|rfl|exact⟨_,rfl⟩|exact⟨_,_,rfl⟩|simp [AJ,A7]
theorem KV(list:List (List Int))(size:Int)(labels:Int){r:Bool}(h:FJ list size labels=some r):Y.call 68 [D.sl 70 (AJ (fun x=>D.sl 3 (AJ (D.int .i64) x)) list),D.int .i64 size,D.int .i64 labels] []=some (D.bool r,[]):=by
 refine c68 ?_ rfl
 unfold k68
 unfold FJ at h
 obtain⟨AZ,hl2,h⟩:=BP h
 try dsimp only at h
 simp (maxDischargeDepth:=9) only [↓AL,AB,AO,Ao,AC,AP,Ap,↓reduceIte,Nat.reduceEqDiff,Nat.reduceLT,Nat.reduceLeDiff,Nat.reduceAdd,Nat.reduceMul,Nat.reduceMod,Nat.reduceDiv,Nat.reducePow,Nat.reduceSub,Nat.reduceBEq,Int.reduceLE,Int.reduceLT,Int.reduceEq,Int.reduceSub,Int.reduceAdd,Int.reduceToNat,Int.reduceNeg]
 refine C8 (K4 list size labels hl2 ?_) ?_
 ·simp (maxDischargeDepth:=9) only [↓AL,AB,AO,Ao,AC,AP,Ap,↓reduceIte,Nat.reduceEqDiff,Nat.reduceLT,Nat.reduceLeDiff,Nat.reduceAdd,Nat.reduceMul,Nat.reduceMod,Nat.reduceDiv,Nat.reducePow,Nat.reduceSub,Nat.reduceBEq,Int.reduceLE,Int.reduceLT,Int.reduceEq,Int.reduceSub,Int.reduceAdd,Int.reduceToNat,Int.reduceNeg,Aw]<;>(repeat' apply And.intro)<;>first|rfl|exact⟨_,rfl⟩|exact⟨_,_,rfl⟩|simp [AJ,A7]
 ·intro ex2 s2 hX2
  rcases AZ with q1000_|q1000_
  ·unfold Ay at hX2
   dsimp only at hX2 h
   obtain⟨rfl,n2_0⟩:=hX2
   obtain rfl:=Option.some.inj h
   simp (maxDischargeDepth:=9) only [↓AL,AB,AO,Ao,AC,AP,Ap,↓reduceIte,Nat.reduceEqDiff,Nat.reduceLT,Nat.reduceLeDiff,Nat.reduceAdd,Nat.reduceMul,Nat.reduceMod,Nat.reduceDiv,Nat.reducePow,Nat.reduceSub,Nat.reduceBEq,Int.reduceLE,Int.reduceLT,Int.reduceEq,Int.reduceSub,Int.reduceAdd,Int.reduceToNat,Int.reduceNeg,n2_0]<;>(repeat' apply And.intro)<;>first|rfl|exact⟨_,rfl⟩|exact⟨_,_,rfl⟩|simp [AJ,A7]
  ·unfold Ay at hX2
   dsimp only at hX2 h
   obtain rfl:=hX2
   obtain rfl:=Option.some.inj h
   simp (maxDischargeDepth:=9) only [↓AL,AB,AO,Ao,AC,AP,Ap,↓reduceIte,Nat.reduceEqDiff,Nat.reduceLT,Nat.reduceLeDiff,Nat.reduceAdd,Nat.reduceMul,Nat.reduceMod,Nat.reduceDiv,Nat.reducePow,Nat.reduceSub,Nat.reduceBEq,Int.reduceLE,Int.reduceLT,Int.reduceEq,Int.reduceSub,Int.reduceAdd,Int.reduceToNat,Int.reduceNeg]<;>(repeat' apply And.intro)<;>first|rfl|exact⟨_,rfl⟩|exact⟨_,_,rfl⟩|simp [AJ,A7]
theorem L9(l:List (List Int))(size labels:Int)(h:BV l)(hl:1≤labels∧labels≤8):FJ l size labels=some (H9 l size labels):=by
 have h1:=h.1
 unfold FJ EF
 have key:=MJ (fun v=>Bw l size labels v) (fun i=>(i:Int)) l.length (K3 l size labels) (.inl ()) (.inr ()) ?_ ?_
 ·simp only [Int.natCast_zero]at key
  rw [key]
  unfold H9
  cases (List.range l.length).all (K3 l size labels)<;>rfl
 ·intro i hi
  simp only [Bw]
  rw [if_pos (EJ hi),Cn (Hu hi),Int.toNat_natCast,PV i (by omega),KQ (labels-1) (by omega)]
  have hs:=h.getD i
  have hs1:=h.getD (i-1)
  rw [Cn hs]
  unfold K3
  generalize l.getD i default=x at*
  by_cases q1:(x.length:Int)=size
  ·rw [if_pos q1]
   cases q2:FH x with
   |false=>simp
   |true=>
    rw [if_pos rfl]
    cases q3:Hz x 0 (labels-1)with
    |false=>simp
    |true=>
     rw [if_pos rfl]
     by_cases q4:i=0
     ·simp [q1,q4]
     ·rw [if_pos (by omega),KQ _ (by omega),Cn (by omega),show((i:Int)-1).toNat=i-1 by omega,Cn hs1]
      generalize l.getD (i-1) default=y at*
      by_cases q5:0≤Lm y x
      ·rw [if_pos q5,if_neg (by simp;intro _;exact⟨q4,q5⟩)]
      ·rw [if_neg q5,if_pos (by simp [q1,q4];omega)]
  ·have e:=decide_eq_false q1
   rw [if_neg q1,if_neg (by rw [e];simp)]
 ·simp only [Bw];rw [if_neg (Bq _)]
theorem IL(list:List (List Int))(size:Int)(labels:Int)(h0:BV list)(h1:1≤labels∧labels≤8):Y.call 68 [D.sl 70 (AJ (fun x=>D.sl 3 (AJ (D.int .i64) x)) list),D.int .i64 size,D.int .i64 labels] []=some (D.bool (H9 list size labels),[]):=KV list size labels (L9 list size labels h0 h1)
noncomputable def E9(l:List (List Int))(size:Int)(labels:Int)(Cw:Int)(k:Int):Option ((Int)⊕(Unit⊕Unit)):=
 if k<size then
  ck (0≤IntKind.i64.wrap (k-1)∧(IntKind.i64.wrap (k-1)).toNat<(l.getD Cw.toNat default).length)<|
  ck (0≤k∧k.toNat<(l.getD Cw.toNat default).length)<|
  if((l.getD Cw.toNat default).getD k.toNat default)<((l.getD Cw.toNat default).getD ((IntKind.i64.wrap (k-1)).toNat) default)then
   some (Sum.inr (Sum.inl ()))
  else
   some (Sum.inl (IntKind.i64.wrap (k+1)))
 else
  some (Sum.inr (Sum.inr ()))
noncomputable def GM(l:List (List Int))(size:Int)(labels:Int)(Cw:Int)(v:Int):Option (Unit⊕Unit):=Jk (fun v=>E9 l size labels Cw v) v
noncomputable def Et(l:List (List Int))(size:Int)(labels:Int)(Cw:Int):Option ((Int)⊕(Unit⊕Unit)):=
 if Cw<(l.length:Int)then
  ck (0≤Cw∧Cw.toNat<l.length)<|
  if((l.getD Cw.toNat default).length:Int)=size then
   ck ((l.getD Cw.toNat default).length<1099511627776)<|
   if(Hz (l.getD Cw.toNat default) (0:Int) (IntKind.i64.wrap (labels-1)))=true then
    if 0<Cw then
     ck (0≤IntKind.i64.wrap (Cw-1)∧(IntKind.i64.wrap (Cw-1)).toNat<l.length)<|
     ck ((l.getD ((IntKind.i64.wrap (Cw-1)).toNat) default).length<1099511627776)<|
     ck ((l.getD ((IntKind.i64.wrap (Cw-1)).toNat) default).length=(l.getD Cw.toNat default).length)<|
     ck (J5 (l.getD ((IntKind.i64.wrap (Cw-1)).toNat) default)=true)<|
     ck (J5 (l.getD Cw.toNat default)=true)<|
     if 0≤(Lm (l.getD ((IntKind.i64.wrap (Cw-1)).toNat) default) (l.getD Cw.toNat default))then
      some (Sum.inr (Sum.inl ()))
     else
      (GM l size labels Cw 1).bind fun AZ=>
      match AZ with
      | .inl q1000_=>
       some (Sum.inr (Sum.inl ()))
      | .inr q1000_=>
       some (Sum.inl (IntKind.i64.wrap (Cw+1)))
    else
     (GM l size labels Cw 1).bind fun AZ=>
     match AZ with
     | .inl q1000_=>
      some (Sum.inr (Sum.inl ()))
     | .inr q1000_=>
      some (Sum.inl (IntKind.i64.wrap (Cw+1)))
   else
    some (Sum.inr (Sum.inl ()))
  else
   some (Sum.inr (Sum.inl ()))
 else
  some (Sum.inr (Sum.inr ()))
noncomputable def JE(l:List (List Int))(size:Int)(labels:Int)(v:Int):Option (Unit⊕Unit):=Jk (fun v=>Et l size labels v) v
noncomputable def MO(l:List (List Int))(size:Int)(labels:Int):Option (Bool):=
 (JE l size labels 0).bind fun Ia=>
 match Ia with
 | .inl q1001_=>
  some false
 | .inr q1001_=>
  some true
def VA:SC:=
 .seq
 (.seq
 (.ops [
 ⟨(some 42),(.move (.tmp 9)),3,none⟩,
 ⟨(some 43),(.move (.tmp 1)),3,none⟩,
 ⟨(some 44),(.binOp .lss 3 (.tmp 42) (.tmp 43) 3),4,none⟩])
 (.cond (.tmp 44)
 .skip
 (.exit 2)))
 (.seq
 (.block 3
 (.seq
 (.draws [
 (⟨[47,8,8],[47,48,49,50,51,52,53,54,55,56],[47]⟩,⟨(some 47),(.move (.tmp 8)),70,none⟩),
 (⟨[48,9,9],[47,48,49,50,51,52,53,54,55,56],[48]⟩,⟨(some 48),(.move (.tmp 9)),3,none⟩),
 (⟨[49,48,9],[47,48,49,50,51,52,53,54,55,56],[49]⟩,⟨(some 49),(.binOp .sub 3 (.tmp 48) (.const (.int .i64 1)) 3),3,none⟩),
 (⟨[50,47,49,8,49],[47,48,49,50,51,52,53,54,55,56],[50]⟩,⟨(some 50),(.indexAddr 70 (.tmp 47) (.tmp 49)),0,none⟩),
 (⟨[51,50,8],[47,48,49,50,51,52,53,54,55,56],[51]⟩,⟨(some 51),(.load 3 (.tmp 50)),3,none⟩),
 (⟨[52,8,8],[47,48,49,50,51,52,53,54,55,56],[52]⟩,⟨(some 52),(.move (.tmp 8)),70,none⟩),
 (⟨[53,9,9],[47,48,49,50,51,52,53,54,55,56],[53]⟩,⟨(some 53),(.move (.tmp 9)),3,none⟩),
 (⟨[54,52,53,8,9],[47,48,49,50,51,52,53,54,55,56],[54]⟩,⟨(some 54),(.indexAddr 70 (.tmp 52) (.tmp 53)),0,none⟩),
 (⟨[55,54,8],[47,48,49,50,51,52,53,54,55,56],[55]⟩,⟨(some 55),(.load 3 (.tmp 54)),3,none⟩),
 (⟨[56,51,55,8,8],[47,48,49,50,51,52,53,54,55,56],[56]⟩,⟨(some 56),(.binOp .gtr 3 (.tmp 51) (.tmp 55) 3),4,none⟩)])
 (.cond (.tmp 56)
 (.seq
 (.ops [
 ⟨(some 6),(.assign (.const (.bool false))),4,none⟩])
 .ret)
 .skip)))
 (.ops [
 ⟨(some 45),(.move (.tmp 9)),3,none⟩,
 ⟨(some 46),(.binOp .add 3 (.tmp 45) (.const (.int .i64 1)) 3),3,none⟩,
 ⟨(some 9),(.assign (.tmp 46)),3,none⟩]))
def j6:SC:= .loop VA
def VB:SC:=
 .seq
 (.ops [
 ⟨(some 13),(.binOp .lss 3 (.tmp 12) (.tmp 11) 3),0,none⟩])
 (.seq
 (.cond (.tmp 13)
 .skip
 (.exit 0))
 (.seq
 (.block 1
 (.seq
 (.ops [
 ⟨(some 14),(.move (.tmp 12)),3,none⟩,
 ⟨(some 15),(.indexAddr 34 (.tmp 10) (.tmp 12)),0,none⟩,
 ⟨(some 16),(.load 70 (.tmp 15)),70,none⟩,
 ⟨(some 7),(.assign (.tmp 14)),3,none⟩,
 ⟨(some 8),(.assign (.tmp 16)),70,none⟩])
 (.seq
 (.seq
 (.ops [
 ⟨(some 17),(.move (.tmp 8)),70,none⟩,
 ⟨(some 18),(.call ⟨(.builtin .len), #[(.tmp 17)], #[70]⟩),3,none⟩,
 ⟨(some 19),(.move (.tmp 1)),3,none⟩,
 ⟨(some 20),(.binOp .neq 3 (.tmp 18) (.tmp 19) 3),4,none⟩,
 ⟨(some 21),(.move (.tmp 20)),4,none⟩,
 ⟨(some 22),(.move (.tmp 8)),70,(some (some 21,false))⟩,
 ⟨(some 23),(.move (.tmp 2)),3,(some (some 21,false))⟩,
 ⟨(some 24),(.binOp .sub 3 (.tmp 23) (.const (.int .i64 1)) 3),3,(some (some 21,false))⟩,
 ⟨(some 25),(.call ⟨(.value (.func 86)), #[(.tmp 22),(.const (.int .i64 0)),(.tmp 24)], #[70,3,3]⟩),4,(some (some 21,false))⟩,
 ⟨(some 26),(.unOp .not 4 (.tmp 25)),4,(some (some 21,false))⟩,
 ⟨(some 27),(.pick (.tmp 21) (.const (.bool true)) (.tmp 26)),4,none⟩,
 ⟨(some 28),(.move (.tmp 27)),4,none⟩,
 ⟨(some 29),(.move (.tmp 7)),3,(some (some 28,false))⟩,
 ⟨(some 30),(.binOp .gtr 3 (.tmp 29) (.const (.int .i64 0)) 3),4,(some (some 28,false))⟩,
 ⟨(some 31),(.move (.tmp 30)),4,(some (some 28,false))⟩,
 ⟨(some 32),(.move (.tmp 0)),34,(some (some 31,true))⟩,
 ⟨(some 33),(.move (.tmp 7)),3,(some (some 31,true))⟩,
 ⟨(some 34),(.binOp .sub 3 (.tmp 33) (.const (.int .i64 1)) 3),3,(some (some 31,true))⟩,
 ⟨(some 35),(.indexAddr 34 (.tmp 32) (.tmp 34)),0,(some (some 31,true))⟩,
 ⟨(some 36),(.load 70 (.tmp 35)),70,(some (some 31,true))⟩,
 ⟨(some 37),(.move (.tmp 8)),70,(some (some 31,true))⟩,
 ⟨(some 38),(.call ⟨(.value (.func 87)), #[(.tmp 36),(.tmp 37)], #[70,70]⟩),3,(some (some 31,true))⟩,
 ⟨(some 39),(.binOp .geq 3 (.tmp 38) (.const (.int .i64 0)) 3),4,(some (some 31,true))⟩,
 ⟨(some 40),(.pick (.tmp 31) (.tmp 39) (.const (.bool false))),4,(some (some 28,false))⟩,
 ⟨(some 41),(.pick (.tmp 28) (.const (.bool true)) (.tmp 40)),4,none⟩])
 (.cond (.tmp 41)
 (.seq
 (.ops [
 ⟨(some 6),(.assign (.const (.bool false))),4,none⟩])
 .ret)
 .skip))
 (.seq
 (.ops [
 ⟨(some 9),(.assign (.const (.int .i64 1))),3,none⟩])
 (.block 2
 j6)))))
 (.ops [
 ⟨(some 57),(.binOp .add 3 (.tmp 12) (.const (.int .i64 1)) 3),3,none⟩,
 ⟨(some 12),(.move (.tmp 57)),3,none⟩])))
def jA:SC:= .loop VB
def k65:SC:=
 .seq
 (.ops [
 ⟨(some 6),(.assign (.const (.bool false))),4,none⟩])
 (.seq
 (.seq
 (.ops [
 ⟨(some 10),(.move (.tmp 0)),34,none⟩,
 ⟨(some 11),(.call ⟨(.builtin .len), #[(.tmp 10)], #[34]⟩),3,none⟩,
 ⟨(some 12),(.move (.const (.int .i64 0))),3,none⟩])
 (.block 0
 jA))
 (.seq
 (.ops [
 ⟨(some 6),(.assign (.const (.bool true))),4,none⟩])
 .ret))
theorem wG:Tryd.f65.body.map (CY lends)=some k65:=by kernel_rfl
theorem ACi:DR Tryd.f65 3=true:=by kernel_rfl
theorem c65{a l:List D}{r:D×List D}(h:Cu Y.env k65 (HZ Ak l.length [ResultVar.tmp 6] r) (entry a l))(ha:a.length=3):Y.call 65 a l=some r:=
 Ah (Y:=Y) rfl Tryd.func65 (ha▸ACi) wG h
def DN(l:List (List Int))(size:Int)(labels:Int)(Cw:Int)(k:Int)(s:St):Prop:=s.v 0=D.sl 70 (AJ (fun x=>D.sl 3 (AJ (D.int .i64) x)) l)∧s.v 1=D.int .i64 size∧s.v 2=D.int .i64 labels∧s.v 8=D.sl 3 (AJ (D.int .i64) (l.getD Cw.toNat default))∧s.v 9=D.int .i64 k∧s.v 10=D.sl 70 (AJ (fun x=>D.sl 3 (AJ (D.int .i64) x)) l)∧s.v 11=D.int .i64 (l.length:Int)∧s.v 12=D.int .i64 Cw
def Cq(l:List (List Int))(size:Int)(labels:Int)(Cw:Int)(r:Unit⊕Unit)(ex:Ex)(s:St):Prop:=match r with
 | .inl q=>ex= .ret∧s.v 6=D.bool false
 | .inr q=>ex= .exit 2∧s.v 0=D.sl 70 (AJ (fun x=>D.sl 3 (AJ (D.int .i64) x)) l)∧s.v 1=D.int .i64 size∧s.v 2=D.int .i64 labels∧s.v 10=D.sl 70 (AJ (fun x=>D.sl 3 (AJ (D.int .i64) x)) l)∧s.v 11=D.int .i64 (l.length:Int)∧s.v 12=D.int .i64 Cw
theorem L6(l:List (List Int))(size:Int)(labels:Int)(Cw:Int){v:Int}{s:St}{r:Unit⊕Unit}(h:GM l size labels Cw v=some r)(hM:DN l size labels Cw v s):Cu Y.env j6 (Cq l size labels Cw r) s:=by
 unfold GM at h
 refine DL (c:=VA) (fun v=>E9 l size labels Cw v) (fun v s=>DN l size labels Cw v s) (Cq l size labels Cw) ?_ h hM
 clear h hM s v r
 intro k s o hM h
 unfold E9 at h
 unfold DN at hM
 obtain⟨m0,m1,m2,m3,m4,m5,m6,m7⟩:=hM
 unfold VA
 by_cases e15:k<size
 ·rw [if_pos e15]at h
  obtain⟨e16,h⟩:=Cf h
  obtain⟨e17,h⟩:=Cf h
  by_cases e18:((l.getD Cw.toNat default).getD k.toNat default)<((l.getD Cw.toNat default).getD ((IntKind.i64.wrap (k-1)).toNat) default)
  ·rw [if_pos e18]at h
   obtain rfl:=Option.some.inj h
   simp (maxDischargeDepth:=9) only [↓AL,AB,AO,Ao,AC,AP,Ap,↓reduceIte,Nat.reduceEqDiff,Nat.reduceLT,Nat.reduceLeDiff,Nat.reduceAdd,Nat.reduceMul,Nat.reduceMod,Nat.reduceDiv,Nat.reducePow,Nat.reduceSub,Nat.reduceBEq,Int.reduceLE,Int.reduceLT,Int.reduceEq,Int.reduceSub,Int.reduceAdd,Int.reduceToNat,Int.reduceNeg,m0,m1,m2,m3,m4,m5,m6,m7,e15,e16.1,e16.2,e17.1,e17.2,e18,DN,Cq,De,Df,Dh]<;>(repeat' apply And.intro)<;>first|rfl|exact⟨_,rfl⟩|exact⟨_,_,rfl⟩|simp [AJ,A7]
  ·rw [if_neg e18]at h
   obtain rfl:=Option.some.inj h
   simp (maxDischargeDepth:=9) only [↓AL,AB,AO,Ao,AC,AP,Ap,↓reduceIte,Nat.reduceEqDiff,Nat.reduceLT,Nat.reduceLeDiff,Nat.reduceAdd,Nat.reduceMul,Nat.reduceMod,Nat.reduceDiv,Nat.reducePow,Nat.reduceSub,Nat.reduceBEq,Int.reduceLE,Int.reduceLT,Int.reduceEq,Int.reduceSub,Int.reduceAdd,Int.reduceToNat,Int.reduceNeg,m0,m1,m2,m3,m4,m5,m6,m7,e15,e16.1,e16.2,e17.1,e17.2,e18,DN,Cq,De,Df,Dh]<;>(repeat' apply And.intro)<;>first|rfl|exact⟨_,rfl⟩|exact⟨_,_,rfl⟩|simp [AJ,A7]
 ·rw [if_neg e15]at h
  obtain rfl:=Option.some.inj h
  simp (maxDischargeDepth:=9) only [↓AL,AB,AO,Ao,AC,AP,Ap,↓reduceIte,Nat.reduceEqDiff,Nat.reduceLT,Nat.reduceLeDiff,Nat.reduceAdd,Nat.reduceMul,Nat.reduceMod,Nat.reduceDiv,Nat.reducePow,Nat.reduceSub,Nat.reduceBEq,Int.reduceLE,Int.reduceLT,Int.reduceEq,Int.reduceSub,Int.reduceAdd,Int.reduceToNat,Int.reduceNeg,m0,m1,m2,m3,m4,m5,m6,m7,e15,DN,Cq,De,Df,Dh]<;>(repeat' apply And.intro)<;>first|rfl|exact⟨_,rfl⟩|exact⟨_,_,rfl⟩|simp [AJ,A7]
def Bn(l:List (List Int))(size:Int)(labels:Int)(Cw:Int)(s:St):Prop:=s.v 0=D.sl 70 (AJ (fun x=>D.sl 3 (AJ (D.int .i64) x)) l)∧s.v 1=D.int .i64 size∧s.v 2=D.int .i64 labels∧s.v 10=D.sl 70 (AJ (fun x=>D.sl 3 (AJ (D.int .i64) x)) l)∧s.v 11=D.int .i64 (l.length:Int)∧s.v 12=D.int .i64 Cw
def Bo(l:List (List Int))(size:Int)(labels:Int)(r:Unit⊕Unit)(ex:Ex)(s:St):Prop:=match r with
 | .inl q=>ex= .ret∧s.v 6=D.bool false
 | .inr q=>ex= .exit 0
theorem Ps(l:List (List Int))(size:Int)(labels:Int){v:Int}{s:St}{r:Unit⊕Unit}(h:JE l size labels v=some r)(hM:Bn l size labels v s):Cu Y.env jA (Bo l size labels r) s:=by
 unfold JE at h
 refine DL (c:=VB) (fun v=>Et l size labels v) (fun v s=>Bn l size labels v s) (Bo l size labels) ?_ h hM
 clear h hM s v r
 intro Cw s o hM h
 unfold Et at h
 unfold Bn at hM
 obtain⟨m0,m1,m2,m3,m4,m5⟩:=hM
 unfold VB
 by_cases e1:Cw<(l.length:Int)
 ·rw [if_pos e1]at h
  obtain⟨e2,h⟩:=Cf h
  by_cases e3:((l.getD Cw.toNat default).length:Int)=size
  ·rw [if_pos e3]at h
   obtain⟨e4,h⟩:=Cf h
   have c5:=Z8 (l.getD Cw.toNat default) (0:Int) (IntKind.i64.wrap (labels-1)) e4
   by_cases e6:(Hz (l.getD Cw.toNat default) (0:Int) (IntKind.i64.wrap (labels-1)))=true
   ·rw [if_pos e6]at h
    by_cases e7:0<Cw
    ·rw [if_pos e7]at h
     obtain⟨e8,h⟩:=Cf h
     obtain⟨e9,h⟩:=Cf h
     obtain⟨Hd,h⟩:=Cf h
     obtain⟨e11,h⟩:=Cf h
     obtain⟨e12,h⟩:=Cf h
     have c13:=V8 (l.getD ((IntKind.i64.wrap (Cw-1)).toNat) default) (l.getD Cw.toNat default) e9 Hd e11 e12
     by_cases e14:0≤(Lm (l.getD ((IntKind.i64.wrap (Cw-1)).toNat) default) (l.getD Cw.toNat default))
     ·rw [if_pos e14]at h
      obtain rfl:=Option.some.inj h
      simp (maxDischargeDepth:=9) only [↓AL,AB,AO,Ao,AC,AP,Ap,↓reduceIte,Nat.reduceEqDiff,Nat.reduceLT,Nat.reduceLeDiff,Nat.reduceAdd,Nat.reduceMul,Nat.reduceMod,Nat.reduceDiv,Nat.reducePow,Nat.reduceSub,Nat.reduceBEq,Int.reduceLE,Int.reduceLT,Int.reduceEq,Int.reduceSub,Int.reduceAdd,Int.reduceToNat,Int.reduceNeg,m0,m1,m2,m3,m4,m5,e1,e2.1,e2.2,decide_eq_true e3,e4,c5,e6,e7,e8.1,e8.2,e9,decide_eq_true Hd,e11,e12,c13,e14,Bn,Bo,De,Df,Dh]<;>(repeat' apply And.intro)<;>first|rfl|exact⟨_,rfl⟩|exact⟨_,_,rfl⟩|simp [AJ,A7]
     ·rw [if_neg e14]at h
      obtain⟨AZ,hl16,h⟩:=BP h
      try dsimp only at h
      simp (maxDischargeDepth:=9) only [↓AL,AB,AO,Ao,AC,AP,Ap,↓reduceIte,Nat.reduceEqDiff,Nat.reduceLT,Nat.reduceLeDiff,Nat.reduceAdd,Nat.reduceMul,Nat.reduceMod,Nat.reduceDiv,Nat.reducePow,Nat.reduceSub,Nat.reduceBEq,Int.reduceLE,Int.reduceLT,Int.reduceEq,Int.reduceSub,Int.reduceAdd,Int.reduceToNat,Int.reduceNeg,m0,m1,m2,m3,m4,m5,e1,e2.1,e2.2,decide_eq_true e3,e4,c5,e6,e7,e8.1,e8.2,e9,decide_eq_true Hd,e11,e12,c13,e14]
      refine C8 (L6 l size labels Cw hl16 ?_) ?_
      ·simp (maxDischargeDepth:=9) only [↓AL,AB,AO,Ao,AC,AP,Ap,↓reduceIte,Nat.reduceEqDiff,Nat.reduceLT,Nat.reduceLeDiff,Nat.reduceAdd,Nat.reduceMul,Nat.reduceMod,Nat.reduceDiv,Nat.reducePow,Nat.reduceSub,Nat.reduceBEq,Int.reduceLE,Int.reduceLT,Int.reduceEq,Int.reduceSub,Int.reduceAdd,Int.reduceToNat,Int.reduceNeg,m0,m1,m2,m3,m4,m5,e1,e2.1,e2.2,decide_eq_true e3,e4,c5,e6,e7,e8.1,e8.2,e9,decide_eq_true Hd,e11,e12,c13,e14,DN]<;>(repeat' apply And.intro)<;>first|rfl|exact⟨_,rfl⟩|exact⟨_,_,rfl⟩|simp [AJ,A7]
      ·intro ex16 s16 hX16
       rcases AZ with q1000_|q1000_
       ·unfold Cq at hX16
        dsimp only at hX16 h
        obtain⟨rfl,n16_0⟩:=hX16
        obtain rfl:=Option.some.inj h
        simp (maxDischargeDepth:=9) only [↓AL,AB,AO,Ao,AC,AP,Ap,↓reduceIte,Nat.reduceEqDiff,Nat.reduceLT,Nat.reduceLeDiff,Nat.reduceAdd,Nat.reduceMul,Nat.reduceMod,Nat.reduceDiv,Nat.reducePow,Nat.reduceSub,Nat.reduceBEq,Int.reduceLE,Int.reduceLT,Int.reduceEq,Int.reduceSub,Int.reduceAdd,Int.reduceToNat,Int.reduceNeg,e1,e2.1,e2.2,decide_eq_true e3,e4,c5,e6,e7,e8.1,e8.2,e9,decide_eq_true Hd,e11,e12,c13,e14,n16_0,Bn,Bo,De,Df,Dh]<;>(repeat' apply And.intro)<;>first|rfl|exact⟨_,rfl⟩|exact⟨_,_,rfl⟩|simp [AJ,A7]
       ·unfold Cq at hX16
        dsimp only at hX16 h
        obtain⟨rfl,n16_0,n16_1,n16_2,n16_3,n16_4,n16_5⟩:=hX16
        obtain rfl:=Option.some.inj h
        simp (maxDischargeDepth:=9) only [↓AL,AB,AO,Ao,AC,AP,Ap,↓reduceIte,Nat.reduceEqDiff,Nat.reduceLT,Nat.reduceLeDiff,Nat.reduceAdd,Nat.reduceMul,Nat.reduceMod,Nat.reduceDiv,Nat.reducePow,Nat.reduceSub,Nat.reduceBEq,Int.reduceLE,Int.reduceLT,Int.reduceEq,Int.reduceSub,Int.reduceAdd,Int.reduceToNat,Int.reduceNeg,e1,e2.1,e2.2,decide_eq_true e3,e4,c5,e6,e7,e8.1,e8.2,e9,decide_eq_true Hd,e11,e12,c13,e14,n16_0,n16_1,n16_2,n16_3,n16_4,n16_5,Bn,Bo,De,Df,Dh]<;>(repeat' apply And.intro)<;>first|rfl|exact⟨_,rfl⟩|exact⟨_,_,rfl⟩|simp [AJ,A7]
    ·rw [if_neg e7]at h
     obtain⟨AZ,hl9,h⟩:=BP h
     try dsimp only at h
     simp (maxDischargeDepth:=9) only [↓AL,AB,AO,Ao,AC,AP,Ap,↓reduceIte,Nat.reduceEqDiff,Nat.reduceLT,Nat.reduceLeDiff,Nat.reduceAdd,Nat.reduceMul,Nat.reduceMod,Nat.reduceDiv,Nat.reducePow,Nat.reduceSub,Nat.reduceBEq,Int.reduceLE,Int.reduceLT,Int.reduceEq,Int.reduceSub,Int.reduceAdd,Int.reduceToNat,Int.reduceNeg,m0,m1,m2,m3,m4,m5,e1,e2.1,e2.2,decide_eq_true e3,e4,c5,e6,e7]
     refine C8 (L6 l size labels Cw hl9 ?_) ?_
     ·simp (maxDischargeDepth:=9) only [↓AL,AB,AO,Ao,AC,AP,Ap,↓reduceIte,Nat.reduceEqDiff,Nat.reduceLT,Nat.reduceLeDiff,Nat.reduceAdd,Nat.reduceMul,Nat.reduceMod,Nat.reduceDiv,Nat.reducePow,Nat.reduceSub,Nat.reduceBEq,Int.reduceLE,Int.reduceLT,Int.reduceEq,Int.reduceSub,Int.reduceAdd,Int.reduceToNat,Int.reduceNeg,m0,m1,m2,m3,m4,m5,e1,e2.1,e2.2,decide_eq_true e3,e4,c5,e6,e7,DN]<;>(repeat' apply And.intro)<;>first|rfl|exact⟨_,rfl⟩|exact⟨_,_,rfl⟩|simp [AJ,A7]
     ·intro ex9 s9 hX9
      rcases AZ with q1000_|q1000_
      ·unfold Cq at hX9
       dsimp only at hX9 h
       obtain⟨rfl,n9_0⟩:=hX9
       obtain rfl:=Option.some.inj h
       simp (maxDischargeDepth:=9) only [↓AL,AB,AO,Ao,AC,AP,Ap,↓reduceIte,Nat.reduceEqDiff,Nat.reduceLT,Nat.reduceLeDiff,Nat.reduceAdd,Nat.reduceMul,Nat.reduceMod,Nat.reduceDiv,Nat.reducePow,Nat.reduceSub,Nat.reduceBEq,Int.reduceLE,Int.reduceLT,Int.reduceEq,Int.reduceSub,Int.reduceAdd,Int.reduceToNat,Int.reduceNeg,e1,e2.1,e2.2,decide_eq_true e3,e4,c5,e6,e7,n9_0,Bn,Bo,De,Df,Dh]<;>(repeat' apply And.intro)<;>first|rfl|exact⟨_,rfl⟩|exact⟨_,_,rfl⟩|simp [AJ,A7]
      ·unfold Cq at hX9
       dsimp only at hX9 h
       obtain⟨rfl,n9_0,n9_1,n9_2,n9_3,n9_4,n9_5⟩:=hX9
       obtain rfl:=Option.some.inj h
       simp (maxDischargeDepth:=9) only [↓AL,AB,AO,Ao,AC,AP,Ap,↓reduceIte,Nat.reduceEqDiff,Nat.reduceLT,Nat.reduceLeDiff,Nat.reduceAdd,Nat.reduceMul,Nat.reduceMod,Nat.reduceDiv,Nat.reducePow,Nat.reduceSub,Nat.reduceBEq,Int.reduceLE,Int.reduceLT,Int.reduceEq,Int.reduceSub,Int.reduceAdd,Int.reduceToNat,Int.reduceNeg,e1,e2.1,e2.2,decide_eq_true e3,e4,c5,e6,e7,n9_0,n9_1,n9_2,n9_3,n9_4,n9_5,Bn,Bo,De,Df,Dh]<;>(repeat' apply And.intro)<;>first|rfl|exact⟨_,rfl⟩|exact⟨_,_,rfl⟩|simp [AJ,A7]
   ·rw [if_neg e6]at h
    have e6f:(Hz (l.getD Cw.toNat default) (0:Int) (IntKind.i64.wrap (labels-1)))=false:=Bool.eq_false_iff.mpr e6
    obtain rfl:=Option.some.inj h
    simp (maxDischargeDepth:=9) only [↓AL,AB,AO,Ao,AC,AP,Ap,↓reduceIte,Nat.reduceEqDiff,Nat.reduceLT,Nat.reduceLeDiff,Nat.reduceAdd,Nat.reduceMul,Nat.reduceMod,Nat.reduceDiv,Nat.reducePow,Nat.reduceSub,Nat.reduceBEq,Int.reduceLE,Int.reduceLT,Int.reduceEq,Int.reduceSub,Int.reduceAdd,Int.reduceToNat,Int.reduceNeg,m0,m1,m2,m3,m4,m5,e1,e2.1,e2.2,decide_eq_true e3,e4,c5,e6f,Bn,Bo,De,Df,Dh]<;>(repeat' apply And.intro)<;>first|rfl|exact⟨_,rfl⟩|exact⟨_,_,rfl⟩|simp [AJ,A7]
  ·rw [if_neg e3]at h
   obtain rfl:=Option.some.inj h
   simp (maxDischargeDepth:=9) only [↓AL,AB,AO,Ao,AC,AP,Ap,↓reduceIte,Nat.reduceEqDiff,Nat.reduceLT,Nat.reduceLeDiff,Nat.reduceAdd,Nat.reduceMul,Nat.reduceMod,Nat.reduceDiv,Nat.reducePow,Nat.reduceSub,Nat.reduceBEq,Int.reduceLE,Int.reduceLT,Int.reduceEq,Int.reduceSub,Int.reduceAdd,Int.reduceToNat,Int.reduceNeg,m0,m1,m2,m3,m4,m5,e1,e2.1,e2.2,e3,Bn,Bo,De,Df,Dh]<;>(repeat' apply And.intro)<;>first|rfl|exact⟨_,rfl⟩|exact⟨_,_,rfl⟩|simp [AJ,A7]
 ·rw [if_neg e1]at h
  obtain rfl:=Option.some.inj h
  simp (maxDischargeDepth:=9) only [↓AL,AB,AO,Ao,AC,AP,Ap,↓reduceIte,Nat.reduceEqDiff,Nat.reduceLT,Nat.reduceLeDiff,Nat.reduceAdd,Nat.reduceMul,Nat.reduceMod,Nat.reduceDiv,Nat.reducePow,Nat.reduceSub,Nat.reduceBEq,Int.reduceLE,Int.reduceLT,Int.reduceEq,Int.reduceSub,Int.reduceAdd,Int.reduceToNat,Int.reduceNeg,m0,m1,m2,m3,m4,m5,e1,Bn,Bo,De,Df,Dh]<;>(repeat' apply And.intro)<;>first|rfl|exact⟨_,rfl⟩|exact⟨_,_,rfl⟩|simp [AJ,A7]
theorem RS(l:List (List Int))(size:Int)(labels:Int){r:Bool}(h:MO l size labels=some r):Y.call 65 [D.sl 70 (AJ (fun x=>D.sl 3 (AJ (D.int .i64) x)) l),D.int .i64 size,D.int .i64 labels] []=some (D.bool r,[]):=by
 refine c65 ?_ rfl
 unfold k65
 unfold MO at h
 obtain⟨Ia,hl2,h⟩:=BP h
 try dsimp only at h
 simp (maxDischargeDepth:=9) only [↓AL,AB,AO,Ao,AC,AP,Ap,↓reduceIte,Nat.reduceEqDiff,Nat.reduceLT,Nat.reduceLeDiff,Nat.reduceAdd,Nat.reduceMul,Nat.reduceMod,Nat.reduceDiv,Nat.reducePow,Nat.reduceSub,Nat.reduceBEq,Int.reduceLE,Int.reduceLT,Int.reduceEq,Int.reduceSub,Int.reduceAdd,Int.reduceToNat,Int.reduceNeg]
 refine C8 (Ps l size labels hl2 ?_) ?_
 ·simp (maxDischargeDepth:=9) only [↓AL,AB,AO,Ao,AC,AP,Ap,↓reduceIte,Nat.reduceEqDiff,Nat.reduceLT,Nat.reduceLeDiff,Nat.reduceAdd,Nat.reduceMul,Nat.reduceMod,Nat.reduceDiv,Nat.reducePow,Nat.reduceSub,Nat.reduceBEq,Int.reduceLE,Int.reduceLT,Int.reduceEq,Int.reduceSub,Int.reduceAdd,Int.reduceToNat,Int.reduceNeg,Bn]<;>(repeat' apply And.intro)<;>first|rfl|exact⟨_,rfl⟩|exact⟨_,_,rfl⟩|simp [AJ,A7]
 ·intro ex2 s2 hX2
  rcases Ia with q1001_|q1001_
  ·unfold Bo at hX2
   dsimp only at hX2 h
   obtain⟨rfl,n2_0⟩:=hX2
   obtain rfl:=Option.some.inj h
   simp (maxDischargeDepth:=9) only [↓AL,AB,AO,Ao,AC,AP,Ap,↓reduceIte,Nat.reduceEqDiff,Nat.reduceLT,Nat.reduceLeDiff,Nat.reduceAdd,Nat.reduceMul,Nat.reduceMod,Nat.reduceDiv,Nat.reducePow,Nat.reduceSub,Nat.reduceBEq,Int.reduceLE,Int.reduceLT,Int.reduceEq,Int.reduceSub,Int.reduceAdd,Int.reduceToNat,Int.reduceNeg,n2_0]<;>(repeat' apply And.intro)<;>first|rfl|exact⟨_,rfl⟩|exact⟨_,_,rfl⟩|simp [AJ,A7]
  ·unfold Bo at hX2
   dsimp only at hX2 h
   obtain rfl:=hX2
   obtain rfl:=Option.some.inj h
   simp (maxDischargeDepth:=9) only [↓AL,AB,AO,Ao,AC,AP,Ap,↓reduceIte,Nat.reduceEqDiff,Nat.reduceLT,Nat.reduceLeDiff,Nat.reduceAdd,Nat.reduceMul,Nat.reduceMod,Nat.reduceDiv,Nat.reducePow,Nat.reduceSub,Nat.reduceBEq,Int.reduceLE,Int.reduceLT,Int.reduceEq,Int.reduceSub,Int.reduceAdd,Int.reduceToNat,Int.reduceNeg]<;>(repeat' apply And.intro)<;>first|rfl|exact⟨_,rfl⟩|exact⟨_,_,rfl⟩|simp [AJ,A7]
theorem Sq(l:List (List Int))(size labels t:Int)(x:List Int)(hx:l.getD t.toNat default=x)(hs:(x.length:Int)=size)(hb:x.length<1099511627776):
  GM l size labels t 1=some (if FH x=true then .inr ()else .inl ()):=by
 unfold GM
 rcases Nat.eq_zero_or_pos x.length with h0|h0
 ·rw [FD (r:=Sum.inr ())]
  ·simp [FH,h0]
  ·simp only [E9];rw [if_neg (by omega)]
 ·have key:=MJ (fun v=>E9 l size labels t v) (fun j=>(j:Int)+1) (x.length-1) (fun i=>decide (x.getD i default≤x.getD (i+1) default)) (.inl ()) (.inr ()) ?_ ?_
  ·simp only [Int.natCast_zero,Int.zero_add]at key
   rw [key];rfl
  ·intro i hi
   simp only [E9]
   rw [hx,if_pos (by omega),KQ _ (by omega),KQ _ (by omega),Cn (by omega),Cn (by omega),show((i:Int)+1).toNat=i+1 by omega,show((i:Int)+1-1).toNat=i by omega]
   simp only [decide_eq_true_eq]
   by_cases hq:x.getD (i+1) default<x.getD i default
   ·rw [if_pos hq,if_neg (by omega)]
   ·rw [if_neg hq,if_pos (by omega)];rfl
  ·simp only [E9];rw [if_neg (by omega)]
theorem VC(l:List (List Int))(size labels:Int)(h:BV l)(hl:1≤labels∧labels≤8):MO l size labels=some (H9 l size labels):=by
 have h1:=h.1
 unfold MO JE
 have key:=XF (fun v=>Et l size labels v) (fun i=>(i:Int)) l.length (K3 l size labels) (.inl ()) (.inr ()) ?_ ?_
 ·simp only [Int.natCast_zero]at key
  rw [key]
  unfold H9
  cases (List.range l.length).all (K3 l size labels)<;>rfl
 ·intro i hi hp
  simp only [Et]
  rw [if_pos (EJ hi),Cn (Hu hi),PV i (by omega),KQ (labels-1) (by omega)]
  have hs:=h.getD i
  have hs1:=h.getD (i-1)
  rw [Int.toNat_natCast,Cn hs]
  by_cases q1:((l.getD i default).length:Int)=size
  ·rw [if_pos q1]
   have inner:=Sq l size labels (i:Int) (l.getD i default) (by rw [Int.toNat_natCast]) q1 hs
   rw [inner]
   have hprev:=hp (i-1)
   unfold K3 at hprev ⊢
   generalize l.getD i default=x at*
   cases q3:Hz x 0 (labels-1)with
   |false=>simp
   |true=>
    rw [if_pos rfl]
    by_cases q4:i=0
    ·rw [if_neg (by omega)]
     cases q2:FH x<;>simp [q1,q4]
    ·rw [if_pos (by omega),KQ _ (by omega),Cn (by omega),show((i:Int)-1).toNat=i-1 by omega,Cn hs1]
     have hprev:=hprev (by omega)
     generalize l.getD (i-1) default=y at*
     simp only [Bool.and_eq_true,decide_eq_true_eq]at hprev
     rw [Cn (by omega),Cn (Ti hprev.1.2 (by omega) (by omega)),Cn (Ti q3 (by omega) (by omega))]
     by_cases q5:0≤Lm y x
     ·rw [if_pos q5,if_neg (by simp;intro _ _;exact⟨q4,q5⟩)]
     ·rw [if_neg q5]
      have q6:Lm y x<0:=by omega
      cases q2:FH x<;>simp [q1,q6]
  ·have e:=decide_eq_false q1
   unfold K3
   rw [if_neg q1,if_neg (by rw [e];simp)]
 ·intro _
  simp only [Et];rw [if_neg (Bq _)]
theorem O6(l:List (List Int))(size:Int)(labels:Int)(h0:BV l)(h1:1≤labels∧labels≤8):Y.call 65 [D.sl 70 (AJ (fun x=>D.sl 3 (AJ (D.int .i64) x)) l),D.int .i64 size,D.int .i64 labels] []=some (D.bool (H9 l size labels),[]):=RS l size labels (VC l size labels h0 h1)
noncomputable def Js(AR:Int)(AV:Int)(AY:List (List Int))(AQ:List (List Int)):Option (Bool):=
 if(Kr AR (1:Int) (8:Int))=true then
  if(Kr AV (1:Int) (4:Int))=true then
   ck (BV AY)<|
   ck (1≤AR∧AR≤8)<|
   if(H9 AY AV AR)=true then
    ck (BV AQ)<|
    some (H9 AQ (2:Int) AR)
   else
    some false
  else
   some false
 else
  some false
def k43:SC:=
 .seq
 (.ops [
 ⟨(some 1),(.box 39 (.tmp 0)),0,none⟩,
 ⟨(some 2),(.assign (.const (.bool false))),4,none⟩])
 (.seq
 (.ops [
 ⟨(some 3),(.fieldAddr 39 (.tmp 1) 0),0,none⟩,
 ⟨(some 4),(.load 3 (.tmp 3)),3,none⟩,
 ⟨(some 5),(.call ⟨(.value (.func 54)), #[(.tmp 4),(.const (.int .i64 1)),(.const (.int .i64 8))], #[3,3,3]⟩),4,none⟩,
 ⟨(some 6),(.move (.tmp 5)),4,none⟩,
 ⟨(some 7),(.fieldAddr 39 (.tmp 1) 1),0,(some (some 6,true))⟩,
 ⟨(some 8),(.load 3 (.tmp 7)),3,(some (some 6,true))⟩,
 ⟨(some 9),(.call ⟨(.value (.func 54)), #[(.tmp 8),(.const (.int .i64 1)),(.const (.int .i64 4))], #[3,3,3]⟩),4,(some (some 6,true))⟩,
 ⟨(some 10),(.pick (.tmp 6) (.tmp 9) (.const (.bool false))),4,none⟩,
 ⟨(some 11),(.move (.tmp 10)),4,none⟩,
 ⟨(some 12),(.fieldAddr 39 (.tmp 1) 2),0,(some (some 11,true))⟩,
 ⟨(some 13),(.load 34 (.tmp 12)),34,(some (some 11,true))⟩,
 ⟨(some 14),(.fieldAddr 39 (.tmp 1) 1),0,(some (some 11,true))⟩,
 ⟨(some 15),(.load 3 (.tmp 14)),3,(some (some 11,true))⟩,
 ⟨(some 16),(.fieldAddr 39 (.tmp 1) 0),0,(some (some 11,true))⟩,
 ⟨(some 17),(.load 3 (.tmp 16)),3,(some (some 11,true))⟩,
 ⟨(some 18),(.call ⟨(.value (.func 68)), #[(.tmp 13),(.tmp 15),(.tmp 17)], #[34,3,3]⟩),4,(some (some 11,true))⟩,
 ⟨(some 19),(.pick (.tmp 11) (.tmp 18) (.const (.bool false))),4,none⟩,
 ⟨(some 20),(.move (.tmp 19)),4,none⟩,
 ⟨(some 21),(.fieldAddr 39 (.tmp 1) 3),0,(some (some 20,true))⟩,
 ⟨(some 22),(.load 34 (.tmp 21)),34,(some (some 20,true))⟩,
 ⟨(some 23),(.fieldAddr 39 (.tmp 1) 0),0,(some (some 20,true))⟩,
 ⟨(some 24),(.load 3 (.tmp 23)),3,(some (some 20,true))⟩,
 ⟨(some 25),(.call ⟨(.value (.func 68)), #[(.tmp 22),(.const (.int .i64 2)),(.tmp 24)], #[34,3,3]⟩),4,(some (some 20,true))⟩,
 ⟨(some 26),(.pick (.tmp 20) (.tmp 25) (.const (.bool false))),4,none⟩,
 ⟨(some 2),(.assign (.tmp 26)),4,none⟩])
 .ret)
theorem wH:Tryd.f43.body.map (CY lends)=some k43:=by kernel_rfl
theorem ACk:DR Tryd.f43 1=true:=by kernel_rfl
theorem c43{a l:List D}{r:D×List D}(h:Cu Y.env k43 (HZ Ak l.length [ResultVar.tmp 2] r) (entry a l))(ha:a.length=1):Y.call 43 a l=some r:=
 Ah (Y:=Y) rfl Tryd.func43 (ha▸ACk) wH h
theorem Ow(AR:Int)(AV:Int)(AY:List (List Int))(AQ:List (List Int)){r:Bool}(h:Js AR AV AY AQ=some r):Y.call 43 [D.agg [D.int .i64 AR,D.int .i64 AV,D.sl 70 (AJ (fun x=>D.sl 3 (AJ (D.int .i64) x)) AY),D.sl 70 (AJ (fun x=>D.sl 3 (AJ (D.int .i64) x)) AQ)]] []=some (D.bool r,[]):=by
 refine c43 ?_ rfl
 unfold k43
 unfold Js at h
 have c1:=Ll AR (1:Int) (8:Int)
 by_cases e2:(Kr AR (1:Int) (8:Int))=true
 ·rw [if_pos e2]at h
  have c3:=Ll AV (1:Int) (4:Int)
  by_cases e4:(Kr AV (1:Int) (4:Int))=true
  ·rw [if_pos e4]at h
   obtain⟨e5,h⟩:=Cf h
   obtain⟨e6,h⟩:=Cf h
   have c7:=IL AY AV AR e5 e6
   by_cases e8:(H9 AY AV AR)=true
   ·rw [if_pos e8]at h
    obtain⟨e9,h⟩:=Cf h
    have wI:=IL AQ (2:Int) AR e9 e6
    obtain rfl:=Option.some.inj h
    simp (maxDischargeDepth:=9) only [↓AL,AB,AO,Ao,AC,AP,Ap,↓reduceIte,Nat.reduceEqDiff,Nat.reduceLT,Nat.reduceLeDiff,Nat.reduceAdd,Nat.reduceMul,Nat.reduceMod,Nat.reduceDiv,Nat.reducePow,Nat.reduceSub,Nat.reduceBEq,Int.reduceLE,Int.reduceLT,Int.reduceEq,Int.reduceSub,Int.reduceAdd,Int.reduceToNat,Int.reduceNeg,c1,e2,c3,e4,e5,e6.1,e6.2,c7,e8,e9,wI]<;>(repeat' apply And.intro)<;>first|rfl|exact⟨_,rfl⟩|exact⟨_,_,rfl⟩|simp [AJ,A7]
   ·rw [if_neg e8]at h
    have e8f:(H9 AY AV AR)=false:=Bool.eq_false_iff.mpr e8
    obtain rfl:=Option.some.inj h
    simp (maxDischargeDepth:=9) only [↓AL,AB,AO,Ao,AC,AP,Ap,↓reduceIte,Nat.reduceEqDiff,Nat.reduceLT,Nat.reduceLeDiff,Nat.reduceAdd,Nat.reduceMul,Nat.reduceMod,Nat.reduceDiv,Nat.reducePow,Nat.reduceSub,Nat.reduceBEq,Int.reduceLE,Int.reduceLT,Int.reduceEq,Int.reduceSub,Int.reduceAdd,Int.reduceToNat,Int.reduceNeg,c1,e2,c3,e4,e5,e6.1,e6.2,c7,e8f]<;>(repeat' apply And.intro)<;>first|rfl|exact⟨_,rfl⟩|exact⟨_,_,rfl⟩|simp [AJ,A7]
  ·rw [if_neg e4]at h
   have e4f:(Kr AV (1:Int) (4:Int))=false:=Bool.eq_false_iff.mpr e4
   obtain rfl:=Option.some.inj h
   simp (maxDischargeDepth:=9) only [↓AL,AB,AO,Ao,AC,AP,Ap,↓reduceIte,Nat.reduceEqDiff,Nat.reduceLT,Nat.reduceLeDiff,Nat.reduceAdd,Nat.reduceMul,Nat.reduceMod,Nat.reduceDiv,Nat.reducePow,Nat.reduceSub,Nat.reduceBEq,Int.reduceLE,Int.reduceLT,Int.reduceEq,Int.reduceSub,Int.reduceAdd,Int.reduceToNat,Int.reduceNeg,c1,e2,c3,e4f]<;>(repeat' apply And.intro)<;>first|rfl|exact⟨_,rfl⟩|exact⟨_,_,rfl⟩|simp [AJ,A7]
 ·rw [if_neg e2]at h
  have e2f:(Kr AR (1:Int) (8:Int))=false:=Bool.eq_false_iff.mpr e2
  obtain rfl:=Option.some.inj h
  simp (maxDischargeDepth:=9) only [↓AL,AB,AO,Ao,AC,AP,Ap,↓reduceIte,Nat.reduceEqDiff,Nat.reduceLT,Nat.reduceLeDiff,Nat.reduceAdd,Nat.reduceMul,Nat.reduceMod,Nat.reduceDiv,Nat.reducePow,Nat.reduceSub,Nat.reduceBEq,Int.reduceLE,Int.reduceLT,Int.reduceEq,Int.reduceSub,Int.reduceAdd,Int.reduceToNat,Int.reduceNeg,c1,e2f]<;>(repeat' apply And.intro)<;>first|rfl|exact⟨_,rfl⟩|exact⟨_,_,rfl⟩|simp [AJ,A7]
noncomputable def O7(AR:Int)(AV:Int)(AY:List (List Int))(AQ:List (List Int)):Option (Bool):=
 if(Kr AR (1:Int) (8:Int))=true then
  if(Kr AV (1:Int) (4:Int))=true then
   ck (BV AY)<|
   ck (1≤AR∧AR≤8)<|
   if(H9 AY AV AR)=true then
    ck (BV AQ)<|
    some (H9 AQ (2:Int) AR)
   else
    some false
  else
   some false
 else
  some false
def k40:SC:=
 .seq
 (.ops [
 ⟨(some 1),(.box 39 (.tmp 0)),0,none⟩,
 ⟨(some 2),(.assign (.const (.bool false))),4,none⟩])
 (.seq
 (.ops [
 ⟨(some 3),(.fieldAddr 39 (.tmp 1) 0),0,none⟩,
 ⟨(some 4),(.load 3 (.tmp 3)),3,none⟩,
 ⟨(some 5),(.call ⟨(.value (.func 51)), #[(.tmp 4),(.const (.int .i64 1)),(.const (.int .i64 8))], #[3,3,3]⟩),4,none⟩,
 ⟨(some 6),(.move (.tmp 5)),4,none⟩,
 ⟨(some 7),(.fieldAddr 39 (.tmp 1) 1),0,(some (some 6,true))⟩,
 ⟨(some 8),(.load 3 (.tmp 7)),3,(some (some 6,true))⟩,
 ⟨(some 9),(.call ⟨(.value (.func 51)), #[(.tmp 8),(.const (.int .i64 1)),(.const (.int .i64 4))], #[3,3,3]⟩),4,(some (some 6,true))⟩,
 ⟨(some 10),(.pick (.tmp 6) (.tmp 9) (.const (.bool false))),4,none⟩,
 ⟨(some 11),(.move (.tmp 10)),4,none⟩,
 ⟨(some 12),(.fieldAddr 39 (.tmp 1) 2),0,(some (some 11,true))⟩,
 ⟨(some 13),(.load 34 (.tmp 12)),34,(some (some 11,true))⟩,
 ⟨(some 14),(.fieldAddr 39 (.tmp 1) 1),0,(some (some 11,true))⟩,
 ⟨(some 15),(.load 3 (.tmp 14)),3,(some (some 11,true))⟩,
 ⟨(some 16),(.fieldAddr 39 (.tmp 1) 0),0,(some (some 11,true))⟩,
 ⟨(some 17),(.load 3 (.tmp 16)),3,(some (some 11,true))⟩,
 ⟨(some 18),(.call ⟨(.value (.func 65)), #[(.tmp 13),(.tmp 15),(.tmp 17)], #[34,3,3]⟩),4,(some (some 11,true))⟩,
 ⟨(some 19),(.pick (.tmp 11) (.tmp 18) (.const (.bool false))),4,none⟩,
 ⟨(some 20),(.move (.tmp 19)),4,none⟩,
 ⟨(some 21),(.fieldAddr 39 (.tmp 1) 3),0,(some (some 20,true))⟩,
 ⟨(some 22),(.load 34 (.tmp 21)),34,(some (some 20,true))⟩,
 ⟨(some 23),(.fieldAddr 39 (.tmp 1) 0),0,(some (some 20,true))⟩,
 ⟨(some 24),(.load 3 (.tmp 23)),3,(some (some 20,true))⟩,
 ⟨(some 25),(.call ⟨(.value (.func 65)), #[(.tmp 22),(.const (.int .i64 2)),(.tmp 24)], #[34,3,3]⟩),4,(some (some 20,true))⟩,
 ⟨(some 26),(.pick (.tmp 20) (.tmp 25) (.const (.bool false))),4,none⟩,
 ⟨(some 2),(.assign (.tmp 26)),4,none⟩])
 .ret)
theorem wJ:Tryd.f40.body.map (CY lends)=some k40:=by kernel_rfl
theorem ACm:DR Tryd.f40 1=true:=by kernel_rfl
theorem c40{a l:List D}{r:D×List D}(h:Cu Y.env k40 (HZ Ak l.length [ResultVar.tmp 2] r) (entry a l))(ha:a.length=1):Y.call 40 a l=some r:=
 Ah (Y:=Y) rfl Tryd.func40 (ha▸ACm) wJ h
theorem Sr(AR:Int)(AV:Int)(AY:List (List Int))(AQ:List (List Int)){r:Bool}(h:O7 AR AV AY AQ=some r):Y.call 40 [D.agg [D.int .i64 AR,D.int .i64 AV,D.sl 70 (AJ (fun x=>D.sl 3 (AJ (D.int .i64) x)) AY),D.sl 70 (AJ (fun x=>D.sl 3 (AJ (D.int .i64) x)) AQ)]] []=some (D.bool r,[]):=by
 refine c40 ?_ rfl
 unfold k40
 unfold O7 at h
 have c1:=MM AR (1:Int) (8:Int)
 by_cases e2:(Kr AR (1:Int) (8:Int))=true
 ·rw [if_pos e2]at h
  have c3:=MM AV (1:Int) (4:Int)
  by_cases e4:(Kr AV (1:Int) (4:Int))=true
  ·rw [if_pos e4]at h
   obtain⟨e5,h⟩:=Cf h
   obtain⟨e6,h⟩:=Cf h
   have c7:=O6 AY AV AR e5 e6
   by_cases e8:(H9 AY AV AR)=true
   ·rw [if_pos e8]at h
    obtain⟨e9,h⟩:=Cf h
    have wI:=O6 AQ (2:Int) AR e9 e6
    obtain rfl:=Option.some.inj h
    simp (maxDischargeDepth:=9) only [↓AL,AB,AO,Ao,AC,AP,Ap,↓reduceIte,Nat.reduceEqDiff,Nat.reduceLT,Nat.reduceLeDiff,Nat.reduceAdd,Nat.reduceMul,Nat.reduceMod,Nat.reduceDiv,Nat.reducePow,Nat.reduceSub,Nat.reduceBEq,Int.reduceLE,Int.reduceLT,Int.reduceEq,Int.reduceSub,Int.reduceAdd,Int.reduceToNat,Int.reduceNeg,c1,e2,c3,e4,e5,e6.1,e6.2,c7,e8,e9,wI]<;>(repeat' apply And.intro)<;>first|rfl|exact⟨_,rfl⟩|exact⟨_,_,rfl⟩|simp [AJ,A7]
   ·rw [if_neg e8]at h
    have e8f:(H9 AY AV AR)=false:=Bool.eq_false_iff.mpr e8
    obtain rfl:=Option.some.inj h
    simp (maxDischargeDepth:=9) only [↓AL,AB,AO,Ao,AC,AP,Ap,↓reduceIte,Nat.reduceEqDiff,Nat.reduceLT,Nat.reduceLeDiff,Nat.reduceAdd,Nat.reduceMul,Nat.reduceMod,Nat.reduceDiv,Nat.reducePow,Nat.reduceSub,Nat.reduceBEq,Int.reduceLE,Int.reduceLT,Int.reduceEq,Int.reduceSub,Int.reduceAdd,Int.reduceToNat,Int.reduceNeg,c1,e2,c3,e4,e5,e6.1,e6.2,c7,e8f]<;>(repeat' apply And.intro)<;>first|rfl|exact⟨_,rfl⟩|exact⟨_,_,rfl⟩|simp [AJ,A7]
  ·rw [if_neg e4]at h
   have e4f:(Kr AV (1:Int) (4:Int))=false:=Bool.eq_false_iff.mpr e4
   obtain rfl:=Option.some.inj h
   simp (maxDischargeDepth:=9) only [↓AL,AB,AO,Ao,AC,AP,Ap,↓reduceIte,Nat.reduceEqDiff,Nat.reduceLT,Nat.reduceLeDiff,Nat.reduceAdd,Nat.reduceMul,Nat.reduceMod,Nat.reduceDiv,Nat.reducePow,Nat.reduceSub,Nat.reduceBEq,Int.reduceLE,Int.reduceLT,Int.reduceEq,Int.reduceSub,Int.reduceAdd,Int.reduceToNat,Int.reduceNeg,c1,e2,c3,e4f]<;>(repeat' apply And.intro)<;>first|rfl|exact⟨_,rfl⟩|exact⟨_,_,rfl⟩|simp [AJ,A7]
 ·rw [if_neg e2]at h
  have e2f:(Kr AR (1:Int) (8:Int))=false:=Bool.eq_false_iff.mpr e2
  obtain rfl:=Option.some.inj h
  simp (maxDischargeDepth:=9) only [↓AL,AB,AO,Ao,AC,AP,Ap,↓reduceIte,Nat.reduceEqDiff,Nat.reduceLT,Nat.reduceLeDiff,Nat.reduceAdd,Nat.reduceMul,Nat.reduceMod,Nat.reduceDiv,Nat.reducePow,Nat.reduceSub,Nat.reduceBEq,Int.reduceLE,Int.reduceLT,Int.reduceEq,Int.reduceSub,Int.reduceAdd,Int.reduceToNat,Int.reduceNeg,c1,e2f]<;>(repeat' apply And.intro)<;>first|rfl|exact⟨_,rfl⟩|exact⟨_,_,rfl⟩|simp [AJ,A7]
theorem RU(a b:Int)(n e:List (List Int))(hn:BV n)(he:BV e):Js a b n e=some (DZ a b n e):=by
 unfold Js DZ
 by_cases h1:Kr a 1 8=true
 ·have h1':=Fg.1 h1
  by_cases h2:Kr b 1 4=true
  ·rw [if_pos h1,if_pos h2,Cn hn,Cn h1',Cn he]
   cases h3:H9 n b a<;>simp [h1,h2]
  ·rw [if_pos h1,if_neg h2];simp [h2]
 ·rw [if_neg h1];simp [h1]
theorem XW(a b:Int)(n e:List (List Int))(hn:BV n)(he:BV e):O7 a b n e=some (DZ a b n e):=by
 unfold O7 DZ
 by_cases h1:Kr a 1 8=true
 ·have h1':=Fg.1 h1
  by_cases h2:Kr b 1 4=true
  ·rw [if_pos h1,if_pos h2,Cn hn,Cn h1',Cn he]
   cases h3:H9 n b a<;>simp [h1,h2]
  ·rw [if_pos h1,if_neg h2];simp [h2]
 ·rw [if_neg h1];simp [h1]
theorem RV(AR:Int)(AV:Int)(AY:List (List Int))(AQ:List (List Int))(h0:BV AY)(h1:BV AQ):Y.call 43 [D.agg [D.int .i64 AR,D.int .i64 AV,D.sl 70 (AJ (fun x=>D.sl 3 (AJ (D.int .i64) x)) AY),D.sl 70 (AJ (fun x=>D.sl 3 (AJ (D.int .i64) x)) AQ)]] []=some (D.bool (DZ AR AV AY AQ),[]):=Ow AR AV AY AQ (RU AR AV AY AQ h0 h1)
theorem XX(AR:Int)(AV:Int)(AY:List (List Int))(AQ:List (List Int))(h0:BV AY)(h1:BV AQ):Y.call 40 [D.agg [D.int .i64 AR,D.int .i64 AV,D.sl 70 (AJ (fun x=>D.sl 3 (AJ (D.int .i64) x)) AY),D.sl 70 (AJ (fun x=>D.sl 3 (AJ (D.int .i64) x)) AQ)]] []=some (D.bool (DZ AR AV AY AQ),[]):=Sr AR AV AY AQ (XW AR AV AY AQ h0 h1)
end Go.Proofs.YtaogbcdlpgfplaaDoor
