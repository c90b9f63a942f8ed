/- When lists are a problem, as plain functions. Conditions: the lists are short. -/
import Derived.Test.YtclkfhhdikfcpaaL6
import Derived.Test.YtclkfhhdikfcpaaPB
namespace Go.Proofs.Ytclkfhhdikfcpaa
open Go Dv
set_option linter.unusedSimpArgs false
set_option linter.unusedVariables false
set_option maxRecDepth 100000
set_option maxHeartbeats 4000000
def NI(n lo hi:Int):Bool:=decide (lo≤n∧n≤hi)
theorem Kj{n lo hi:Int}:NI n lo hi=true↔lo≤n∧n≤hi:=by simp [NI]
noncomputable def PM(n_:Int)(low:Int)(high:Int):Option (Bool):= if low≤n_ then some (decide (n_≤high)) else some false
def k97:SC:= .seq (.ops [oX 6 (.assign (.const (.bool false))) 4]) (.seq (.ops [oM 7 1 3,oM 8 0 3,oB 9 .leq 3 (tK 7) (tK 8) 3 4,oM 10 9 4,⟨(some 11),(.move (tK 0)),3,(some (some 10,true))⟩,⟨(some 12),(.move (tK 2)),3,(some (some 10,true))⟩,⟨(some 13),(.binOp .leq 3 (tK 11) (tK 12) 3),4,(some (some 10,true))⟩,oX 14 (.pick (tK 10) (tK 13) (.const (.bool false))) 4,oA 6 14 4]) .ret)
theorem yf:Try.f97.body.map (Ct lends)=some k97:=by kernel_rfl
theorem A9g:DL Try.f97 3=true:=by kernel_rfl
theorem c97{a l:List D}{r:D×List D}(h:D6 Y.env k97 (I6 Aa l.length [ResultVar.tmp 6] r) (entry a l))(ha:a.length=3):Y.call 97 a l=some r:=
 Ag (Y:=Y) rfl Try.func97 (ha▸A9g) yf h
theorem UH(n_:Int)(low:Int)(high:Int){r:Bool}(h:PM n_ low high=some r):Y.call 97 [D.int .i64 n_,D.int .i64 low,D.int .i64 high] []=some (D.bool r,[]):=by
 refine c97 ?_ rfl;unfold k97;unfold PM at h;by_cases e1:low≤n_
 ·rw [if_pos e1]at h
  obtain rfl:=Option.some.inj h
  simp (maxDischargeDepth:=9) only [↓AB,AC,Ah,↓reduceIte,Nat.reduceEqDiff,Nat.reduceLT,Nat.reduceLeDiff,Nat.reduceAdd,Nat.reduceMul,Nat.reduceMod,Nat.reduceDiv,Nat.reducePow,Nat.reduceSub,Nat.reduceBEq,Int.reduceLE,Int.reduceLT,Int.reduceEq,Int.reduceSub,Int.reduceAdd,Int.reduceToNat,Int.reduceNeg,e1]<;>(repeat' apply A7)<;>first|rfl|exact⟨_,rfl⟩|exact⟨_,_,rfl⟩|simp [A9,A8]
 ·rw [if_neg e1]at h
  obtain rfl:=Option.some.inj h
  simp (maxDischargeDepth:=9) only [↓AB,AC,Ah,↓reduceIte,Nat.reduceEqDiff,Nat.reduceLT,Nat.reduceLeDiff,Nat.reduceAdd,Nat.reduceMul,Nat.reduceMod,Nat.reduceDiv,Nat.reducePow,Nat.reduceSub,Nat.reduceBEq,Int.reduceLE,Int.reduceLT,Int.reduceEq,Int.reduceSub,Int.reduceAdd,Int.reduceToNat,Int.reduceNeg,e1]<;>(repeat' apply A7)<;>first|rfl|exact⟨_,rfl⟩|exact⟨_,_,rfl⟩|simp [A9,A8]
noncomputable def WF(n_:Int)(lo:Int)(hi:Int):Option (Bool):= if lo≤n_ then some (decide (n_≤hi)) else some false
def k92:SC:= .seq (.ops [oX 6 (.assign (.const (.bool false))) 4]) (.seq (.ops [oM 7 0 3,oM 8 1 3,oB 9 .geq 3 (tK 7) (tK 8) 3 4,oM 10 9 4,⟨(some 11),(.move (tK 0)),3,(some (some 10,true))⟩,⟨(some 12),(.move (tK 2)),3,(some (some 10,true))⟩,⟨(some 13),(.binOp .leq 3 (tK 11) (tK 12) 3),4,(some (some 10,true))⟩,oX 14 (.pick (tK 10) (tK 13) (.const (.bool false))) 4,oA 6 14 4]) .ret)
theorem yg:Try.f92.body.map (Ct lends)=some k92:=by kernel_rfl
theorem A9i:DL Try.f92 3=true:=by kernel_rfl
theorem c92{a l:List D}{r:D×List D}(h:D6 Y.env k92 (I6 Aa l.length [ResultVar.tmp 6] r) (entry a l))(ha:a.length=3):Y.call 92 a l=some r:=
 Ag (Y:=Y) rfl Try.func92 (ha▸A9i) yg h
theorem YJ(n_:Int)(lo:Int)(hi:Int){r:Bool}(h:WF n_ lo hi=some r):Y.call 92 [D.int .i64 n_,D.int .i64 lo,D.int .i64 hi] []=some (D.bool r,[]):=by
 refine c92 ?_ rfl;unfold k92;unfold WF at h;by_cases e1:lo≤n_
 ·rw [if_pos e1]at h
  obtain rfl:=Option.some.inj h
  simp (maxDischargeDepth:=9) only [↓AB,AC,Ah,↓reduceIte,Nat.reduceEqDiff,Nat.reduceLT,Nat.reduceLeDiff,Nat.reduceAdd,Nat.reduceMul,Nat.reduceMod,Nat.reduceDiv,Nat.reducePow,Nat.reduceSub,Nat.reduceBEq,Int.reduceLE,Int.reduceLT,Int.reduceEq,Int.reduceSub,Int.reduceAdd,Int.reduceToNat,Int.reduceNeg,e1]<;>(repeat' apply A7)<;>first|rfl|exact⟨_,rfl⟩|exact⟨_,_,rfl⟩|simp [A9,A8]
 ·rw [if_neg e1]at h
  obtain rfl:=Option.some.inj h
  simp (maxDischargeDepth:=9) only [↓AB,AC,Ah,↓reduceIte,Nat.reduceEqDiff,Nat.reduceLT,Nat.reduceLeDiff,Nat.reduceAdd,Nat.reduceMul,Nat.reduceMod,Nat.reduceDiv,Nat.reducePow,Nat.reduceSub,Nat.reduceBEq,Int.reduceLE,Int.reduceLT,Int.reduceEq,Int.reduceSub,Int.reduceAdd,Int.reduceToNat,Int.reduceNeg,e1]<;>(repeat' apply A7)<;>first|rfl|exact⟨_,rfl⟩|exact⟨_,_,rfl⟩|simp [A9,A8]
theorem YK(n lo hi:Int):PM n lo hi=some (NI n lo hi):=by unfold PM NI;by_cases h1:lo≤n<;>by_cases h2:n≤hi<;>simp [h1,h2]
theorem dL(n lo hi:Int):WF n lo hi=some (NI n lo hi):=by unfold WF NI;by_cases h1:lo≤n<;>by_cases h2:n≤hi<;>simp [h1,h2]
theorem NJ(n_:Int)(low:Int)(high:Int):Y.call 97 [D.int .i64 n_,D.int .i64 low,D.int .i64 high] []=some (D.bool (NI n_ low high),[]):=UH n_ low high (YK n_ low high)
theorem QG(n_:Int)(lo:Int)(hi:Int):Y.call 92 [D.int .i64 n_,D.int .i64 lo,D.int .i64 hi] []=some (D.bool (NI n_ lo hi),[]):=YJ n_ lo hi (dL n_ lo hi)
noncomputable def Hz(l:List Int)(lo:Int)(hi:Int)(Bz:Int):Option ((Int)⊕(Unit⊕Unit)):= if Bz<(l.length:Int)then ck (0≤Bz∧Bz.toNat<l.length)<| if(NI (l.getD Bz.toNat default) lo hi)=true then some (Sum.inl (IntKind.i64.wrap (Bz+1))) else some (Sum.inr (Sum.inl ())) else some (Sum.inr (Sum.inr ()))
noncomputable def M5(l:List Int)(lo:Int)(hi:Int)(v:Int):Option (Unit⊕Unit):=Iw (fun v=>Hz l lo hi v) v
noncomputable def RO(l:List Int)(lo:Int)(hi:Int):Option (Bool):=
 (M5 l lo hi 0).bind fun AO=>
 match AO with
 | .inl q1000_=>
  some false
 | .inr q1000_=>
  some true
def TD:SC:= .seq (.ops [oB 12 .lss 3 (tK 11) (tK 10) 3 0]) (.seq (.cond (tK 12) .skip (.exit 0)) (.seq (.block 1 (.seq (.ops [oI 13 26 9 11,oL 14 3 13 3,oA 8 14 3]) (.seq (.ops [oM 15 8 3,oM 16 1 3,oM 17 2 3,oC 18 92 [(tK 15),(tK 16),(tK 17)] [3,3,3] 4,oX 19 (.unOp .not 4 (tK 18)) 4]) (.cond (tK 19) (.seq (.ops [oX 6 (.assign (.const (.bool false))) 4]) .ret) .skip)))) (.ops [oB 20 .add 3 (tK 11) (iK 1) 3 3,oM 11 20 3])))
def aS:SC:= .loop TD
def yh:SC:= .seq (.ops [oX 6 (.assign (.const (.bool false))) 4]) (.seq (.seq (.ops [oM 9 0 26,oN 10 9 26,oX 11 (.move (iK 0)) 3]) (.block 0 aS)) (.seq (.ops [oX 6 (.assign (.const (.bool true))) 4]) .ret))
theorem lh:Try.f107.body.map (Ct lends)=some yh:=by kernel_rfl
theorem A5c:DL Try.f107 3=true:=by kernel_rfl
theorem A9j{a l:List D}{r:D×List D}(h:D6 Y.env yh (I6 Aa l.length [ResultVar.tmp 6] r) (entry a l))(ha:a.length=3):Y.call 107 a l=some r:=
 Ag (Y:=Y) rfl Try.func107 (ha▸A5c) lh h
def GL(l:List Int)(lo:Int)(hi:Int)(Bz:Int)(s:St):Prop:=s.v 1=D.int .i64 lo∧s.v 2=D.int .i64 hi∧s.v 9=D.sl 3 (A9 (D.int .i64) l)∧s.v 10=D.int .i64 (l.length:Int)∧s.v 11=D.int .i64 Bz
def GM(l:List Int)(lo:Int)(hi:Int)(r:Unit⊕Unit)(ex:Ex)(s:St):Prop:=match r with
 | .inl q=>ex= .ret∧s.v 6=D.bool false
 | .inr q=>ex= .exit 0
theorem UI(l:List Int)(lo:Int)(hi:Int){v:Int}{s:St}{r:Unit⊕Unit}(h:M5 l lo hi v=some r)(hM:GL l lo hi v s):D6 Y.env aS (GM l lo hi r) s:=by
 unfold M5 at h;refine CX (c:=TD) (fun v=>Hz l lo hi v) (fun v s=>GL l lo hi v s) (GM l lo hi) ?_ h hM;clear h hM s v r;intro Bz s o hM h;unfold Hz at h;unfold GL at hM;obtain⟨m0,m1,m2,m3,m4⟩:=hM;unfold TD;by_cases e1:Bz<(l.length:Int)
 ·rw [if_pos e1]at h;obtain⟨e2,h⟩:=Bw h;have c3:=QG (l.getD Bz.toNat default) lo hi;by_cases e4:(NI (l.getD Bz.toNat default) lo hi)=true
  ·rw [if_pos e4]at h
   obtain rfl:=Option.some.inj h
   simp (maxDischargeDepth:=9) only [↓AB,AC,Ah,↓reduceIte,Nat.reduceEqDiff,Nat.reduceLT,Nat.reduceLeDiff,Nat.reduceAdd,Nat.reduceMul,Nat.reduceMod,Nat.reduceDiv,Nat.reducePow,Nat.reduceSub,Nat.reduceBEq,Int.reduceLE,Int.reduceLT,Int.reduceEq,Int.reduceSub,Int.reduceAdd,Int.reduceToNat,Int.reduceNeg,m0,m1,m2,m3,m4,e1,e2.1,e2.2,c3,e4,GL,GM,DN,DR,DT]<;>(repeat' apply A7)<;>first|rfl|exact⟨_,rfl⟩|exact⟨_,_,rfl⟩|simp [A9,A8]
  ·rw [if_neg e4]at h;have e4f:(NI (l.getD Bz.toNat default) lo hi)=false:=Gm.mpr e4
   obtain rfl:=Option.some.inj h
   simp (maxDischargeDepth:=9) only [↓AB,AC,Ah,↓reduceIte,Nat.reduceEqDiff,Nat.reduceLT,Nat.reduceLeDiff,Nat.reduceAdd,Nat.reduceMul,Nat.reduceMod,Nat.reduceDiv,Nat.reducePow,Nat.reduceSub,Nat.reduceBEq,Int.reduceLE,Int.reduceLT,Int.reduceEq,Int.reduceSub,Int.reduceAdd,Int.reduceToNat,Int.reduceNeg,m0,m1,m2,m3,m4,e1,e2.1,e2.2,c3,e4f,GL,GM,DN,DR,DT]<;>(repeat' apply A7)<;>first|rfl|exact⟨_,rfl⟩|exact⟨_,_,rfl⟩|simp [A9,A8]
 ·rw [if_neg e1]at h
  obtain rfl:=Option.some.inj h
  simp (maxDischargeDepth:=9) only [↓AB,AC,Ah,↓reduceIte,Nat.reduceEqDiff,Nat.reduceLT,Nat.reduceLeDiff,Nat.reduceAdd,Nat.reduceMul,Nat.reduceMod,Nat.reduceDiv,Nat.reducePow,Nat.reduceSub,Nat.reduceBEq,Int.reduceLE,Int.reduceLT,Int.reduceEq,Int.reduceSub,Int.reduceAdd,Int.reduceToNat,Int.reduceNeg,m0,m1,m2,m3,m4,e1,GL,GM,DN,DR,DT]<;>(repeat' apply A7)<;>first|rfl|exact⟨_,rfl⟩|exact⟨_,_,rfl⟩|simp [A9,A8]
theorem WG(l:List Int)(lo:Int)(hi:Int){r:Bool}(h:RO l lo hi=some r):Y.call 107 [D.sl 3 (A9 (D.int .i64) l),D.int .i64 lo,D.int .i64 hi] []=some (D.bool r,[]):=by
 refine A9j ?_ rfl;unfold yh;unfold RO at h;obtain⟨AO,hl2,h⟩:=BC h;try dsimp only at h
 simp (maxDischargeDepth:=9) only [↓AB,AC,Ah,↓reduceIte,Nat.reduceEqDiff,Nat.reduceLT,Nat.reduceLeDiff,Nat.reduceAdd,Nat.reduceMul,Nat.reduceMod,Nat.reduceDiv,Nat.reducePow,Nat.reduceSub,Nat.reduceBEq,Int.reduceLE,Int.reduceLT,Int.reduceEq,Int.reduceSub,Int.reduceAdd,Int.reduceToNat,Int.reduceNeg];refine Bh (UI l lo hi hl2 ?_) ?_
 ·simp (maxDischargeDepth:=9) only [↓AB,AC,Ah,↓reduceIte,Nat.reduceEqDiff,Nat.reduceLT,Nat.reduceLeDiff,Nat.reduceAdd,Nat.reduceMul,Nat.reduceMod,Nat.reduceDiv,Nat.reducePow,Nat.reduceSub,Nat.reduceBEq,Int.reduceLE,Int.reduceLT,Int.reduceEq,Int.reduceSub,Int.reduceAdd,Int.reduceToNat,Int.reduceNeg,GL]<;>(repeat' apply A7)<;>first|rfl|exact⟨_,rfl⟩|exact⟨_,_,rfl⟩|simp [A9,A8]
 ·intro ex2 s2 hX2;rcases AO with q1000_|q1000_
  ·unfold GM at hX2;dsimp only at hX2 h;obtain⟨rfl,n2_0⟩:=hX2
   obtain rfl:=Option.some.inj h
   simp (maxDischargeDepth:=9) only [↓AB,AC,Ah,↓reduceIte,Nat.reduceEqDiff,Nat.reduceLT,Nat.reduceLeDiff,Nat.reduceAdd,Nat.reduceMul,Nat.reduceMod,Nat.reduceDiv,Nat.reducePow,Nat.reduceSub,Nat.reduceBEq,Int.reduceLE,Int.reduceLT,Int.reduceEq,Int.reduceSub,Int.reduceAdd,Int.reduceToNat,Int.reduceNeg,n2_0]<;>(repeat' apply A7)<;>first|rfl|exact⟨_,rfl⟩|exact⟨_,_,rfl⟩|simp [A9,A8]
  ·unfold GM at hX2;dsimp only at hX2 h
   obtain rfl:=hX2
   obtain rfl:=Option.some.inj h
   simp (maxDischargeDepth:=9) only [↓AB,AC,Ah,↓reduceIte,Nat.reduceEqDiff,Nat.reduceLT,Nat.reduceLeDiff,Nat.reduceAdd,Nat.reduceMul,Nat.reduceMod,Nat.reduceDiv,Nat.reducePow,Nat.reduceSub,Nat.reduceBEq,Int.reduceLE,Int.reduceLT,Int.reduceEq,Int.reduceSub,Int.reduceAdd,Int.reduceToNat,Int.reduceNeg]<;>(repeat' apply A7)<;>first|rfl|exact⟨_,rfl⟩|exact⟨_,_,rfl⟩|simp [A9,A8]
def J2(l:List Int)(lo hi:Int):Bool:=l.all fun x=>NI x lo hi
theorem Zm(l:List Int)(lo hi:Int)(h:l.length<1099511627776):RO l lo hi=some (J2 l lo hi):=by
 unfold RO M5;have key:=JO (fun v=>Hz l lo hi v) (fun i=>(i:Int)) l.length (fun i=>NI (l.getD i default) lo hi) (.inl ()) (.inr ()) ?_ ?_
 ·simp only [Jo]at key;rw [key,P8 (fun x=>NI x lo hi)];unfold J2
  cases l.all (fun x=>NI x lo hi)<;>rfl
 ·intro i hi;simp only [Hz];rw [if_pos (GJ hi),CU (Fh hi),KP,Ny i (by omega)]
 ·simp only [Hz];rw [if_neg (CY _)]
theorem Zn(l:List Int)(lo:Int)(hi:Int)(h0:l.length<1099511627776):Y.call 107 [D.sl 3 (A9 (D.int .i64) l),D.int .i64 lo,D.int .i64 hi] []=some (D.bool (J2 l lo hi),[]):=WG l lo hi (Zm l lo hi h0)
noncomputable def Au(s_:List Int)(f:Int→Option Bool)(kD:Int):Option ((Int)⊕(Int⊕Unit)):= if kD<(s_.length:Int)then ck (0≤kD∧kD.toNat<s_.length)<| (f (s_.getD kD.toNat default)).bind fun UJ=> if UJ=true then some (Sum.inr (Sum.inl kD)) else some (Sum.inl (IntKind.i64.wrap (kD+1))) else some (Sum.inr (Sum.inr ()))
noncomputable def Cn(s_:List Int)(f:Int→Option Bool)(v:Int):Option (Int⊕Unit):=Iw (fun v=>Au s_ f v) v
noncomputable def CZ(s_:List Int)(f:Int→Option Bool):Option (Int):=
 (Cn s_ f 0).bind fun AO=>
 match AO with
 | .inl q1000_=>
  some q1000_
 | .inr q1000_=>
  some (-1)
def TE:SC:= .seq (.ops [oB 9 .lss 3 (tK 8) (tK 7) 3 0]) (.seq (.cond (tK 9) .skip (.exit 0)) (.seq (.block 1 (.seq (.ops [oM 10 8 3,oA 5 10 3]) (.seq (.ops [oM 11 1 87,oM 12 0 26,oM 13 5 3,oI 14 26 12 13,oL 15 3 14 3,oX 16 (.call ⟨(.value (tK 11)), #[(tK 15)], #[3]⟩) 4]) (.cond (tK 16) (.seq (.ops [oM 17 5 3,oA 4 17 3]) .ret) .skip)))) (.ops [oB 18 .add 3 (tK 8) (iK 1) 3 3,oM 8 18 3])))
def aT:SC:= .loop TE
def yj:SC:= .seq (.ops [oX 4 (.assign (iK 0)) 3]) (.seq (.seq (.ops [oM 6 0 26,oN 7 6 26,oX 8 (.move (iK 0)) 3]) (.block 0 aT)) (.seq (.ops [oX 4 (.assign (.const (.int .i64 (-1)))) 3]) .ret))
theorem ll:Try.f163.body.map (Ct lends)=some yj:=by kernel_rfl
theorem A5d:DL Try.f163 2=true:=by kernel_rfl
theorem A9k{a l:List D}{r:D×List D}(h:D6 Y.env yj (I6 Aa l.length [ResultVar.tmp 4] r) (entry a l))(ha:a.length=2):Y.call 163 a l=some r:=
 Ag (Y:=Y) rfl Try.func163 (ha▸A5d) ll h
def BJ(s_:List Int)(f:Int→Option Bool)(f_f:FuncId)(f_c:List D)(kD:Int)(s:St):Prop:=s.v 0=D.sl 3 (A9 (D.int .i64) s_)∧s.v 1=D.clo f_f f_c∧s.v 7=D.int .i64 (s_.length:Int)∧s.v 8=D.int .i64 kD
def BK(s_:List Int)(f:Int→Option Bool)(f_f:FuncId)(f_c:List D)(r:Int⊕Unit)(ex:Ex)(s:St):Prop:=match r with
 | .inl q=>ex= .ret∧s.v 4=D.int .i64 q
 | .inr q=>ex= .exit 0
theorem Ik(s_:List Int)(f:Int→Option Bool)(f_f:FuncId)(f_c:List D)(f_h: ∀(a0:Int) (r:Bool),f a0=some r→Y.call f_f (D.int .i64 a0::f_c) []=some (D.bool r,[]))(f_l:lends f_f=false){v:Int}{s:St}{r:Int⊕Unit}(h:Cn s_ f v=some r)(hM:BJ s_ f f_f f_c v s):D6 Y.env aT (BK s_ f f_f f_c r) s:=by
 unfold Cn at h;refine CX (c:=TE) (fun v=>Au s_ f v) (fun v s=>BJ s_ f f_f f_c v s) (BK s_ f f_f f_c) ?_ h hM;clear h hM s v r;intro kD s o hM h;unfold Au at h;unfold BJ at hM;obtain⟨m0,m1,m2,m3⟩:=hM;unfold TE;by_cases e1:kD<(s_.length:Int)
 ·rw [if_pos e1]at h;obtain⟨e2,h⟩:=Bw h;obtain⟨UJ,hl3,h⟩:=BC h;try dsimp only at h
  have c3:=f_h _ _ hl3;by_cases e4:UJ=true
  ·rw [if_pos e4]at h
   obtain rfl:=Option.some.inj h
   simp (maxDischargeDepth:=9) only [↓AB,AC,Ah,↓reduceIte,Nat.reduceEqDiff,Nat.reduceLT,Nat.reduceLeDiff,Nat.reduceAdd,Nat.reduceMul,Nat.reduceMod,Nat.reduceDiv,Nat.reducePow,Nat.reduceSub,Nat.reduceBEq,Int.reduceLE,Int.reduceLT,Int.reduceEq,Int.reduceSub,Int.reduceAdd,Int.reduceToNat,Int.reduceNeg,m0,m1,m2,m3,f_l,e1,e2.1,e2.2,c3,e4,BJ,BK,DN,DR,DT]<;>(repeat' apply A7)<;>first|rfl|exact⟨_,rfl⟩|exact⟨_,_,rfl⟩|simp [A9,A8]
  ·rw [if_neg e4]at h;have e4f:UJ=false:=Gm.mpr e4
   obtain rfl:=Option.some.inj h
   simp (maxDischargeDepth:=9) only [↓AB,AC,Ah,↓reduceIte,Nat.reduceEqDiff,Nat.reduceLT,Nat.reduceLeDiff,Nat.reduceAdd,Nat.reduceMul,Nat.reduceMod,Nat.reduceDiv,Nat.reducePow,Nat.reduceSub,Nat.reduceBEq,Int.reduceLE,Int.reduceLT,Int.reduceEq,Int.reduceSub,Int.reduceAdd,Int.reduceToNat,Int.reduceNeg,m0,m1,m2,m3,f_l,e1,e2.1,e2.2,c3,e4f,BJ,BK,DN,DR,DT]<;>(repeat' apply A7)<;>first|rfl|exact⟨_,rfl⟩|exact⟨_,_,rfl⟩|simp [A9,A8]
 ·rw [if_neg e1]at h
  obtain rfl:=Option.some.inj h
  simp (maxDischargeDepth:=9) only [↓AB,AC,Ah,↓reduceIte,Nat.reduceEqDiff,Nat.reduceLT,Nat.reduceLeDiff,Nat.reduceAdd,Nat.reduceMul,Nat.reduceMod,Nat.reduceDiv,Nat.reducePow,Nat.reduceSub,Nat.reduceBEq,Int.reduceLE,Int.reduceLT,Int.reduceEq,Int.reduceSub,Int.reduceAdd,Int.reduceToNat,Int.reduceNeg,m0,m1,m2,m3,f_l,e1,BJ,BK,DN,DR,DT]<;>(repeat' apply A7)<;>first|rfl|exact⟨_,rfl⟩|exact⟨_,_,rfl⟩|simp [A9,A8]
theorem J3(s_:List Int)(f:Int→Option Bool)(f_f:FuncId)(f_c:List D)(f_h: ∀(a0:Int) (r:Bool),f a0=some r→Y.call f_f (D.int .i64 a0::f_c) []=some (D.bool r,[]))(f_l:lends f_f=false){r:Int}(h:CZ s_ f=some r):Y.call 163 [D.sl 3 (A9 (D.int .i64) s_),D.clo f_f f_c] []=some (D.int .i64 r,[]):=by
 refine A9k ?_ rfl;unfold yj;unfold CZ at h;obtain⟨AO,hl2,h⟩:=BC h;try dsimp only at h
 simp (maxDischargeDepth:=9) only [↓AB,AC,Ah,↓reduceIte,Nat.reduceEqDiff,Nat.reduceLT,Nat.reduceLeDiff,Nat.reduceAdd,Nat.reduceMul,Nat.reduceMod,Nat.reduceDiv,Nat.reducePow,Nat.reduceSub,Nat.reduceBEq,Int.reduceLE,Int.reduceLT,Int.reduceEq,Int.reduceSub,Int.reduceAdd,Int.reduceToNat,Int.reduceNeg,f_l];refine Bh (Ik s_ f f_f f_c f_h f_l hl2 ?_) ?_
 ·simp (maxDischargeDepth:=9) only [↓AB,AC,Ah,↓reduceIte,Nat.reduceEqDiff,Nat.reduceLT,Nat.reduceLeDiff,Nat.reduceAdd,Nat.reduceMul,Nat.reduceMod,Nat.reduceDiv,Nat.reducePow,Nat.reduceSub,Nat.reduceBEq,Int.reduceLE,Int.reduceLT,Int.reduceEq,Int.reduceSub,Int.reduceAdd,Int.reduceToNat,Int.reduceNeg,f_l,BJ]<;>(repeat' apply A7)<;>first|rfl|exact⟨_,rfl⟩|exact⟨_,_,rfl⟩|simp [A9,A8]
 ·intro ex2 s2 hX2;rcases AO with q1000_|q1000_
  ·unfold BK at hX2;dsimp only at hX2 h;obtain⟨rfl,n2_0⟩:=hX2
   obtain rfl:=Option.some.inj h
   simp (maxDischargeDepth:=9) only [↓AB,AC,Ah,↓reduceIte,Nat.reduceEqDiff,Nat.reduceLT,Nat.reduceLeDiff,Nat.reduceAdd,Nat.reduceMul,Nat.reduceMod,Nat.reduceDiv,Nat.reducePow,Nat.reduceSub,Nat.reduceBEq,Int.reduceLE,Int.reduceLT,Int.reduceEq,Int.reduceSub,Int.reduceAdd,Int.reduceToNat,Int.reduceNeg,f_l,n2_0]<;>(repeat' apply A7)<;>first|rfl|exact⟨_,rfl⟩|exact⟨_,_,rfl⟩|simp [A9,A8]
  ·unfold BK at hX2;dsimp only at hX2 h
   obtain rfl:=hX2
   obtain rfl:=Option.some.inj h
   simp (maxDischargeDepth:=9) only [↓AB,AC,Ah,↓reduceIte,Nat.reduceEqDiff,Nat.reduceLT,Nat.reduceLeDiff,Nat.reduceAdd,Nat.reduceMul,Nat.reduceMod,Nat.reduceDiv,Nat.reducePow,Nat.reduceSub,Nat.reduceBEq,Int.reduceLE,Int.reduceLT,Int.reduceEq,Int.reduceSub,Int.reduceAdd,Int.reduceToNat,Int.reduceNeg,f_l]<;>(repeat' apply A7)<;>first|rfl|exact⟨_,rfl⟩|exact⟨_,_,rfl⟩|simp [A9,A8]
noncomputable def CE(s_:List Int)(f:Int→Option Bool):Option (Bool):= (CZ s_ f).bind fun r7_=> some (decide (0≤r7_))
def yl:SC:= .seq (.ops [oX 4 (.assign (.const (.bool false))) 4]) (.seq (.ops [oM 5 0 26,oM 6 1 87,oC 7 163 [(tK 5),(tK 6)] [26,87] 3,oB 8 .geq 3 (tK 7) (iK 0) 3 4,oA 4 8 4]) .ret)
theorem lm:Try.f133.body.map (Ct lends)=some yl:=by kernel_rfl
theorem A5e:DL Try.f133 2=true:=by kernel_rfl
theorem A9l{a l:List D}{r:D×List D}(h:D6 Y.env yl (I6 Aa l.length [ResultVar.tmp 4] r) (entry a l))(ha:a.length=2):Y.call 133 a l=some r:=
 Ag (Y:=Y) rfl Try.func133 (ha▸A5e) lm h
theorem IR(s_:List Int)(f:Int→Option Bool)(f_f:FuncId)(f_c:List D)(f_h: ∀(a0:Int) (r:Bool),f a0=some r→Y.call f_f (D.int .i64 a0::f_c) []=some (D.bool r,[]))(f_l:lends f_f=false){r:Bool}(h:CE s_ f=some r):Y.call 133 [D.sl 3 (A9 (D.int .i64) s_),D.clo f_f f_c] []=some (D.bool r,[]):=by
 refine A9l ?_ rfl;unfold yl;unfold CE at h;obtain⟨r7_,hl1,h⟩:=BC h;try dsimp only at h
 have c1:=J3 s_ f f_f f_c f_h f_l hl1
 obtain rfl:=Option.some.inj h
 simp (maxDischargeDepth:=9) only [↓AB,AC,Ah,↓reduceIte,Nat.reduceEqDiff,Nat.reduceLT,Nat.reduceLeDiff,Nat.reduceAdd,Nat.reduceMul,Nat.reduceMod,Nat.reduceDiv,Nat.reducePow,Nat.reduceSub,Nat.reduceBEq,Int.reduceLE,Int.reduceLT,Int.reduceEq,Int.reduceSub,Int.reduceAdd,Int.reduceToNat,Int.reduceNeg,f_l,c1]<;>(repeat' apply A7)<;>first|rfl|exact⟨_,rfl⟩|exact⟨_,_,rfl⟩|simp [A9,A8]
noncomputable def IU(n_:Int)(c0_:Int)(c1_:Int):Option (Bool):= some (!(NI n_ c0_ c1_))
def ym:SC:= .seq (.ops [oX 4 (.assign (.const (.bool false))) 4]) (.seq (.ops [oM 5 0 3,oL 6 3 1 3,oL 7 3 2 3,oC 8 97 [(tK 5),(tK 6),(tK 7)] [3,3,3] 4,oX 9 (.unOp .not 4 (tK 8)) 4,oA 4 9 4]) .ret)
theorem lq:Try.f170.body.map (Ct lends)=some ym:=by kernel_rfl
theorem A5f:DL Try.f170 3=true:=by kernel_rfl
theorem A9m{a l:List D}{r:D×List D}(h:D6 Y.env ym (I6 Aa l.length [ResultVar.tmp 4] r) (entry a l))(ha:a.length=3):Y.call 170 a l=some r:=
 Ag (Y:=Y) rfl Try.func170 (ha▸A5f) lq h
theorem OL(n_:Int)(c0_:Int)(c1_:Int){r:Bool}(h:IU n_ c0_ c1_=some r):Y.call 170 [D.int .i64 n_,D.cptr [D.int .i64 c0_],D.cptr [D.int .i64 c1_]] []=some (D.bool r,[]):=by
 refine A9m ?_ rfl;unfold ym;unfold IU at h;have c1:=NJ n_ c0_ c1_
 obtain rfl:=Option.some.inj h
 simp (maxDischargeDepth:=9) only [↓AB,AC,Ah,↓reduceIte,Nat.reduceEqDiff,Nat.reduceLT,Nat.reduceLeDiff,Nat.reduceAdd,Nat.reduceMul,Nat.reduceMod,Nat.reduceDiv,Nat.reducePow,Nat.reduceSub,Nat.reduceBEq,Int.reduceLE,Int.reduceLT,Int.reduceEq,Int.reduceSub,Int.reduceAdd,Int.reduceToNat,Int.reduceNeg,c1]<;>(repeat' apply A7)<;>first|rfl|exact⟨_,rfl⟩|exact⟨_,_,rfl⟩|simp [A9,A8]
noncomputable def Kk(list:List Int)(low:Int)(high:Int):Option (Bool):= (CE list (fun a0=>IU a0 low high)).bind fun dh=> some (!dh)
def yn:SC:= .seq (.ops [oX 4 (.box 3 (tK 1)) 0,oX 5 (.box 3 (tK 2)) 0,oX 6 (.assign (.const (.bool false))) 4]) (.seq (.ops [oM 7 0 26,oX 8 (.makeFunc (Fn.func 170) #[] #[(tK 4),(tK 5)]) 87,oC 9 133 [(tK 7),(tK 8)] [26,87] 4,oX 10 (.unOp .not 4 (tK 9)) 4,oA 6 10 4]) .ret)
theorem lu:Try.f144.body.map (Ct lends)=some yn:=by kernel_rfl
theorem A5g:DL Try.f144 3=true:=by kernel_rfl
theorem A9n{a l:List D}{r:D×List D}(h:D6 Y.env yn (I6 Aa l.length [ResultVar.tmp 6] r) (entry a l))(ha:a.length=3):Y.call 144 a l=some r:=
 Ag (Y:=Y) rfl Try.func144 (ha▸A5g) lu h
theorem QH(list:List Int)(low:Int)(high:Int){r:Bool}(h:Kk list low high=some r):Y.call 144 [D.sl 3 (A9 (D.int .i64) list),D.int .i64 low,D.int .i64 high] []=some (D.bool r,[]):=by
 refine A9n ?_ rfl;unfold yn;unfold Kk at h;obtain⟨dh,hl1,h⟩:=BC h;try dsimp only at h
 have c1:=IR list (fun a0=>IU a0 low high) 170 [D.cptr [D.int .i64 low],D.cptr [D.int .i64 high]] (fun a0 _ hh=>OL a0 low high hh) iV hl1
 obtain rfl:=Option.some.inj h
 simp (maxDischargeDepth:=9) only [↓AB,AC,Ah,↓reduceIte,Nat.reduceEqDiff,Nat.reduceLT,Nat.reduceLeDiff,Nat.reduceAdd,Nat.reduceMul,Nat.reduceMod,Nat.reduceDiv,Nat.reducePow,Nat.reduceSub,Nat.reduceBEq,Int.reduceLE,Int.reduceLT,Int.reduceEq,Int.reduceSub,Int.reduceAdd,Int.reduceToNat,Int.reduceNeg,c1]<;>(repeat' apply A7)<;>first|rfl|exact⟨_,rfl⟩|exact⟨_,_,rfl⟩|simp [A9,A8]
theorem WH(l:List Int)(f:Int→Option Bool)(p:Int→Bool)(h:l.length<1099511627776)(hf: ∀x∈l,f x=some (p x)):
  ∃r,CZ l f=some r∧(0≤r↔l.any p=true):=by
 unfold CZ Cn;by_cases ha: ∀i,i<l.length→(!p (l.getD i default))=true
 ·have key:=Hy (fun v=>Au l f v) (fun i=>(i:Int)) l.length (.inr ()) ?_ ?_
  ·simp only [Jo]at key;rw [key]
   refine⟨-1,rfl,by simp,fun hc=> ?_⟩
   obtain⟨x,hx,hpx⟩:=List.any_eq_true.1 hc;obtain⟨i,hi,rfl⟩:=RV hx;have:=ha i hi
   rw [Av _ _ hi,hpx]at this;cases this
  ·intro i hi;simp only [Au];have e:=ha i hi;rw [Av _ _ hi]at e;rw [if_pos (GJ hi),CU (Fh hi),Iy _ _ hi,hf _ (Ij hi),Ee,if_neg (by cases hp:p l[i]<;>simp_all),Ny i (by omega)]
  ·simp only [Au];rw [if_neg (CY _)]
 ·obtain⟨m,h1,h2,h3⟩:=Sm (P:=fun i=> !p (l.getD i default)) ha;have key:=Hy (fun v=>Au l f v) (fun i=>(i:Int)) m (.inl (m:Int)) ?_ ?_
  ·simp only [Jo]at key;rw [key]
   refine⟨(m:Int),rfl,fun _=> ?_,fun _=>by omega⟩
   have h2':p l[m]=true:=by rw [Av _ _ h1]at h2;simpa using h2
   exact List.any_eq_true.2 ⟨_,Ij h1,h2'⟩
  ·intro i hi;simp only [Au];have e:=h3 i hi;rw [Av _ _ (by omega)]at e
   rw [if_pos (GJ (by omega)),CU (Fh (by omega)),Iy _ _ (by omega),hf _ (Ij _),Ee,if_neg (by cases hp:p l[i]<;>simp_all),Ny i (by omega)]
  ·simp only [Au];have h2':p l[m]=true:=by rw [Av _ _ h1]at h2;simpa using h2
   rw [if_pos (GJ h1),CU (Fh h1),Iy _ _ h1,hf _ (Ij _),Ee,if_pos h2']
theorem R5(l:List Int)(f:Int→Option Bool)(p:Int→Bool)(h:l.length<1099511627776)(hf: ∀x∈l,f x=some (p x)):CE l f=some (l.any p):=by
 obtain⟨r,h1,h2⟩:=WH l f p h hf;unfold CE;rw [h1,Ee]
 congr 1
 rw [Bool.eq_iff_iff];simpa using h2
theorem TF(l:List Int)(lo hi:Int)(h:l.length<1099511627776):Kk l lo hi=some (J2 l lo hi):=by
 unfold Kk;rw [R5 l (fun a0=>IU a0 lo hi) (fun x=> !NI x lo hi) h (fun x _=>rfl),Ee];unfold J2;rw [List.all_eq_not_any_not]
theorem TG(list:List Int)(low:Int)(high:Int)(h0:list.length<1099511627776):Y.call 144 [D.sl 3 (A9 (D.int .i64) list),D.int .i64 low,D.int .i64 high] []=some (D.bool (J2 list low high),[]):=QH list low high (TF list low high h0)
noncomputable def Dj(x_:Int):Option (Bool):= some false
def yo:SC:= .seq (.ops [oX 2 (.assign (.const (.bool false))) 4]) (.seq (.ops [oM 3 0 3,oM 4 0 3,oB 5 .neq 3 (tK 3) (tK 4) 3 4,oA 2 5 4]) .ret)
theorem lw:Try.f179.body.map (Ct lends)=some yo:=by kernel_rfl
theorem A5h:DL Try.f179 1=true:=by kernel_rfl
theorem A9o{a l:List D}{r:D×List D}(h:D6 Y.env yo (I6 Aa l.length [ResultVar.tmp 2] r) (entry a l))(ha:a.length=1):Y.call 179 a l=some r:=
 Ag (Y:=Y) rfl Try.func179 (ha▸A5h) lw h
theorem FJ(x_:Int){r:Bool}(h:Dj x_=some r):Y.call 179 [D.int .i64 x_] []=some (D.bool r,[]):=by
 refine A9o ?_ rfl;unfold yo;unfold Dj at h
 obtain rfl:=Option.some.inj h
 simp (maxDischargeDepth:=9) only [↓AB,AC,Ah,↓reduceIte,Nat.reduceEqDiff,Nat.reduceLT,Nat.reduceLeDiff,Nat.reduceAdd,Nat.reduceMul,Nat.reduceMod,Nat.reduceDiv,Nat.reducePow,Nat.reduceSub,Nat.reduceBEq,Int.reduceLE,Int.reduceLT,Int.reduceEq,Int.reduceSub,Int.reduceAdd,Int.reduceToNat,Int.reduceNeg]<;>(repeat' apply A7)<;>first|rfl|exact⟨_,rfl⟩|exact⟨_,_,rfl⟩|simp [A9,A8]
noncomputable def Ha(x_:Int)(y:Int):Option (Bool):= (Dj x_).bind fun r6_=> if r6_=true then (Dj y).bind fun dh=> if dh=true then some (decide (x_<y)) else some true else some (decide (x_<y))
def yt:SC:= .seq (.ops [oX 4 (.assign (.const (.bool false))) 4]) (.seq (.ops [oM 5 0 3,oC 6 179 [(tK 5)] [3] 4,oM 7 6 4,⟨(some 8),(.move (tK 1)),3,(some (some 7,true))⟩,⟨(some 9),(.call ⟨(.value (.func 179)), #[(tK 8)], #[3]⟩),4,(some (some 7,true))⟩,⟨(some 10),(.unOp .not 4 (tK 9)),4,(some (some 7,true))⟩,oX 11 (.pick (tK 7) (tK 10) (.const (.bool false))) 4,oM 12 11 4,⟨(some 13),(.move (tK 0)),3,(some (some 12,false))⟩,⟨(some 14),(.move (tK 1)),3,(some (some 12,false))⟩,⟨(some 15),(.binOp .lss 3 (tK 13) (tK 14) 3),4,(some (some 12,false))⟩,oX 16 (.pick (tK 12) (.const (.bool true)) (tK 15)) 4,oA 4 16 4]) .ret)
theorem mD:Try.f169.body.map (Ct lends)=some yt:=by kernel_rfl
theorem A5i:DL Try.f169 2=true:=by kernel_rfl
theorem A9p{a l:List D}{r:D×List D}(h:D6 Y.env yt (I6 Aa l.length [ResultVar.tmp 4] r) (entry a l))(ha:a.length=2):Y.call 169 a l=some r:=
 Ag (Y:=Y) rfl Try.func169 (ha▸A5i) mD h
theorem Nz(x_:Int)(y:Int){r:Bool}(h:Ha x_ y=some r):Y.call 169 [D.int .i64 x_,D.int .i64 y] []=some (D.bool r,[]):=by
 refine A9p ?_ rfl;unfold yt;unfold Ha at h;obtain⟨r6_,hl1,h⟩:=BC h;try dsimp only at h
 have c1:=FJ x_ hl1;by_cases e2:r6_=true
 ·rw [if_pos e2]at h;obtain⟨dh,hl3,h⟩:=BC h;try dsimp only at h
  have c3:=FJ y hl3;by_cases e4:dh=true
  ·rw [if_pos e4]at h
   obtain rfl:=Option.some.inj h
   simp (maxDischargeDepth:=9) only [↓AB,AC,Ah,↓reduceIte,Nat.reduceEqDiff,Nat.reduceLT,Nat.reduceLeDiff,Nat.reduceAdd,Nat.reduceMul,Nat.reduceMod,Nat.reduceDiv,Nat.reducePow,Nat.reduceSub,Nat.reduceBEq,Int.reduceLE,Int.reduceLT,Int.reduceEq,Int.reduceSub,Int.reduceAdd,Int.reduceToNat,Int.reduceNeg,c1,e2,c3,e4]<;>(repeat' apply A7)<;>first|rfl|exact⟨_,rfl⟩|exact⟨_,_,rfl⟩|simp [A9,A8]
  ·rw [if_neg e4]at h;have e4f:dh=false:=Gm.mpr e4
   obtain rfl:=Option.some.inj h
   simp (maxDischargeDepth:=9) only [↓AB,AC,Ah,↓reduceIte,Nat.reduceEqDiff,Nat.reduceLT,Nat.reduceLeDiff,Nat.reduceAdd,Nat.reduceMul,Nat.reduceMod,Nat.reduceDiv,Nat.reducePow,Nat.reduceSub,Nat.reduceBEq,Int.reduceLE,Int.reduceLT,Int.reduceEq,Int.reduceSub,Int.reduceAdd,Int.reduceToNat,Int.reduceNeg,c1,e2,c3,e4f]<;>(repeat' apply A7)<;>first|rfl|exact⟨_,rfl⟩|exact⟨_,_,rfl⟩|simp [A9,A8]
 ·rw [if_neg e2]at h;have e2f:r6_=false:=Gm.mpr e2
  obtain rfl:=Option.some.inj h
  simp (maxDischargeDepth:=9) only [↓AB,AC,Ah,↓reduceIte,Nat.reduceEqDiff,Nat.reduceLT,Nat.reduceLeDiff,Nat.reduceAdd,Nat.reduceMul,Nat.reduceMod,Nat.reduceDiv,Nat.reducePow,Nat.reduceSub,Nat.reduceBEq,Int.reduceLE,Int.reduceLT,Int.reduceEq,Int.reduceSub,Int.reduceAdd,Int.reduceToNat,Int.reduceNeg,c1,e2f]<;>(repeat' apply A7)<;>first|rfl|exact⟨_,rfl⟩|exact⟨_,_,rfl⟩|simp [A9,A8]
noncomputable def BR(x_:List Int)(i:Int):Option ((Int)⊕(Unit⊕Unit)):= if 0<i then ck (0≤i∧i.toNat<x_.length)<| ck (0≤IntKind.i64.wrap (i-1)∧(IntKind.i64.wrap (i-1)).toNat<x_.length)<| (Ha (x_.getD i.toNat default) (x_.getD ((IntKind.i64.wrap (i-1)).toNat) default)).bind fun mE=> if mE=true then some (Sum.inr (Sum.inl ())) else some (Sum.inl (IntKind.i64.wrap (i-1))) else some (Sum.inr (Sum.inr ()))
noncomputable def Cw(x_:List Int)(v:Int):Option (Unit⊕Unit):=Iw (fun v=>BR x_ v) v
noncomputable def DV(x_:List Int):Option (Bool):=
 (Cw x_ (IntKind.i64.wrap ((x_.length:Int)-1))).bind fun AO=>
 match AO with
 | .inl q1000_=>
  some false
 | .inr q1000_=>
  some true
def TH:SC:= .seq (.seq (.ops [oM 7 3 3,oB 8 .gtr 3 (tK 7) (iK 0) 3 4]) (.cond (tK 8) .skip (.exit 0))) (.seq (.block 1 (.seq (.draws [(⟨[11,0,0],[11,12,13,14,15,16,17,18,19,20],[11]⟩,oM 11 0 26),(⟨[12,3,3],[11,12,13,14,15,16,17,18,19,20],[12]⟩,oM 12 3 3),(⟨[13,11,12,0,3],[11,12,13,14,15,16,17,18,19,20],[13]⟩,oI 13 26 11 12),(⟨[14,13,0],[11,12,13,14,15,16,17,18,19,20],[14]⟩,oL 14 3 13 3),(⟨[15,0,0],[11,12,13,14,15,16,17,18,19,20],[15]⟩,oM 15 0 26),(⟨[16,3,3],[11,12,13,14,15,16,17,18,19,20],[16]⟩,oM 16 3 3),(⟨[17,16,3],[11,12,13,14,15,16,17,18,19,20],[17]⟩,oB 17 .sub 3 (tK 16) (iK 1) 3 3),(⟨[18,15,17,0,17],[11,12,13,14,15,16,17,18,19,20],[18]⟩,oI 18 26 15 17),(⟨[19,18,0],[11,12,13,14,15,16,17,18,19,20],[19]⟩,oL 19 3 18 3),(⟨[20,14,19,0,0],[11,12,13,14,15,16,17,18,19,20],[20]⟩,oC 20 169 [(tK 14),(tK 19)] [3,3] 4)]) (.cond (tK 20) (.seq (.ops [oX 2 (.assign (.const (.bool false))) 4]) .ret) .skip))) (.ops [oM 9 3 3,oB 10 .sub 3 (tK 9) (iK 1) 3 3,oA 3 10 3]))
def aU:SC:= .loop TH
def yu:SC:= .seq (.ops [oX 2 (.assign (.const (.bool false))) 4]) (.seq (.seq (.ops [oM 4 0 26,oN 5 4 26,oB 6 .sub 3 (tK 5) (iK 1) 3 3,oA 3 6 3]) (.block 0 aU)) (.seq (.ops [oX 2 (.assign (.const (.bool true))) 4]) .ret))
theorem mF:Try.f143.body.map (Ct lends)=some yu:=by kernel_rfl
theorem A5j:DL Try.f143 1=true:=by kernel_rfl
theorem A9q{a l:List D}{r:D×List D}(h:D6 Y.env yu (I6 Aa l.length [ResultVar.tmp 2] r) (entry a l))(ha:a.length=1):Y.call 143 a l=some r:=
 Ag (Y:=Y) rfl Try.func143 (ha▸A5j) mF h
def BS(x_:List Int)(i:Int)(s:St):Prop:=s.v 0=D.sl 3 (A9 (D.int .i64) x_)∧s.v 3=D.int .i64 i
def BU(x_:List Int)(r:Unit⊕Unit)(ex:Ex)(s:St):Prop:=match r with
 | .inl q=>ex= .ret∧s.v 2=D.bool false
 | .inr q=>ex= .exit 0
theorem J4(x_:List Int){v:Int}{s:St}{r:Unit⊕Unit}(h:Cw x_ v=some r)(hM:BS x_ v s):D6 Y.env aU (BU x_ r) s:=by
 unfold Cw at h;refine CX (c:=TH) (fun v=>BR x_ v) (fun v s=>BS x_ v s) (BU x_) ?_ h hM;clear h hM s v r;intro i s o hM h;unfold BR at h;unfold BS at hM;obtain⟨m0,m1⟩:=hM;unfold TH;by_cases e1:0<i
 ·rw [if_pos e1]at h;obtain⟨e2,h⟩:=Bw h;obtain⟨e3,h⟩:=Bw h;obtain⟨mE,hl4,h⟩:=BC h;try dsimp only at h
  have c4:=Nz (x_.getD i.toNat default) (x_.getD ((IntKind.i64.wrap (i-1)).toNat) default) hl4;by_cases e5:mE=true
  ·rw [if_pos e5]at h
   obtain rfl:=Option.some.inj h
   simp (maxDischargeDepth:=9) only [↓AB,AC,Ah,↓reduceIte,Nat.reduceEqDiff,Nat.reduceLT,Nat.reduceLeDiff,Nat.reduceAdd,Nat.reduceMul,Nat.reduceMod,Nat.reduceDiv,Nat.reducePow,Nat.reduceSub,Nat.reduceBEq,Int.reduceLE,Int.reduceLT,Int.reduceEq,Int.reduceSub,Int.reduceAdd,Int.reduceToNat,Int.reduceNeg,m0,m1,e1,e2.1,e2.2,e3.1,e3.2,c4,e5,BS,BU,DN,DR,DT]<;>(repeat' apply A7)<;>first|rfl|exact⟨_,rfl⟩|exact⟨_,_,rfl⟩|simp [A9,A8]
  ·rw [if_neg e5]at h;have e5f:mE=false:=Gm.mpr e5
   obtain rfl:=Option.some.inj h
   simp (maxDischargeDepth:=9) only [↓AB,AC,Ah,↓reduceIte,Nat.reduceEqDiff,Nat.reduceLT,Nat.reduceLeDiff,Nat.reduceAdd,Nat.reduceMul,Nat.reduceMod,Nat.reduceDiv,Nat.reducePow,Nat.reduceSub,Nat.reduceBEq,Int.reduceLE,Int.reduceLT,Int.reduceEq,Int.reduceSub,Int.reduceAdd,Int.reduceToNat,Int.reduceNeg,m0,m1,e1,e2.1,e2.2,e3.1,e3.2,c4,e5f,BS,BU,DN,DR,DT]<;>(repeat' apply A7)<;>first|rfl|exact⟨_,rfl⟩|exact⟨_,_,rfl⟩|simp [A9,A8]
 ·rw [if_neg e1]at h
  obtain rfl:=Option.some.inj h
  simp (maxDischargeDepth:=9) only [↓AB,AC,Ah,↓reduceIte,Nat.reduceEqDiff,Nat.reduceLT,Nat.reduceLeDiff,Nat.reduceAdd,Nat.reduceMul,Nat.reduceMod,Nat.reduceDiv,Nat.reducePow,Nat.reduceSub,Nat.reduceBEq,Int.reduceLE,Int.reduceLT,Int.reduceEq,Int.reduceSub,Int.reduceAdd,Int.reduceToNat,Int.reduceNeg,m0,m1,e1,BS,BU,DN,DR,DT]<;>(repeat' apply A7)<;>first|rfl|exact⟨_,rfl⟩|exact⟨_,_,rfl⟩|simp [A9,A8]
theorem J9(x_:List Int){r:Bool}(h:DV x_=some r):Y.call 143 [D.sl 3 (A9 (D.int .i64) x_)] []=some (D.bool r,[]):=by
 refine A9q ?_ rfl;unfold yu;unfold DV at h;obtain⟨AO,hl2,h⟩:=BC h;try dsimp only at h
 simp (maxDischargeDepth:=9) only [↓AB,AC,Ah,↓reduceIte,Nat.reduceEqDiff,Nat.reduceLT,Nat.reduceLeDiff,Nat.reduceAdd,Nat.reduceMul,Nat.reduceMod,Nat.reduceDiv,Nat.reducePow,Nat.reduceSub,Nat.reduceBEq,Int.reduceLE,Int.reduceLT,Int.reduceEq,Int.reduceSub,Int.reduceAdd,Int.reduceToNat,Int.reduceNeg];refine Bh (J4 x_ hl2 ?_) ?_
 ·simp (maxDischargeDepth:=9) only [↓AB,AC,Ah,↓reduceIte,Nat.reduceEqDiff,Nat.reduceLT,Nat.reduceLeDiff,Nat.reduceAdd,Nat.reduceMul,Nat.reduceMod,Nat.reduceDiv,Nat.reducePow,Nat.reduceSub,Nat.reduceBEq,Int.reduceLE,Int.reduceLT,Int.reduceEq,Int.reduceSub,Int.reduceAdd,Int.reduceToNat,Int.reduceNeg,BS]<;>(repeat' apply A7)<;>first|rfl|exact⟨_,rfl⟩|exact⟨_,_,rfl⟩|simp [A9,A8]
 ·intro ex2 s2 hX2;rcases AO with q1000_|q1000_
  ·unfold BU at hX2;dsimp only at hX2 h;obtain⟨rfl,n2_0⟩:=hX2
   obtain rfl:=Option.some.inj h
   simp (maxDischargeDepth:=9) only [↓AB,AC,Ah,↓reduceIte,Nat.reduceEqDiff,Nat.reduceLT,Nat.reduceLeDiff,Nat.reduceAdd,Nat.reduceMul,Nat.reduceMod,Nat.reduceDiv,Nat.reducePow,Nat.reduceSub,Nat.reduceBEq,Int.reduceLE,Int.reduceLT,Int.reduceEq,Int.reduceSub,Int.reduceAdd,Int.reduceToNat,Int.reduceNeg,n2_0]<;>(repeat' apply A7)<;>first|rfl|exact⟨_,rfl⟩|exact⟨_,_,rfl⟩|simp [A9,A8]
  ·unfold BU at hX2;dsimp only at hX2 h
   obtain rfl:=hX2
   obtain rfl:=Option.some.inj h
   simp (maxDischargeDepth:=9) only [↓AB,AC,Ah,↓reduceIte,Nat.reduceEqDiff,Nat.reduceLT,Nat.reduceLeDiff,Nat.reduceAdd,Nat.reduceMul,Nat.reduceMod,Nat.reduceDiv,Nat.reducePow,Nat.reduceSub,Nat.reduceBEq,Int.reduceLE,Int.reduceLT,Int.reduceEq,Int.reduceSub,Int.reduceAdd,Int.reduceToNat,Int.reduceNeg]<;>(repeat' apply A7)<;>first|rfl|exact⟨_,rfl⟩|exact⟨_,_,rfl⟩|simp [A9,A8]
def Eu(l:List Int):Bool:=(List.range (l.length-1)).all fun i=>decide (l.getD i default≤l.getD (i+1) default)
theorem JZ(l:List Int)(h:l.length<1099511627776):DV l=some (Eu l):=by
 unfold DV Cw;rw [IK _ (by omega)]
 rcases Nat.eq_zero_or_pos l.length with h0|h0
 ·rw [Dy (r:=Sum.inr ())]
  ·simp [Eu,h0]
  ·simp only [BR];rw [if_neg (by omega)]
 ·have key:=JO (fun v=>BR l v) (fun j=>(l.length:Int)-1-j) (l.length-1) (fun j=>decide (l.getD (l.length-1-j-1) default≤l.getD (l.length-1-j) default)) (.inl ()) (.inr ()) ?_ ?_
  ·simp only [Jo,Int.sub_zero]at key;rw [key]
   have e:(List.range (l.length-1)).all (fun j=>decide (l.getD (l.length-1-j-1) default≤l.getD (l.length-1-j) default))=Eu l:=by
    unfold Eu;rw [Bool.eq_iff_iff,F5,F5]
    constructor
    ·intro hh i hi;have:=hh (l.length-1-i-1) (by omega)
     rwa [show l.length-1-(l.length-1-i-1)=i+1 by omega,Nat.add_sub_cancel]at this
    ·intro hh i hi;have:=hh (l.length-1-i-1) (by omega)
     rwa [show l.length-1-i-1+1=l.length-1-i by omega]at this
   rw [e]
   cases Eu l<;>rfl
  ·intro i hi;simp only [BR];rw [if_pos (by omega),IK _ (by omega)]
   rw [CU (by omega),CU (by omega),show((l.length:Int)-1-i).toNat=l.length-1-i by omega,show((l.length:Int)-1-i-1).toNat=l.length-1-i-1 by omega]
   have e:Ha (l.getD (l.length-1-i) default) (l.getD (l.length-1-i-1) default)=some (decide (l.getD (l.length-1-i) default<l.getD (l.length-1-i-1) default)):=by
    unfold Ha Dj;by_cases hq:l.getD (l.length-1-i) default<l.getD (l.length-1-i-1) default<;>simp [hq]
   rw [e,Ee];simp only [decide_eq_true_eq];by_cases hq:l.getD (l.length-1-i) default<l.getD (l.length-1-i-1) default
   ·rw [if_pos hq,if_neg (by omega)]
   ·rw [if_neg hq,if_pos (by omega),show(l.length:Int)-1-i-1=(l.length:Int)-1-((i+1:Nat):Int) by omega]
  ·simp only [BR];rw [if_neg (by omega)]
theorem Ja(x_:List Int)(h0:x_.length<1099511627776):Y.call 143 [D.sl 3 (A9 (D.int .i64) x_)] []=some (D.bool (Eu x_),[]):=J9 x_ (JZ x_ h0)
def FZ:List Int→List Int→Int
 | [],[]=>0
 | [],_::_=> -1
 |_::_,[]=>1
 |x::a,y::b=>if x=y then FZ a b else if x<y then-1 else 1
noncomputable def FK(x_:Int)(y:Int):Option (Int):= (Dj x_).bind fun Lg=> (Dj y).bind fun QI=> if Lg=true then if QI=true then some 0 else some (-1) else if QI=true then some 1 else if x_<y then some (-1) else if y<x_ then some 1 else some 0
def yw:SC:= .seq (.ops [oX 4 (.assign (iK 0)) 3]) (.seq (.ops [oM 7 0 3,oC 8 179 [(tK 7)] [3] 4,oA 5 8 4]) (.seq (.ops [oM 9 1 3,oC 10 179 [(tK 9)] [3] 4,oA 6 10 4]) (.seq (.seq (.ops [oM 11 5 4]) (.cond (tK 11) (.seq (.seq (.ops [oM 12 6 4]) (.cond (tK 12) (.seq (.ops [oX 4 (.assign (iK 0)) 3]) .ret) .skip)) (.seq (.ops [oX 4 (.assign (.const (.int .i64 (-1)))) 3]) .ret)) .skip)) (.seq (.seq (.ops [oM 13 6 4]) (.cond (tK 13) (.seq (.ops [oX 4 (.assign (iK 1)) 3]) .ret) .skip)) (.seq (.seq (.ops [oM 14 0 3,oM 15 1 3,oB 16 .lss 3 (tK 14) (tK 15) 3 4]) (.cond (tK 16) (.seq (.ops [oX 4 (.assign (.const (.int .i64 (-1)))) 3]) .ret) .skip)) (.seq (.seq (.ops [oM 17 0 3,oM 18 1 3,oB 19 .gtr 3 (tK 17) (tK 18) 3 4]) (.cond (tK 19) (.seq (.ops [oX 4 (.assign (iK 1)) 3]) .ret) .skip)) (.seq (.ops [oX 4 (.assign (iK 0)) 3]) .ret)))))))
theorem mG:Try.f171.body.map (Ct lends)=some yw:=by kernel_rfl
theorem A5k:DL Try.f171 2=true:=by kernel_rfl
theorem A9r{a l:List D}{r:D×List D}(h:D6 Y.env yw (I6 Aa l.length [ResultVar.tmp 4] r) (entry a l))(ha:a.length=2):Y.call 171 a l=some r:=
 Ag (Y:=Y) rfl Try.func171 (ha▸A5k) mG h
theorem M6(x_:Int)(y:Int){r:Int}(h:FK x_ y=some r):Y.call 171 [D.int .i64 x_,D.int .i64 y] []=some (D.int .i64 r,[]):=by
 refine A9r ?_ rfl;unfold yw;unfold FK at h;obtain⟨Lg,hl1,h⟩:=BC h;try dsimp only at h
 have c1:=FJ x_ hl1;obtain⟨QI,hl2,h⟩:=BC h;try dsimp only at h
 have c2:=FJ y hl2;by_cases e3:Lg=true
 ·rw [if_pos e3]at h;by_cases e4:QI=true
  ·rw [if_pos e4]at h
   obtain rfl:=Option.some.inj h
   simp (maxDischargeDepth:=9) only [↓AB,AC,Ah,↓reduceIte,Nat.reduceEqDiff,Nat.reduceLT,Nat.reduceLeDiff,Nat.reduceAdd,Nat.reduceMul,Nat.reduceMod,Nat.reduceDiv,Nat.reducePow,Nat.reduceSub,Nat.reduceBEq,Int.reduceLE,Int.reduceLT,Int.reduceEq,Int.reduceSub,Int.reduceAdd,Int.reduceToNat,Int.reduceNeg,c1,c2,e3,e4]<;>(repeat' apply A7)<;>first|rfl|exact⟨_,rfl⟩|exact⟨_,_,rfl⟩|simp [A9,A8]
  ·rw [if_neg e4]at h;have e4f:QI=false:=Gm.mpr e4
   obtain rfl:=Option.some.inj h
   simp (maxDischargeDepth:=9) only [↓AB,AC,Ah,↓reduceIte,Nat.reduceEqDiff,Nat.reduceLT,Nat.reduceLeDiff,Nat.reduceAdd,Nat.reduceMul,Nat.reduceMod,Nat.reduceDiv,Nat.reducePow,Nat.reduceSub,Nat.reduceBEq,Int.reduceLE,Int.reduceLT,Int.reduceEq,Int.reduceSub,Int.reduceAdd,Int.reduceToNat,Int.reduceNeg,c1,c2,e3,e4f]<;>(repeat' apply A7)<;>first|rfl|exact⟨_,rfl⟩|exact⟨_,_,rfl⟩|simp [A9,A8]
 ·rw [if_neg e3]at h;have e3f:Lg=false:=Gm.mpr e3;by_cases e4:QI=true
  ·rw [if_pos e4]at h
   obtain rfl:=Option.some.inj h
   simp (maxDischargeDepth:=9) only [↓AB,AC,Ah,↓reduceIte,Nat.reduceEqDiff,Nat.reduceLT,Nat.reduceLeDiff,Nat.reduceAdd,Nat.reduceMul,Nat.reduceMod,Nat.reduceDiv,Nat.reducePow,Nat.reduceSub,Nat.reduceBEq,Int.reduceLE,Int.reduceLT,Int.reduceEq,Int.reduceSub,Int.reduceAdd,Int.reduceToNat,Int.reduceNeg,c1,c2,e3f,e4]<;>(repeat' apply A7)<;>first|rfl|exact⟨_,rfl⟩|exact⟨_,_,rfl⟩|simp [A9,A8]
  ·rw [if_neg e4]at h;have e4f:QI=false:=Gm.mpr e4;by_cases e5:x_<y
   ·rw [if_pos e5]at h
    obtain rfl:=Option.some.inj h
    simp (maxDischargeDepth:=9) only [↓AB,AC,Ah,↓reduceIte,Nat.reduceEqDiff,Nat.reduceLT,Nat.reduceLeDiff,Nat.reduceAdd,Nat.reduceMul,Nat.reduceMod,Nat.reduceDiv,Nat.reducePow,Nat.reduceSub,Nat.reduceBEq,Int.reduceLE,Int.reduceLT,Int.reduceEq,Int.reduceSub,Int.reduceAdd,Int.reduceToNat,Int.reduceNeg,c1,c2,e3f,e4f,e5]<;>(repeat' apply A7)<;>first|rfl|exact⟨_,rfl⟩|exact⟨_,_,rfl⟩|simp [A9,A8]
   ·rw [if_neg e5]at h;by_cases e6:y<x_
    ·rw [if_pos e6]at h
     obtain rfl:=Option.some.inj h
     simp (maxDischargeDepth:=9) only [↓AB,AC,Ah,↓reduceIte,Nat.reduceEqDiff,Nat.reduceLT,Nat.reduceLeDiff,Nat.reduceAdd,Nat.reduceMul,Nat.reduceMod,Nat.reduceDiv,Nat.reducePow,Nat.reduceSub,Nat.reduceBEq,Int.reduceLE,Int.reduceLT,Int.reduceEq,Int.reduceSub,Int.reduceAdd,Int.reduceToNat,Int.reduceNeg,c1,c2,e3f,e4f,e5,e6]<;>(repeat' apply A7)<;>first|rfl|exact⟨_,rfl⟩|exact⟨_,_,rfl⟩|simp [A9,A8]
    ·rw [if_neg e6]at h
     obtain rfl:=Option.some.inj h
     simp (maxDischargeDepth:=9) only [↓AB,AC,Ah,↓reduceIte,Nat.reduceEqDiff,Nat.reduceLT,Nat.reduceLeDiff,Nat.reduceAdd,Nat.reduceMul,Nat.reduceMod,Nat.reduceDiv,Nat.reducePow,Nat.reduceSub,Nat.reduceBEq,Int.reduceLE,Int.reduceLT,Int.reduceEq,Int.reduceSub,Int.reduceAdd,Int.reduceToNat,Int.reduceNeg,c1,c2,e3f,e4f,e5,e6]<;>(repeat' apply A7)<;>first|rfl|exact⟨_,rfl⟩|exact⟨_,_,rfl⟩|simp [A9,A8]
noncomputable def BX(s1_:List Int)(s2_:List Int)(Bz:Int):Option ((Int)⊕(Int⊕Unit)):= if Bz<(s1_.length:Int)then ck (0≤Bz∧Bz.toNat<s1_.length)<| if(s2_.length:Int)≤Bz then some (Sum.inr (Sum.inl 1)) else ck (0≤Bz∧Bz.toNat<s2_.length)<| (FK (s1_.getD Bz.toNat default) (s2_.getD Bz.toNat default)).bind fun Zo=> if Zo=0 then some (Sum.inl (IntKind.i64.wrap (Bz+1))) else some (Sum.inr (Sum.inl Zo)) else some (Sum.inr (Sum.inr ()))
noncomputable def BN(s1_:List Int)(s2_:List Int)(v:Int):Option (Int⊕Unit):=Iw (fun v=>BX s1_ s2_ v) v
noncomputable def Bl(s1_:List Int)(s2_:List Int):Option (Int):=
 (BN s1_ s2_ 0).bind fun AO=>
 match AO with
 | .inl q1000_=>
  some q1000_
 | .inr q1000_=>
  if(s1_.length:Int)<(s2_.length:Int)then
   some (-1)
  else
   some 0
def TI:SC:= .seq (.ops [oB 12 .lss 3 (tK 11) (tK 10) 3 0]) (.seq (.cond (tK 12) .skip (.exit 0)) (.seq (.block 1 (.seq (.ops [oM 13 11 3,oI 14 26 9 11,oL 15 3 14 3,oA 5 13 3,oA 6 15 3]) (.seq (.seq (.ops [oM 16 5 3,oM 17 1 26,oN 18 17 26,oB 19 .geq 3 (tK 16) (tK 18) 3 4]) (.cond (tK 19) (.seq (.ops [oX 4 (.assign (iK 1)) 3]) .ret) .skip)) (.seq (.ops [oM 20 1 26,oM 21 5 3,oI 22 26 20 21,oL 23 3 22 3,oA 7 23 3]) (.seq (.ops [oM 24 6 3,oM 25 7 3,oC 26 171 [(tK 24),(tK 25)] [3,3] 3,oA 8 26 3]) (.seq (.ops [oM 27 8 3,oB 28 .neq 3 (tK 27) (iK 0) 3 4]) (.cond (tK 28) (.seq (.ops [oM 29 8 3,oA 4 29 3]) .ret) .skip))))))) (.ops [oB 30 .add 3 (tK 11) (iK 1) 3 3,oM 11 30 3])))
def aV:SC:= .loop TI
def yx:SC:= .seq (.ops [oX 4 (.assign (iK 0)) 3]) (.seq (.seq (.ops [oM 9 0 26,oN 10 9 26,oX 11 (.move (iK 0)) 3]) (.block 0 aV)) (.seq (.seq (.ops [oM 31 0 26,oN 32 31 26,oM 33 1 26,oN 34 33 26,oB 35 .lss 3 (tK 32) (tK 34) 3 4]) (.cond (tK 35) (.seq (.ops [oX 4 (.assign (.const (.int .i64 (-1)))) 3]) .ret) .skip)) (.seq (.ops [oX 4 (.assign (iK 0)) 3]) .ret)))
theorem mH:Try.f145.body.map (Ct lends)=some yx:=by kernel_rfl
theorem A5l:DL Try.f145 2=true:=by kernel_rfl
theorem A9s{a l:List D}{r:D×List D}(h:D6 Y.env yx (I6 Aa l.length [ResultVar.tmp 4] r) (entry a l))(ha:a.length=2):Y.call 145 a l=some r:=
 Ag (Y:=Y) rfl Try.func145 (ha▸A5l) mH h
def BD(s1_:List Int)(s2_:List Int)(Bz:Int)(s:St):Prop:=s.v 0=D.sl 3 (A9 (D.int .i64) s1_)∧s.v 1=D.sl 3 (A9 (D.int .i64) s2_)∧s.v 9=D.sl 3 (A9 (D.int .i64) s1_)∧s.v 10=D.int .i64 (s1_.length:Int)∧s.v 11=D.int .i64 Bz
def BF(s1_:List Int)(s2_:List Int)(r:Int⊕Unit)(ex:Ex)(s:St):Prop:=match r with
 | .inl q=>ex= .ret∧s.v 4=D.int .i64 q
 | .inr q=>ex= .exit 0∧s.v 0=D.sl 3 (A9 (D.int .i64) s1_)∧s.v 1=D.sl 3 (A9 (D.int .i64) s2_)
theorem JA(s1_:List Int)(s2_:List Int){v:Int}{s:St}{r:Int⊕Unit}(h:BN s1_ s2_ v=some r)(hM:BD s1_ s2_ v s):D6 Y.env aV (BF s1_ s2_ r) s:=by
 unfold BN at h;refine CX (c:=TI) (fun v=>BX s1_ s2_ v) (fun v s=>BD s1_ s2_ v s) (BF s1_ s2_) ?_ h hM;clear h hM s v r;intro Bz s o hM h;unfold BX at h;unfold BD at hM;obtain⟨m0,m1,m2,m3,m4⟩:=hM;unfold TI;by_cases e1:Bz<(s1_.length:Int)
 ·rw [if_pos e1]at h;obtain⟨e2,h⟩:=Bw h;by_cases e3:(s2_.length:Int)≤Bz
  ·rw [if_pos e3]at h
   obtain rfl:=Option.some.inj h
   simp (maxDischargeDepth:=9) only [↓AB,AC,Ah,↓reduceIte,Nat.reduceEqDiff,Nat.reduceLT,Nat.reduceLeDiff,Nat.reduceAdd,Nat.reduceMul,Nat.reduceMod,Nat.reduceDiv,Nat.reducePow,Nat.reduceSub,Nat.reduceBEq,Int.reduceLE,Int.reduceLT,Int.reduceEq,Int.reduceSub,Int.reduceAdd,Int.reduceToNat,Int.reduceNeg,m0,m1,m2,m3,m4,e1,e2.1,e2.2,e3,BD,BF,DN,DR,DT]<;>(repeat' apply A7)<;>first|rfl|exact⟨_,rfl⟩|exact⟨_,_,rfl⟩|simp [A9,A8]
  ·rw [if_neg e3]at h;obtain⟨e4,h⟩:=Bw h;obtain⟨Zo,hl5,h⟩:=BC h;try dsimp only at h
   have c5:=M6 (s1_.getD Bz.toNat default) (s2_.getD Bz.toNat default) hl5;by_cases e6:Zo=0
   ·rw [if_pos e6]at h
    obtain rfl:=Option.some.inj h
    simp (maxDischargeDepth:=9) only [↓AB,AC,Ah,↓reduceIte,Nat.reduceEqDiff,Nat.reduceLT,Nat.reduceLeDiff,Nat.reduceAdd,Nat.reduceMul,Nat.reduceMod,Nat.reduceDiv,Nat.reducePow,Nat.reduceSub,Nat.reduceBEq,Int.reduceLE,Int.reduceLT,Int.reduceEq,Int.reduceSub,Int.reduceAdd,Int.reduceToNat,Int.reduceNeg,m0,m1,m2,m3,m4,e1,e2.1,e2.2,e3,e4.1,e4.2,c5,decide_eq_true e6,BD,BF,DN,DR,DT]<;>(repeat' apply A7)<;>first|rfl|exact⟨_,rfl⟩|exact⟨_,_,rfl⟩|simp [A9,A8]
   ·rw [if_neg e6]at h
    obtain rfl:=Option.some.inj h
    simp (maxDischargeDepth:=9) only [↓AB,AC,Ah,↓reduceIte,Nat.reduceEqDiff,Nat.reduceLT,Nat.reduceLeDiff,Nat.reduceAdd,Nat.reduceMul,Nat.reduceMod,Nat.reduceDiv,Nat.reducePow,Nat.reduceSub,Nat.reduceBEq,Int.reduceLE,Int.reduceLT,Int.reduceEq,Int.reduceSub,Int.reduceAdd,Int.reduceToNat,Int.reduceNeg,m0,m1,m2,m3,m4,e1,e2.1,e2.2,e3,e4.1,e4.2,c5,e6,BD,BF,DN,DR,DT]<;>(repeat' apply A7)<;>first|rfl|exact⟨_,rfl⟩|exact⟨_,_,rfl⟩|simp [A9,A8]
 ·rw [if_neg e1]at h
  obtain rfl:=Option.some.inj h
  simp (maxDischargeDepth:=9) only [↓AB,AC,Ah,↓reduceIte,Nat.reduceEqDiff,Nat.reduceLT,Nat.reduceLeDiff,Nat.reduceAdd,Nat.reduceMul,Nat.reduceMod,Nat.reduceDiv,Nat.reducePow,Nat.reduceSub,Nat.reduceBEq,Int.reduceLE,Int.reduceLT,Int.reduceEq,Int.reduceSub,Int.reduceAdd,Int.reduceToNat,Int.reduceNeg,m0,m1,m2,m3,m4,e1,BD,BF,DN,DR,DT]<;>(repeat' apply A7)<;>first|rfl|exact⟨_,rfl⟩|exact⟨_,_,rfl⟩|simp [A9,A8]
theorem Fz(s1_:List Int)(s2_:List Int){r:Int}(h:Bl s1_ s2_=some r):Y.call 145 [D.sl 3 (A9 (D.int .i64) s1_),D.sl 3 (A9 (D.int .i64) s2_)] []=some (D.int .i64 r,[]):=by
 refine A9s ?_ rfl;unfold yx;unfold Bl at h;obtain⟨AO,hl2,h⟩:=BC h;try dsimp only at h
 simp (maxDischargeDepth:=9) only [↓AB,AC,Ah,↓reduceIte,Nat.reduceEqDiff,Nat.reduceLT,Nat.reduceLeDiff,Nat.reduceAdd,Nat.reduceMul,Nat.reduceMod,Nat.reduceDiv,Nat.reducePow,Nat.reduceSub,Nat.reduceBEq,Int.reduceLE,Int.reduceLT,Int.reduceEq,Int.reduceSub,Int.reduceAdd,Int.reduceToNat,Int.reduceNeg];refine Bh (JA s1_ s2_ hl2 ?_) ?_
 ·simp (maxDischargeDepth:=9) only [↓AB,AC,Ah,↓reduceIte,Nat.reduceEqDiff,Nat.reduceLT,Nat.reduceLeDiff,Nat.reduceAdd,Nat.reduceMul,Nat.reduceMod,Nat.reduceDiv,Nat.reducePow,Nat.reduceSub,Nat.reduceBEq,Int.reduceLE,Int.reduceLT,Int.reduceEq,Int.reduceSub,Int.reduceAdd,Int.reduceToNat,Int.reduceNeg,BD]<;>(repeat' apply A7)<;>first|rfl|exact⟨_,rfl⟩|exact⟨_,_,rfl⟩|simp [A9,A8]
 ·intro ex2 s2 hX2;rcases AO with q1000_|q1000_
  ·unfold BF at hX2;dsimp only at hX2 h;obtain⟨rfl,n2_0⟩:=hX2
   obtain rfl:=Option.some.inj h
   simp (maxDischargeDepth:=9) only [↓AB,AC,Ah,↓reduceIte,Nat.reduceEqDiff,Nat.reduceLT,Nat.reduceLeDiff,Nat.reduceAdd,Nat.reduceMul,Nat.reduceMod,Nat.reduceDiv,Nat.reducePow,Nat.reduceSub,Nat.reduceBEq,Int.reduceLE,Int.reduceLT,Int.reduceEq,Int.reduceSub,Int.reduceAdd,Int.reduceToNat,Int.reduceNeg,n2_0]<;>(repeat' apply A7)<;>first|rfl|exact⟨_,rfl⟩|exact⟨_,_,rfl⟩|simp [A9,A8]
  ·unfold BF at hX2;dsimp only at hX2 h;obtain⟨rfl,n2_0,n2_1⟩:=hX2;by_cases e3:(s1_.length:Int)<(s2_.length:Int)
   ·rw [if_pos e3]at h
    obtain rfl:=Option.some.inj h
    simp (maxDischargeDepth:=9) only [↓AB,AC,Ah,↓reduceIte,Nat.reduceEqDiff,Nat.reduceLT,Nat.reduceLeDiff,Nat.reduceAdd,Nat.reduceMul,Nat.reduceMod,Nat.reduceDiv,Nat.reducePow,Nat.reduceSub,Nat.reduceBEq,Int.reduceLE,Int.reduceLT,Int.reduceEq,Int.reduceSub,Int.reduceAdd,Int.reduceToNat,Int.reduceNeg,n2_0,n2_1,e3]<;>(repeat' apply A7)<;>first|rfl|exact⟨_,rfl⟩|exact⟨_,_,rfl⟩|simp [A9,A8]
   ·rw [if_neg e3]at h
    obtain rfl:=Option.some.inj h
    simp (maxDischargeDepth:=9) only [↓AB,AC,Ah,↓reduceIte,Nat.reduceEqDiff,Nat.reduceLT,Nat.reduceLeDiff,Nat.reduceAdd,Nat.reduceMul,Nat.reduceMod,Nat.reduceDiv,Nat.reducePow,Nat.reduceSub,Nat.reduceBEq,Int.reduceLE,Int.reduceLT,Int.reduceEq,Int.reduceSub,Int.reduceAdd,Int.reduceToNat,Int.reduceNeg,n2_0,n2_1,e3]<;>(repeat' apply A7)<;>first|rfl|exact⟨_,rfl⟩|exact⟨_,_,rfl⟩|simp [A9,A8]
theorem QJ(x y:Int):FK x y=some (if x<y then-1 else if y<x then 1 else 0):=by
 unfold FK Dj;by_cases h1:x<y<;>by_cases h2:y<x<;>simp [h1,h2]
theorem UK: ∀(a b p q:List Int),p.length=q.length→p.length+a.length<1099511627776→q.length+b.length<1099511627776→
  (BN (p++a) (q++b) (p.length:Int)).bind (fun r=>match r with| .inl q2=>some q2| .inr _=>if((p++a).length:Int)<((q++b).length:Int)then some (-1)else some 0)=some (FZ a b):=by
 intro a
 induction a with
 |nil=>
  intro b p q hpq ha hb;unfold BN;rw [Dy (r:=Sum.inr ())]
  ·simp only [Ee,O9,Jz,hpq]
   cases b with
   |nil=>rw [if_neg (by simp)];rfl
   |cons y b=>rw [if_pos (by simp;omega)];rfl
  ·simp only [BX];rw [if_neg (RL _)]
 |cons x a ih=>
  intro b p q hpq ha hb;simp only [Jn]at ha hb;have ex:(p++x::a).getD (p.length:Int).toNat default=x:=by rw [KP];exact DU p (x::a) p.length rfl (by simp)
  cases b with
  |nil=>
   unfold BN;rw [Dy (r:=Sum.inl 1)]
   ·rfl
   ·simp only [BX];rw [if_pos (Q6 ..),CU (Q7 ..),if_pos (by simp;omega)]
  |cons y b=>
   simp only [Jn]at hb;have ey:(q++y::b).getD (p.length:Int).toNat default=y:=by rw [KP,hpq];exact DU q (y::b) q.length rfl (by simp)
   have step:BX (p++x::a) (q++y::b) (p.length:Int)=if x=y then some (.inl (((p++[x]).length:Nat):Int))else some (.inr (.inl (if x<y then-1 else 1))):=by
    unfold BX;rw [if_pos (Q6 ..),CU (Q7 ..),if_neg (by simp;omega),CU (by simp;omega),ex,ey,QJ,Ee,Ny _ (by omega)]
    by_cases h1:x=y
    ·subst h1;simp
    ·rw [if_neg h1];by_cases h2:x<y
     ·simp [h2]
     ·have h3:y<x:=by omega
      simp [h2,h3]
   unfold FZ;by_cases h1:x=y
   ·rw [if_pos h1];rw [if_pos h1]at step;have:=ih b (p++[x]) (q++[y]) (by simp [hpq]) (by simp;omega) (by simp;omega)
    unfold BN at this ⊢;rw [IX step];simpa using this
   ·rw [if_neg h1];rw [if_neg h1]at step;unfold BN;rw [Dy step];rfl
theorem Gj(a b:List Int)(ha:a.length<1099511627776)(hb:b.length<1099511627776):Bl a b=some (FZ a b):=by
 have:=UK a b [] [] rfl (by simpa using ha) (by simpa using hb)
 unfold Bl;simp only [LA,OU,Jo]at this;exact this
theorem Jg(s1_:List Int)(s2_:List Int)(h0:s1_.length<1099511627776)(h1:s2_.length<1099511627776):Y.call 145 [D.sl 3 (A9 (D.int .i64) s1_),D.sl 3 (A9 (D.int .i64) s2_)] []=some (D.int .i64 (FZ s1_ s2_),[]):=Fz s1_ s2_ (Gj s1_ s2_ h0 h1)
noncomputable def NK(n_:Int):Option (Int):= if 0<n_ then some 1 else if n_<0 then some (-1) else some 0
def yz:SC:= .seq (.ops [oX 2 (.assign (iK 0)) 3]) (.seq (.block 0 (.seq (.ops [oM 4 0 3,oB 5 .gtr 3 (tK 4) (iK 0) 3 4,oA 3 5 4]) (.cond (tK 3) (.seq (.ops [oX 2 (.assign (iK 1)) 3]) .ret) (.seq (.ops [oM 7 0 3,oB 8 .lss 3 (tK 7) (iK 0) 3 4,oA 6 8 4]) (.cond (tK 6) (.seq (.ops [oX 2 (.assign (.const (.int .i64 (-1)))) 3]) .ret) .skip))))) (.seq (.ops [oX 2 (.assign (iK 0)) 3]) .ret))
theorem mI:Try.f165.body.map (Ct lends)=some yz:=by kernel_rfl
theorem A5m:DL Try.f165 1=true:=by kernel_rfl
theorem A9t{a l:List D}{r:D×List D}(h:D6 Y.env yz (I6 Aa l.length [ResultVar.tmp 2] r) (entry a l))(ha:a.length=1):Y.call 165 a l=some r:=
 Ag (Y:=Y) rfl Try.func165 (ha▸A5m) mI h
theorem UL(n_:Int){r:Int}(h:NK n_=some r):Y.call 165 [D.int .i64 n_] []=some (D.int .i64 r,[]):=by
 refine A9t ?_ rfl;unfold yz;unfold NK at h;by_cases e1:0<n_
 ·rw [if_pos e1]at h
  obtain rfl:=Option.some.inj h
  simp (maxDischargeDepth:=9) only [↓AB,AC,Ah,↓reduceIte,Nat.reduceEqDiff,Nat.reduceLT,Nat.reduceLeDiff,Nat.reduceAdd,Nat.reduceMul,Nat.reduceMod,Nat.reduceDiv,Nat.reducePow,Nat.reduceSub,Nat.reduceBEq,Int.reduceLE,Int.reduceLT,Int.reduceEq,Int.reduceSub,Int.reduceAdd,Int.reduceToNat,Int.reduceNeg,e1]<;>(repeat' apply A7)<;>first|rfl|exact⟨_,rfl⟩|exact⟨_,_,rfl⟩|simp [A9,A8]
 ·rw [if_neg e1]at h;by_cases e2:n_<0
  ·rw [if_pos e2]at h
   obtain rfl:=Option.some.inj h
   simp (maxDischargeDepth:=9) only [↓AB,AC,Ah,↓reduceIte,Nat.reduceEqDiff,Nat.reduceLT,Nat.reduceLeDiff,Nat.reduceAdd,Nat.reduceMul,Nat.reduceMod,Nat.reduceDiv,Nat.reducePow,Nat.reduceSub,Nat.reduceBEq,Int.reduceLE,Int.reduceLT,Int.reduceEq,Int.reduceSub,Int.reduceAdd,Int.reduceToNat,Int.reduceNeg,e1,e2]<;>(repeat' apply A7)<;>first|rfl|exact⟨_,rfl⟩|exact⟨_,_,rfl⟩|simp [A9,A8]
  ·rw [if_neg e2]at h
   obtain rfl:=Option.some.inj h
   simp (maxDischargeDepth:=9) only [↓AB,AC,Ah,↓reduceIte,Nat.reduceEqDiff,Nat.reduceLT,Nat.reduceLeDiff,Nat.reduceAdd,Nat.reduceMul,Nat.reduceMod,Nat.reduceDiv,Nat.reducePow,Nat.reduceSub,Nat.reduceBEq,Int.reduceLE,Int.reduceLT,Int.reduceEq,Int.reduceSub,Int.reduceAdd,Int.reduceToNat,Int.reduceNeg,e1,e2]<;>(repeat' apply A7)<;>first|rfl|exact⟨_,rfl⟩|exact⟨_,_,rfl⟩|simp [A9,A8]
noncomputable def G5(a:List Int)(b:List Int)(Lh:Int):Option ((Int)⊕(Int⊕Unit)):= if Lh<(a.length:Int)then ck (0≤Lh∧Lh.toNat<a.length)<| ck (0≤Lh∧Lh.toNat<b.length)<| if(a.getD Lh.toNat default)=(b.getD Lh.toNat default)then some (Sum.inl (IntKind.i64.wrap (Lh+1))) else (NK (IntKind.i64.wrap ((a.getD Lh.toNat default)-(b.getD Lh.toNat default)))).bind fun Zo=> some (Sum.inr (Sum.inl Zo)) else some (Sum.inr (Sum.inr ()))
noncomputable def GN(a:List Int)(b:List Int)(v:Int):Option (Int⊕Unit):=Iw (fun v=>G5 a b v) v
noncomputable def Ni(a:List Int)(b:List Int):Option (Int):=
 (GN a b 0).bind fun AO=>
 match AO with
 | .inl q1000_=>
  some q1000_
 | .inr q1000_=>
  some 0
def TJ:SC:= .seq (.ops [oB 10 .lss 3 (tK 9) (tK 8) 3 0]) (.seq (.cond (tK 10) .skip (.exit 0)) (.seq (.block 1 (.seq (.ops [oM 11 9 3,oI 12 26 7 9,oL 13 3 12 3,oA 5 11 3,oA 6 13 3]) (.seq (.ops [oM 14 6 3,oM 15 1 26,oM 16 5 3,oI 17 26 15 16,oL 18 3 17 3,oB 19 .neq 3 (tK 14) (tK 18) 3 4]) (.cond (tK 19) (.seq (.ops [oM 20 6 3,oM 21 1 26,oM 22 5 3,oI 23 26 21 22,oL 24 3 23 3,oB 25 .sub 3 (tK 20) (tK 24) 3 3,oC 26 165 [(tK 25)] [3] 3,oA 4 26 3]) .ret) .skip)))) (.ops [oB 27 .add 3 (tK 9) (iK 1) 3 3,oM 9 27 3])))
def aW:SC:= .loop TJ
def z8:SC:= .seq (.ops [oX 4 (.assign (iK 0)) 3]) (.seq (.seq (.ops [oM 7 0 26,oN 8 7 26,oX 9 (.move (iK 0)) 3]) (.block 0 aW)) (.seq (.ops [oX 4 (.assign (iK 0)) 3]) .ret))
theorem mJ:Try.f138.body.map (Ct lends)=some z8:=by kernel_rfl
theorem A5n:DL Try.f138 2=true:=by kernel_rfl
theorem A9u{a l:List D}{r:D×List D}(h:D6 Y.env z8 (I6 Aa l.length [ResultVar.tmp 4] r) (entry a l))(ha:a.length=2):Y.call 138 a l=some r:=
 Ag (Y:=Y) rfl Try.func138 (ha▸A5n) mJ h
def Eo(a:List Int)(b:List Int)(Lh:Int)(s:St):Prop:=s.v 1=D.sl 3 (A9 (D.int .i64) b)∧s.v 7=D.sl 3 (A9 (D.int .i64) a)∧s.v 8=D.int .i64 (a.length:Int)∧s.v 9=D.int .i64 Lh
def Ep(a:List Int)(b:List Int)(r:Int⊕Unit)(ex:Ex)(s:St):Prop:=match r with
 | .inl q=>ex= .ret∧s.v 4=D.int .i64 q
 | .inr q=>ex= .exit 0
theorem R6(a:List Int)(b:List Int){v:Int}{s:St}{r:Int⊕Unit}(h:GN a b v=some r)(hM:Eo a b v s):D6 Y.env aW (Ep a b r) s:=by
 unfold GN at h;refine CX (c:=TJ) (fun v=>G5 a b v) (fun v s=>Eo a b v s) (Ep a b) ?_ h hM;clear h hM s v r;intro Lh s o hM h;unfold G5 at h;unfold Eo at hM;obtain⟨m0,m1,m2,m3⟩:=hM;unfold TJ;by_cases e1:Lh<(a.length:Int)
 ·rw [if_pos e1]at h;obtain⟨e2,h⟩:=Bw h;obtain⟨e3,h⟩:=Bw h;by_cases e4:(a.getD Lh.toNat default)=(b.getD Lh.toNat default)
  ·rw [if_pos e4]at h
   obtain rfl:=Option.some.inj h
   simp (maxDischargeDepth:=9) only [↓AB,AC,Ah,↓reduceIte,Nat.reduceEqDiff,Nat.reduceLT,Nat.reduceLeDiff,Nat.reduceAdd,Nat.reduceMul,Nat.reduceMod,Nat.reduceDiv,Nat.reducePow,Nat.reduceSub,Nat.reduceBEq,Int.reduceLE,Int.reduceLT,Int.reduceEq,Int.reduceSub,Int.reduceAdd,Int.reduceToNat,Int.reduceNeg,m0,m1,m2,m3,e1,e2.1,e2.2,e3.1,e3.2,decide_eq_true e4,Eo,Ep,DN,DR,DT]<;>(repeat' apply A7)<;>first|rfl|exact⟨_,rfl⟩|exact⟨_,_,rfl⟩|simp [A9,A8]
  ·rw [if_neg e4]at h;obtain⟨Zo,hl5,h⟩:=BC h;try dsimp only at h
   have c5:=UL (IntKind.i64.wrap ((a.getD Lh.toNat default)-(b.getD Lh.toNat default))) hl5
   obtain rfl:=Option.some.inj h
   simp (maxDischargeDepth:=9) only [↓AB,AC,Ah,↓reduceIte,Nat.reduceEqDiff,Nat.reduceLT,Nat.reduceLeDiff,Nat.reduceAdd,Nat.reduceMul,Nat.reduceMod,Nat.reduceDiv,Nat.reducePow,Nat.reduceSub,Nat.reduceBEq,Int.reduceLE,Int.reduceLT,Int.reduceEq,Int.reduceSub,Int.reduceAdd,Int.reduceToNat,Int.reduceNeg,m0,m1,m2,m3,e1,e2.1,e2.2,e3.1,e3.2,e4,c5,Eo,Ep,DN,DR,DT]<;>(repeat' apply A7)<;>first|rfl|exact⟨_,rfl⟩|exact⟨_,_,rfl⟩|simp [A9,A8]
 ·rw [if_neg e1]at h
  obtain rfl:=Option.some.inj h
  simp (maxDischargeDepth:=9) only [↓AB,AC,Ah,↓reduceIte,Nat.reduceEqDiff,Nat.reduceLT,Nat.reduceLeDiff,Nat.reduceAdd,Nat.reduceMul,Nat.reduceMod,Nat.reduceDiv,Nat.reducePow,Nat.reduceSub,Nat.reduceBEq,Int.reduceLE,Int.reduceLT,Int.reduceEq,Int.reduceSub,Int.reduceAdd,Int.reduceToNat,Int.reduceNeg,m0,m1,m2,m3,e1,Eo,Ep,DN,DR,DT]<;>(repeat' apply A7)<;>first|rfl|exact⟨_,rfl⟩|exact⟨_,_,rfl⟩|simp [A9,A8]
theorem TK(a:List Int)(b:List Int){r:Int}(h:Ni a b=some r):Y.call 138 [D.sl 3 (A9 (D.int .i64) a),D.sl 3 (A9 (D.int .i64) b)] []=some (D.int .i64 r,[]):=by
 refine A9u ?_ rfl;unfold z8;unfold Ni at h;obtain⟨AO,hl2,h⟩:=BC h;try dsimp only at h
 simp (maxDischargeDepth:=9) only [↓AB,AC,Ah,↓reduceIte,Nat.reduceEqDiff,Nat.reduceLT,Nat.reduceLeDiff,Nat.reduceAdd,Nat.reduceMul,Nat.reduceMod,Nat.reduceDiv,Nat.reducePow,Nat.reduceSub,Nat.reduceBEq,Int.reduceLE,Int.reduceLT,Int.reduceEq,Int.reduceSub,Int.reduceAdd,Int.reduceToNat,Int.reduceNeg];refine Bh (R6 a b hl2 ?_) ?_
 ·simp (maxDischargeDepth:=9) only [↓AB,AC,Ah,↓reduceIte,Nat.reduceEqDiff,Nat.reduceLT,Nat.reduceLeDiff,Nat.reduceAdd,Nat.reduceMul,Nat.reduceMod,Nat.reduceDiv,Nat.reducePow,Nat.reduceSub,Nat.reduceBEq,Int.reduceLE,Int.reduceLT,Int.reduceEq,Int.reduceSub,Int.reduceAdd,Int.reduceToNat,Int.reduceNeg,Eo]<;>(repeat' apply A7)<;>first|rfl|exact⟨_,rfl⟩|exact⟨_,_,rfl⟩|simp [A9,A8]
 ·intro ex2 s2 hX2;rcases AO with q1000_|q1000_
  ·unfold Ep at hX2;dsimp only at hX2 h;obtain⟨rfl,n2_0⟩:=hX2
   obtain rfl:=Option.some.inj h
   simp (maxDischargeDepth:=9) only [↓AB,AC,Ah,↓reduceIte,Nat.reduceEqDiff,Nat.reduceLT,Nat.reduceLeDiff,Nat.reduceAdd,Nat.reduceMul,Nat.reduceMod,Nat.reduceDiv,Nat.reducePow,Nat.reduceSub,Nat.reduceBEq,Int.reduceLE,Int.reduceLT,Int.reduceEq,Int.reduceSub,Int.reduceAdd,Int.reduceToNat,Int.reduceNeg,n2_0]<;>(repeat' apply A7)<;>first|rfl|exact⟨_,rfl⟩|exact⟨_,_,rfl⟩|simp [A9,A8]
  ·unfold Ep at hX2;dsimp only at hX2 h
   obtain rfl:=hX2
   obtain rfl:=Option.some.inj h
   simp (maxDischargeDepth:=9) only [↓AB,AC,Ah,↓reduceIte,Nat.reduceEqDiff,Nat.reduceLT,Nat.reduceLeDiff,Nat.reduceAdd,Nat.reduceMul,Nat.reduceMod,Nat.reduceDiv,Nat.reducePow,Nat.reduceSub,Nat.reduceBEq,Int.reduceLE,Int.reduceLT,Int.reduceEq,Int.reduceSub,Int.reduceAdd,Int.reduceToNat,Int.reduceNeg]<;>(repeat' apply A7)<;>first|rfl|exact⟨_,rfl⟩|exact⟨_,_,rfl⟩|simp [A9,A8]
def Jh(l:List Int):Bool:=J2 l (-1099511627776) 1099511627776
theorem TL{l:List Int}(h:Jh l=true){x:Int}(hx:x∈l): -1099511627776≤x∧x≤1099511627776:=by
 have:=Ho.1 h x hx;exact Kj.1 this
theorem Ux{l:List Int}{lo hi:Int}(h:J2 l lo hi=true)(h1: -1099511627776≤lo)(h2:hi≤1099511627776):Jh l=true:=by
 refine Ho.2 fun x hx=> ?_;have:=Kj.1 (Ho.1 h x hx)
 exact Kj.2 ⟨by omega,by omega⟩
theorem YL(n:Int):NK n=some (if n<0 then-1 else if 0<n then 1 else 0):=by
 unfold NK;by_cases h1:n<0<;>by_cases h2:0<n<;>simp [h1,h2]<;>omega
theorem YM: ∀(a b p q:List Int),p.length=q.length→a.length=b.length→p.length+a.length<1099511627776→Jh a=true→Jh b=true→
  (GN (p++a) (q++b) (p.length:Int)).bind (fun r=>match r with| .inl q2=>some q2| .inr _=>some 0)=some (FZ a b):=by
 intro a
 induction a with
 |nil=>
  intro b p q hpq hab ha h1 h2;have:b=[]:=by cases b with|nil=>rfl|cons _ _=>simp at hab
  subst this;unfold GN;rw [Dy (r:=Sum.inr ())]
  ·rfl
  ·simp only [G5];rw [if_neg (RL _)]
 |cons x a ih=>
  intro b p q hpq hab ha h1 h2
  cases b with
  |nil=>simp at hab
  |cons y b=>
   simp only [Jn]at ha hab;have sx1:=TL h1 (Jm ..);have sy1:=TL h2 (Jm ..);have ex:(p++x::a).getD (p.length:Int).toNat default=x:=by rw [KP];exact DU p (x::a) p.length rfl (by simp)
   have ey:(q++y::b).getD (p.length:Int).toNat default=y:=by rw [KP,hpq];exact DU q (y::b) q.length rfl (by simp)
   have step:G5 (p++x::a) (q++y::b) (p.length:Int)=if x=y then some (.inl (((p++[x]).length:Nat):Int))else some (.inr (.inl (if x<y then-1 else 1))):=by
    unfold G5;rw [if_pos (Q6 ..),CU (Q7 ..),CU (by simp;omega),ex,ey,Ny _ (by omega),IK _ (by omega),YL,Ee]
    by_cases h1:x=y
    ·subst h1;simp
    ·rw [if_neg h1,if_neg h1];by_cases h2:x<y
     ·rw [if_pos (by omega),if_pos h2]
     ·rw [if_neg (by omega),if_pos (by omega),if_neg h2]
   have s1:Jh a=true:=Ho.2 fun z hz=>Ho.1 h1 z (Il _ hz);have s2:Jh b=true:=Ho.2 fun z hz=>Ho.1 h2 z (Il _ hz);unfold FZ;by_cases h1:x=y
   ·rw [if_pos h1];rw [if_pos h1]at step;have:=ih b (p++[x]) (q++[y]) (by simp [hpq]) (by omega) (by simp;omega) s1 s2
    unfold GN at this ⊢;rw [IX step];simpa using this
   ·rw [if_neg h1];rw [if_neg h1]at step;unfold GN;rw [Dy step];rfl
theorem WI(a b:List Int)(ha:a.length<1099511627776)(hab:a.length=b.length)(h1:Jh a=true)(h2:Jh b=true):Ni a b=some (FZ a b):=by
 have:=YM a b [] [] rfl hab (by simpa using ha) h1 h2
 unfold Ni;simp only [LA,OU,Jo]at this;exact this
theorem WJ(a:List Int)(b:List Int)(h0:a.length<1099511627776)(h1:a.length=b.length)(h2:Jh a=true)(h3:Jh b=true):Y.call 138 [D.sl 3 (A9 (D.int .i64) a),D.sl 3 (A9 (D.int .i64) b)] []=some (D.int .i64 (FZ a b),[]):=TK a b (WI a b h0 h1 h2 h3)
def Kt(l:List (List Int))(size labels:Int)(i:Nat):Bool:=
 ((decide (((l.getD i default).length:Int)=size)&&Eu (l.getD i default))&&J2 (l.getD i default) 0 (labels-1))&&(decide (i=0)||decide (FZ (l.getD (i-1) default) (l.getD i default)<0))
def Hd(l:List (List Int))(size labels:Int):Bool:=(List.range l.length).all (Kt l size labels)
def F4(labels degree:Int)(ns es:List (List Int)):Bool:=((NI labels 1 8&&NI degree 1 4)&&Hd ns degree labels)&&Hd es 2 labels
theorem BM.getD{l:List (List Int)}(h:BM l)(i:Nat):(l.getD i default).length<1099511627776:=by
 rcases Nat.lt_or_ge i l.length with hi|hi
 ·rw [Av _ _ hi];exact h.at i hi
 ·rw [JL,List.getElem?_eq_none hi];decide
noncomputable def Cb(list:List (List Int))(size:Int)(labels:Int)(Bz:Int):Option ((Int)⊕(Unit⊕Unit)):= if Bz<(list.length:Int)then ck (0≤Bz∧Bz.toNat<list.length)<| if((list.getD Bz.toNat default).length:Int)=size then ck ((list.getD Bz.toNat default).length<1099511627776)<| if(Eu (list.getD Bz.toNat default))=true then if(J2 (list.getD Bz.toNat default) (0:Int) (IntKind.i64.wrap (labels-1)))=true then if 0<Bz then ck (0≤IntKind.i64.wrap (Bz-1)∧(IntKind.i64.wrap (Bz-1)).toNat<list.length)<| ck ((list.getD ((IntKind.i64.wrap (Bz-1)).toNat) default).length<1099511627776)<| if 0≤(FZ (list.getD ((IntKind.i64.wrap (Bz-1)).toNat) default) (list.getD Bz.toNat default))then some (Sum.inr (Sum.inl ())) else some (Sum.inl (IntKind.i64.wrap (Bz+1))) else some (Sum.inl (IntKind.i64.wrap (Bz+1))) else some (Sum.inr (Sum.inl ())) else some (Sum.inr (Sum.inl ())) else some (Sum.inr (Sum.inl ())) else some (Sum.inr (Sum.inr ()))
noncomputable def Ev(list:List (List Int))(size:Int)(labels:Int)(v:Int):Option (Unit⊕Unit):=Iw (fun v=>Cb list size labels v) v
noncomputable def GQ(list:List (List Int))(size:Int)(labels:Int):Option (Bool):=
 (Ev list size labels 0).bind fun AO=>
 match AO with
 | .inl q1000_=>
  some false
 | .inr q1000_=>
  some true
def WK:SC:= .seq (.ops [oB 12 .lss 3 (tK 11) (tK 10) 3 0]) (.seq (.cond (tK 12) .skip (.exit 0)) (.seq (.block 1 (.seq (.ops [oM 13 11 3,oI 14 22 9 11,oL 15 26 14 26,oA 7 13 3,oA 8 15 26]) (.seq (.ops [oM 16 8 26,oN 17 16 26,oM 18 1 3,oB 19 .neq 3 (tK 17) (tK 18) 3 4,oM 20 19 4,⟨(some 21),(.move (tK 8)),26,(some (some 20,false))⟩,⟨(some 22),(.call ⟨(.value (.func 143)), #[(tK 21)], #[26]⟩),4,(some (some 20,false))⟩,⟨(some 23),(.unOp .not 4 (tK 22)),4,(some (some 20,false))⟩,oX 24 (.pick (tK 20) (.const (.bool true)) (tK 23)) 4,oM 25 24 4,⟨(some 26),(.move (tK 8)),26,(some (some 25,false))⟩,⟨(some 27),(.move (tK 2)),3,(some (some 25,false))⟩,⟨(some 28),(.binOp .sub 3 (tK 27) (iK 1) 3),3,(some (some 25,false))⟩,⟨(some 29),(.call ⟨(.value (.func 144)), #[(tK 26),(iK 0),(tK 28)], #[26,3,3]⟩),4,(some (some 25,false))⟩,⟨(some 30),(.unOp .not 4 (tK 29)),4,(some (some 25,false))⟩,oX 31 (.pick (tK 25) (.const (.bool true)) (tK 30)) 4,oM 32 31 4,⟨(some 33),(.move (tK 7)),3,(some (some 32,false))⟩,⟨(some 34),(.binOp .gtr 3 (tK 33) (iK 0) 3),4,(some (some 32,false))⟩,⟨(some 35),(.move (tK 34)),4,(some (some 32,false))⟩,⟨(some 36),(.move (tK 0)),22,(some (some 35,true))⟩,
 ⟨(some 37),(.move (tK 7)),3,(some (some 35,true))⟩,⟨(some 38),(.binOp .sub 3 (tK 37) (iK 1) 3),3,(some (some 35,true))⟩,⟨(some 39),(.indexAddr 22 (tK 36) (tK 38)),0,(some (some 35,true))⟩,⟨(some 40),(.load 26 (tK 39)),26,(some (some 35,true))⟩,⟨(some 41),(.move (tK 8)),26,(some (some 35,true))⟩,⟨(some 42),(.call ⟨(.value (.func 145)), #[(tK 40),(tK 41)], #[26,26]⟩),3,(some (some 35,true))⟩,⟨(some 43),(.binOp .geq 3 (tK 42) (iK 0) 3),4,(some (some 35,true))⟩,⟨(some 44),(.pick (tK 35) (tK 43) (.const (.bool false))),4,(some (some 32,false))⟩,oX 45 (.pick (tK 32) (.const (.bool true)) (tK 44)) 4]) (.cond (tK 45) (.seq (.ops [oX 6 (.assign (.const (.bool false))) 4]) .ret) .skip)))) (.ops [oB 46 .add 3 (tK 11) (iK 1) 3 3,oM 11 46 3])))
def j4:SC:= .loop WK
def k98:SC:= .seq (.ops [oX 6 (.assign (.const (.bool false))) 4]) (.seq (.seq (.ops [oM 9 0 22,oN 10 9 22,oX 11 (.move (iK 0)) 3]) (.block 0 j4)) (.seq (.ops [oX 6 (.assign (.const (.bool true))) 4]) .ret))
theorem zA:Try.f98.body.map (Ct lends)=some k98:=by kernel_rfl
theorem A9w:DL Try.f98 3=true:=by kernel_rfl
theorem c98{a l:List D}{r:D×List D}(h:D6 Y.env k98 (I6 Aa l.length [ResultVar.tmp 6] r) (entry a l))(ha:a.length=3):Y.call 98 a l=some r:=
 Ag (Y:=Y) rfl Try.func98 (ha▸A9w) zA h
def BG(list:List (List Int))(size:Int)(labels:Int)(Bz:Int)(s:St):Prop:=s.v 0=D.sl 26 (A9 (fun x=>D.sl 3 (A9 (D.int .i64) x)) list)∧s.v 1=D.int .i64 size∧s.v 2=D.int .i64 labels∧s.v 9=D.sl 26 (A9 (fun x=>D.sl 3 (A9 (D.int .i64) x)) list)∧s.v 10=D.int .i64 (list.length:Int)∧s.v 11=D.int .i64 Bz
def BH(list:List (List Int))(size:Int)(labels:Int)(r:Unit⊕Unit)(ex:Ex)(s:St):Prop:=match r with
 | .inl q=>ex= .ret∧s.v 6=D.bool false
 | .inr q=>ex= .exit 0
theorem Ku(list:List (List Int))(size:Int)(labels:Int){v:Int}{s:St}{r:Unit⊕Unit}(h:Ev list size labels v=some r)(hM:BG list size labels v s):D6 Y.env j4 (BH list size labels r) s:=by
 unfold Ev at h;refine CX (c:=WK) (fun v=>Cb list size labels v) (fun v s=>BG list size labels v s) (BH list size labels) ?_ h hM;clear h hM s v r;intro Bz s o hM h;unfold Cb at h;unfold BG at hM;obtain⟨m0,m1,m2,m3,m4,m5⟩:=hM;unfold WK;by_cases e1:Bz<(list.length:Int)
 ·rw [if_pos e1]at h;obtain⟨e2,h⟩:=Bw h;by_cases e3:((list.getD Bz.toNat default).length:Int)=size
  ·rw [if_pos e3]at h;obtain⟨e4,h⟩:=Bw h;have c5:=Ja (list.getD Bz.toNat default) e4;by_cases e6:(Eu (list.getD Bz.toNat default))=true
   ·rw [if_pos e6]at h;have c7:=TG (list.getD Bz.toNat default) (0:Int) (IntKind.i64.wrap (labels-1)) e4;by_cases e8:(J2 (list.getD Bz.toNat default) (0:Int) (IntKind.i64.wrap (labels-1)))=true
    ·rw [if_pos e8]at h;by_cases e9:0<Bz
     ·rw [if_pos e9]at h;obtain⟨e10,h⟩:=Bw h;obtain⟨e11,h⟩:=Bw h;have vY:=Jg (list.getD ((IntKind.i64.wrap (Bz-1)).toNat) default) (list.getD Bz.toNat default) e11 e4;by_cases e13:0≤(FZ (list.getD ((IntKind.i64.wrap (Bz-1)).toNat) default) (list.getD Bz.toNat default))
      ·rw [if_pos e13]at h
       obtain rfl:=Option.some.inj h
       simp (maxDischargeDepth:=9) only [↓AB,AC,Ah,↓reduceIte,Nat.reduceEqDiff,Nat.reduceLT,Nat.reduceLeDiff,Nat.reduceAdd,Nat.reduceMul,Nat.reduceMod,Nat.reduceDiv,Nat.reducePow,Nat.reduceSub,Nat.reduceBEq,Int.reduceLE,Int.reduceLT,Int.reduceEq,Int.reduceSub,Int.reduceAdd,Int.reduceToNat,Int.reduceNeg,m0,m1,m2,m3,m4,m5,e1,e2.1,e2.2,decide_eq_true e3,e4,c5,e6,c7,e8,e9,e10.1,e10.2,e11,vY,e13,BG,BH,DN,DR,DT]<;>(repeat' apply A7)<;>first|rfl|exact⟨_,rfl⟩|exact⟨_,_,rfl⟩|simp [A9,A8]
      ·rw [if_neg e13]at h
       obtain rfl:=Option.some.inj h
       simp (maxDischargeDepth:=9) only [↓AB,AC,Ah,↓reduceIte,Nat.reduceEqDiff,Nat.reduceLT,Nat.reduceLeDiff,Nat.reduceAdd,Nat.reduceMul,Nat.reduceMod,Nat.reduceDiv,Nat.reducePow,Nat.reduceSub,Nat.reduceBEq,Int.reduceLE,Int.reduceLT,Int.reduceEq,Int.reduceSub,Int.reduceAdd,Int.reduceToNat,Int.reduceNeg,m0,m1,m2,m3,m4,m5,e1,e2.1,e2.2,decide_eq_true e3,e4,c5,e6,c7,e8,e9,e10.1,e10.2,e11,vY,e13,BG,BH,DN,DR,DT]<;>(repeat' apply A7)<;>first|rfl|exact⟨_,rfl⟩|exact⟨_,_,rfl⟩|simp [A9,A8]
     ·rw [if_neg e9]at h
      obtain rfl:=Option.some.inj h
      simp (maxDischargeDepth:=9) only [↓AB,AC,Ah,↓reduceIte,Nat.reduceEqDiff,Nat.reduceLT,Nat.reduceLeDiff,Nat.reduceAdd,Nat.reduceMul,Nat.reduceMod,Nat.reduceDiv,Nat.reducePow,Nat.reduceSub,Nat.reduceBEq,Int.reduceLE,Int.reduceLT,Int.reduceEq,Int.reduceSub,Int.reduceAdd,Int.reduceToNat,Int.reduceNeg,m0,m1,m2,m3,m4,m5,e1,e2.1,e2.2,decide_eq_true e3,e4,c5,e6,c7,e8,e9,BG,BH,DN,DR,DT]<;>(repeat' apply A7)<;>first|rfl|exact⟨_,rfl⟩|exact⟨_,_,rfl⟩|simp [A9,A8]
    ·rw [if_neg e8]at h;have e8f:(J2 (list.getD Bz.toNat default) (0:Int) (IntKind.i64.wrap (labels-1)))=false:=Gm.mpr e8
     obtain rfl:=Option.some.inj h
     simp (maxDischargeDepth:=9) only [↓AB,AC,Ah,↓reduceIte,Nat.reduceEqDiff,Nat.reduceLT,Nat.reduceLeDiff,Nat.reduceAdd,Nat.reduceMul,Nat.reduceMod,Nat.reduceDiv,Nat.reducePow,Nat.reduceSub,Nat.reduceBEq,Int.reduceLE,Int.reduceLT,Int.reduceEq,Int.reduceSub,Int.reduceAdd,Int.reduceToNat,Int.reduceNeg,m0,m1,m2,m3,m4,m5,e1,e2.1,e2.2,decide_eq_true e3,e4,c5,e6,c7,e8f,BG,BH,DN,DR,DT]<;>(repeat' apply A7)<;>first|rfl|exact⟨_,rfl⟩|exact⟨_,_,rfl⟩|simp [A9,A8]
   ·rw [if_neg e6]at h;have e6f:(Eu (list.getD Bz.toNat default))=false:=Gm.mpr e6
    obtain rfl:=Option.some.inj h
    simp (maxDischargeDepth:=9) only [↓AB,AC,Ah,↓reduceIte,Nat.reduceEqDiff,Nat.reduceLT,Nat.reduceLeDiff,Nat.reduceAdd,Nat.reduceMul,Nat.reduceMod,Nat.reduceDiv,Nat.reducePow,Nat.reduceSub,Nat.reduceBEq,Int.reduceLE,Int.reduceLT,Int.reduceEq,Int.reduceSub,Int.reduceAdd,Int.reduceToNat,Int.reduceNeg,m0,m1,m2,m3,m4,m5,e1,e2.1,e2.2,decide_eq_true e3,e4,c5,e6f,BG,BH,DN,DR,DT]<;>(repeat' apply A7)<;>first|rfl|exact⟨_,rfl⟩|exact⟨_,_,rfl⟩|simp [A9,A8]
  ·rw [if_neg e3]at h
   obtain rfl:=Option.some.inj h
   simp (maxDischargeDepth:=9) only [↓AB,AC,Ah,↓reduceIte,Nat.reduceEqDiff,Nat.reduceLT,Nat.reduceLeDiff,Nat.reduceAdd,Nat.reduceMul,Nat.reduceMod,Nat.reduceDiv,Nat.reducePow,Nat.reduceSub,Nat.reduceBEq,Int.reduceLE,Int.reduceLT,Int.reduceEq,Int.reduceSub,Int.reduceAdd,Int.reduceToNat,Int.reduceNeg,m0,m1,m2,m3,m4,m5,e1,e2.1,e2.2,e3,BG,BH,DN,DR,DT]<;>(repeat' apply A7)<;>first|rfl|exact⟨_,rfl⟩|exact⟨_,_,rfl⟩|simp [A9,A8]
 ·rw [if_neg e1]at h
  obtain rfl:=Option.some.inj h
  simp (maxDischargeDepth:=9) only [↓AB,AC,Ah,↓reduceIte,Nat.reduceEqDiff,Nat.reduceLT,Nat.reduceLeDiff,Nat.reduceAdd,Nat.reduceMul,Nat.reduceMod,Nat.reduceDiv,Nat.reducePow,Nat.reduceSub,Nat.reduceBEq,Int.reduceLE,Int.reduceLT,Int.reduceEq,Int.reduceSub,Int.reduceAdd,Int.reduceToNat,Int.reduceNeg,m0,m1,m2,m3,m4,m5,e1,BG,BH,DN,DR,DT]<;>(repeat' apply A7)<;>first|rfl|exact⟨_,rfl⟩|exact⟨_,_,rfl⟩|simp [A9,A8]
theorem LY(list:List (List Int))(size:Int)(labels:Int){r:Bool}(h:GQ list size labels=some r):Y.call 98 [D.sl 26 (A9 (fun x=>D.sl 3 (A9 (D.int .i64) x)) list),D.int .i64 size,D.int .i64 labels] []=some (D.bool r,[]):=by
 refine c98 ?_ rfl;unfold k98;unfold GQ at h;obtain⟨AO,hl2,h⟩:=BC h;try dsimp only at h
 simp (maxDischargeDepth:=9) only [↓AB,AC,Ah,↓reduceIte,Nat.reduceEqDiff,Nat.reduceLT,Nat.reduceLeDiff,Nat.reduceAdd,Nat.reduceMul,Nat.reduceMod,Nat.reduceDiv,Nat.reducePow,Nat.reduceSub,Nat.reduceBEq,Int.reduceLE,Int.reduceLT,Int.reduceEq,Int.reduceSub,Int.reduceAdd,Int.reduceToNat,Int.reduceNeg];refine Bh (Ku list size labels hl2 ?_) ?_
 ·simp (maxDischargeDepth:=9) only [↓AB,AC,Ah,↓reduceIte,Nat.reduceEqDiff,Nat.reduceLT,Nat.reduceLeDiff,Nat.reduceAdd,Nat.reduceMul,Nat.reduceMod,Nat.reduceDiv,Nat.reducePow,Nat.reduceSub,Nat.reduceBEq,Int.reduceLE,Int.reduceLT,Int.reduceEq,Int.reduceSub,Int.reduceAdd,Int.reduceToNat,Int.reduceNeg,BG]<;>(repeat' apply A7)<;>first|rfl|exact⟨_,rfl⟩|exact⟨_,_,rfl⟩|simp [A9,A8]
 ·intro ex2 s2 hX2;rcases AO with q1000_|q1000_
  ·unfold BH at hX2;dsimp only at hX2 h;obtain⟨rfl,n2_0⟩:=hX2
   obtain rfl:=Option.some.inj h
   simp (maxDischargeDepth:=9) only [↓AB,AC,Ah,↓reduceIte,Nat.reduceEqDiff,Nat.reduceLT,Nat.reduceLeDiff,Nat.reduceAdd,Nat.reduceMul,Nat.reduceMod,Nat.reduceDiv,Nat.reducePow,Nat.reduceSub,Nat.reduceBEq,Int.reduceLE,Int.reduceLT,Int.reduceEq,Int.reduceSub,Int.reduceAdd,Int.reduceToNat,Int.reduceNeg,n2_0]<;>(repeat' apply A7)<;>first|rfl|exact⟨_,rfl⟩|exact⟨_,_,rfl⟩|simp [A9,A8]
  ·unfold BH at hX2;dsimp only at hX2 h
   obtain rfl:=hX2
   obtain rfl:=Option.some.inj h
   simp (maxDischargeDepth:=9) only [↓AB,AC,Ah,↓reduceIte,Nat.reduceEqDiff,Nat.reduceLT,Nat.reduceLeDiff,Nat.reduceAdd,Nat.reduceMul,Nat.reduceMod,Nat.reduceDiv,Nat.reducePow,Nat.reduceSub,Nat.reduceBEq,Int.reduceLE,Int.reduceLT,Int.reduceEq,Int.reduceSub,Int.reduceAdd,Int.reduceToNat,Int.reduceNeg]<;>(repeat' apply A7)<;>first|rfl|exact⟨_,rfl⟩|exact⟨_,_,rfl⟩|simp [A9,A8]
theorem MU(l:List (List Int))(size labels:Int)(h:BM l)(hl:1≤labels∧labels≤8):GQ l size labels=some (Hd l size labels):=by
 have h1:=h.1;unfold GQ Ev;have key:=JO (fun v=>Cb l size labels v) (fun i=>(i:Int)) l.length (Kt l size labels) (.inl ()) (.inr ()) ?_ ?_
 ·simp only [Jo]at key;rw [key];unfold Hd
  cases (List.range l.length).all (Kt l size labels)<;>rfl
 ·intro i hi;simp only [Cb];rw [if_pos (GJ hi),CU (Fh hi),KP,Ny i (by omega),IK (labels-1) (by omega)]
  have hs:=h.getD i;have hs1:=h.getD (i-1);rw [CU hs];unfold Kt;generalize l.getD i default=x at*;by_cases q1:(x.length:Int)=size
  ·rw [if_pos q1]
   cases q2:Eu x with
   |false=>simp
   |true=>
    rw [if_pos rfl]
    cases q3:J2 x 0 (labels-1)with
    |false=>simp
    |true=>
     rw [if_pos rfl];by_cases q4:i=0
     ·simp [q1,q4]
     ·rw [if_pos (by omega),IK _ (by omega),CU (by omega),show((i:Int)-1).toNat=i-1 by omega,CU hs1]
      generalize l.getD (i-1) default=y at*;by_cases q5:0≤FZ y x
      ·rw [if_pos q5,if_neg (by simp;intro _;exact⟨q4,q5⟩)]
      ·rw [if_neg q5,if_pos (by simp [q1,q4];omega)]
  ·have e:=decide_eq_false q1;rw [if_neg q1,if_neg (by rw [e];simp)]
 ·simp only [Cb];rw [if_neg (CY _)]
theorem JD(list:List (List Int))(size:Int)(labels:Int)(h0:BM list)(h1:1≤labels∧labels≤8):Y.call 98 [D.sl 26 (A9 (fun x=>D.sl 3 (A9 (D.int .i64) x)) list),D.int .i64 size,D.int .i64 labels] []=some (D.bool (Hd list size labels),[]):=LY list size labels (MU list size labels h0 h1)
noncomputable def Er(l:List (List Int))(size:Int)(labels:Int)(Dn:Int)(k:Int):Option ((Int)⊕(Unit⊕Unit)):= if k<size then ck (0≤IntKind.i64.wrap (k-1)∧(IntKind.i64.wrap (k-1)).toNat<(l.getD Dn.toNat default).length)<| ck (0≤k∧k.toNat<(l.getD Dn.toNat default).length)<| if((l.getD Dn.toNat default).getD k.toNat default)<((l.getD Dn.toNat default).getD ((IntKind.i64.wrap (k-1)).toNat) default)then some (Sum.inr (Sum.inl ())) else some (Sum.inl (IntKind.i64.wrap (k+1))) else some (Sum.inr (Sum.inr ()))
noncomputable def I1(l:List (List Int))(size:Int)(labels:Int)(Dn:Int)(v:Int):Option (Unit⊕Unit):=Iw (fun v=>Er l size labels Dn v) v
noncomputable def G6(l:List (List Int))(size:Int)(labels:Int)(Dn:Int):Option ((Int)⊕(Unit⊕Unit)):=
 if Dn<(l.length:Int)then
  ck (0≤Dn∧Dn.toNat<l.length)<|
  if((l.getD Dn.toNat default).length:Int)=size then
   ck ((l.getD Dn.toNat default).length<1099511627776)<|
   if(J2 (l.getD Dn.toNat default) (0:Int) (IntKind.i64.wrap (labels-1)))=true then
    if 0<Dn then
     ck (0≤IntKind.i64.wrap (Dn-1)∧(IntKind.i64.wrap (Dn-1)).toNat<l.length)<|
     ck ((l.getD ((IntKind.i64.wrap (Dn-1)).toNat) default).length<1099511627776)<|
     ck ((l.getD ((IntKind.i64.wrap (Dn-1)).toNat) default).length=(l.getD Dn.toNat default).length)<|
     ck (Jh (l.getD ((IntKind.i64.wrap (Dn-1)).toNat) default)=true)<|
     ck (Jh (l.getD Dn.toNat default)=true)<|
     if 0≤(FZ (l.getD ((IntKind.i64.wrap (Dn-1)).toNat) default) (l.getD Dn.toNat default))then
      some (Sum.inr (Sum.inl ()))
     else
      (I1 l size labels Dn 1).bind fun AO=>
      match AO with
      | .inl q1000_=>
       some (Sum.inr (Sum.inl ()))
      | .inr q1000_=>
       some (Sum.inl (IntKind.i64.wrap (Dn+1)))
    else
     (I1 l size labels Dn 1).bind fun AO=>
     match AO with
     | .inl q1000_=>
      some (Sum.inr (Sum.inl ()))
     | .inr q1000_=>
      some (Sum.inl (IntKind.i64.wrap (Dn+1)))
   else
    some (Sum.inr (Sum.inl ()))
  else
   some (Sum.inr (Sum.inl ()))
 else
  some (Sum.inr (Sum.inr ()))
noncomputable def Js(l:List (List Int))(size:Int)(labels:Int)(v:Int):Option (Unit⊕Unit):=Iw (fun v=>G6 l size labels v) v
noncomputable def Nj(l:List (List Int))(size:Int)(labels:Int):Option (Bool):=
 (Js l size labels 0).bind fun Dk=>
 match Dk with
 | .inl q1001_=>
  some false
 | .inr q1001_=>
  some true
def WL:SC:= .seq (.seq (.ops [oM 42 9 3,oM 43 1 3,oB 44 .lss 3 (tK 42) (tK 43) 3 4]) (.cond (tK 44) .skip (.exit 2))) (.seq (.block 3 (.seq (.draws [(⟨[47,8,8],[47,48,49,50,51,52,53,54,55,56],[47]⟩,oM 47 8 26),(⟨[48,9,9],[47,48,49,50,51,52,53,54,55,56],[48]⟩,oM 48 9 3),(⟨[49,48,9],[47,48,49,50,51,52,53,54,55,56],[49]⟩,oB 49 .sub 3 (tK 48) (iK 1) 3 3),(⟨[50,47,49,8,49],[47,48,49,50,51,52,53,54,55,56],[50]⟩,oI 50 26 47 49),(⟨[51,50,8],[47,48,49,50,51,52,53,54,55,56],[51]⟩,oL 51 3 50 3),(⟨[52,8,8],[47,48,49,50,51,52,53,54,55,56],[52]⟩,oM 52 8 26),(⟨[53,9,9],[47,48,49,50,51,52,53,54,55,56],[53]⟩,oM 53 9 3),(⟨[54,52,53,8,9],[47,48,49,50,51,52,53,54,55,56],[54]⟩,oI 54 26 52 53),(⟨[55,54,8],[47,48,49,50,51,52,53,54,55,56],[55]⟩,oL 55 3 54 3),(⟨[56,51,55,8,8],[47,48,49,50,51,52,53,54,55,56],[56]⟩,oB 56 .gtr 3 (tK 51) (tK 55) 3 4)]) (.cond (tK 56) (.seq (.ops [oX 6 (.assign (.const (.bool false))) 4]) .ret) .skip))) (.ops [oM 45 9 3,oB 46 .add 3 (tK 45) (iK 1) 3 3,oA 9 46 3]))
def j5:SC:= .loop WL
def WM:SC:= .seq (.ops [oB 13 .lss 3 (tK 12) (tK 11) 3 0]) (.seq (.cond (tK 13) .skip (.exit 0)) (.seq (.block 1 (.seq (.ops [oM 14 12 3,oI 15 22 10 12,oL 16 26 15 26,oA 7 14 3,oA 8 16 26]) (.seq (.seq (.ops [oM 17 8 26,oN 18 17 26,oM 19 1 3,oB 20 .neq 3 (tK 18) (tK 19) 3 4,oM 21 20 4,⟨(some 22),(.move (tK 8)),26,(some (some 21,false))⟩,⟨(some 23),(.move (tK 2)),3,(some (some 21,false))⟩,⟨(some 24),(.binOp .sub 3 (tK 23) (iK 1) 3),3,(some (some 21,false))⟩,⟨(some 25),(.call ⟨(.value (.func 107)), #[(tK 22),(iK 0),(tK 24)], #[26,3,3]⟩),4,(some (some 21,false))⟩,⟨(some 26),(.unOp .not 4 (tK 25)),4,(some (some 21,false))⟩,oX 27 (.pick (tK 21) (.const (.bool true)) (tK 26)) 4,oM 28 27 4,⟨(some 29),(.move (tK 7)),3,(some (some 28,false))⟩,⟨(some 30),(.binOp .gtr 3 (tK 29) (iK 0) 3),4,(some (some 28,false))⟩,⟨(some 31),(.move (tK 30)),4,(some (some 28,false))⟩,⟨(some 32),(.move (tK 0)),22,(some (some 31,true))⟩,⟨(some 33),(.move (tK 7)),3,(some (some 31,true))⟩,⟨(some 34),(.binOp .sub 3 (tK 33) (iK 1) 3),3,(some (some 31,true))⟩,⟨(some 35),(.indexAddr 22 (tK 32) (tK 34)),0,(some (some 31,true))⟩,⟨(some 36),(.load 26 (tK 35)),26,(some (some 31,true))⟩,⟨(some 37),(.move (tK 8)),26,(some (some 31,true))⟩,
 ⟨(some 38),(.call ⟨(.value (.func 138)), #[(tK 36),(tK 37)], #[26,26]⟩),3,(some (some 31,true))⟩,⟨(some 39),(.binOp .geq 3 (tK 38) (iK 0) 3),4,(some (some 31,true))⟩,⟨(some 40),(.pick (tK 31) (tK 39) (.const (.bool false))),4,(some (some 28,false))⟩,oX 41 (.pick (tK 28) (.const (.bool true)) (tK 40)) 4]) (.cond (tK 41) (.seq (.ops [oX 6 (.assign (.const (.bool false))) 4]) .ret) .skip)) (.seq (.ops [oX 9 (.assign (iK 1)) 3]) (.block 2 j5))))) (.ops [oB 57 .add 3 (tK 12) (iK 1) 3 3,oM 12 57 3])))
def j6:SC:= .loop WM
def k93:SC:= .seq (.ops [oX 6 (.assign (.const (.bool false))) 4]) (.seq (.seq (.ops [oM 10 0 22,oN 11 10 22,oX 12 (.move (iK 0)) 3]) (.block 0 j6)) (.seq (.ops [oX 6 (.assign (.const (.bool true))) 4]) .ret))
theorem zC:Try.f93.body.map (Ct lends)=some k93:=by kernel_rfl
theorem A9y:DL Try.f93 3=true:=by kernel_rfl
theorem c93{a l:List D}{r:D×List D}(h:D6 Y.env k93 (I6 Aa l.length [ResultVar.tmp 6] r) (entry a l))(ha:a.length=3):Y.call 93 a l=some r:=
 Ag (Y:=Y) rfl Try.func93 (ha▸A9y) zC h
def EB(l:List (List Int))(size:Int)(labels:Int)(Dn:Int)(k:Int)(s:St):Prop:=s.v 0=D.sl 26 (A9 (fun x=>D.sl 3 (A9 (D.int .i64) x)) l)∧s.v 1=D.int .i64 size∧s.v 2=D.int .i64 labels∧s.v 8=D.sl 3 (A9 (D.int .i64) (l.getD Dn.toNat default))∧s.v 9=D.int .i64 k∧s.v 10=D.sl 26 (A9 (fun x=>D.sl 3 (A9 (D.int .i64) x)) l)∧s.v 11=D.int .i64 (l.length:Int)∧s.v 12=D.int .i64 Dn
def DW(l:List (List Int))(size:Int)(labels:Int)(Dn:Int)(r:Unit⊕Unit)(ex:Ex)(s:St):Prop:=match r with
 | .inl q=>ex= .ret∧s.v 6=D.bool false
 | .inr q=>ex= .exit 2∧s.v 0=D.sl 26 (A9 (fun x=>D.sl 3 (A9 (D.int .i64) x)) l)∧s.v 1=D.int .i64 size∧s.v 2=D.int .i64 labels∧s.v 10=D.sl 26 (A9 (fun x=>D.sl 3 (A9 (D.int .i64) x)) l)∧s.v 11=D.int .i64 (l.length:Int)∧s.v 12=D.int .i64 Dn
theorem MO(l:List (List Int))(size:Int)(labels:Int)(Dn:Int){v:Int}{s:St}{r:Unit⊕Unit}(h:I1 l size labels Dn v=some r)(hM:EB l size labels Dn v s):D6 Y.env j5 (DW l size labels Dn r) s:=by
 unfold I1 at h;refine CX (c:=WL) (fun v=>Er l size labels Dn v) (fun v s=>EB l size labels Dn v s) (DW l size labels Dn) ?_ h hM;clear h hM s v r;intro k s o hM h;unfold Er at h;unfold EB at hM;obtain⟨m0,m1,m2,m3,m4,m5,m6,m7⟩:=hM;unfold WL;by_cases e15:k<size
 ·rw [if_pos e15]at h;obtain⟨e16,h⟩:=Bw h;obtain⟨e17,h⟩:=Bw h;by_cases e18:((l.getD Dn.toNat default).getD k.toNat default)<((l.getD Dn.toNat default).getD ((IntKind.i64.wrap (k-1)).toNat) default)
  ·rw [if_pos e18]at h
   obtain rfl:=Option.some.inj h
   simp (maxDischargeDepth:=9) only [↓AB,AC,Ah,↓reduceIte,Nat.reduceEqDiff,Nat.reduceLT,Nat.reduceLeDiff,Nat.reduceAdd,Nat.reduceMul,Nat.reduceMod,Nat.reduceDiv,Nat.reducePow,Nat.reduceSub,Nat.reduceBEq,Int.reduceLE,Int.reduceLT,Int.reduceEq,Int.reduceSub,Int.reduceAdd,Int.reduceToNat,Int.reduceNeg,m0,m1,m2,m3,m4,m5,m6,m7,e15,e16.1,e16.2,e17.1,e17.2,e18,EB,DW,DN,DR,DT]<;>(repeat' apply A7)<;>first|rfl|exact⟨_,rfl⟩|exact⟨_,_,rfl⟩|simp [A9,A8]
  ·rw [if_neg e18]at h
   obtain rfl:=Option.some.inj h
   simp (maxDischargeDepth:=9) only [↓AB,AC,Ah,↓reduceIte,Nat.reduceEqDiff,Nat.reduceLT,Nat.reduceLeDiff,Nat.reduceAdd,Nat.reduceMul,Nat.reduceMod,Nat.reduceDiv,Nat.reducePow,Nat.reduceSub,Nat.reduceBEq,Int.reduceLE,Int.reduceLT,Int.reduceEq,Int.reduceSub,Int.reduceAdd,Int.reduceToNat,Int.reduceNeg,m0,m1,m2,m3,m4,m5,m6,m7,e15,e16.1,e16.2,e17.1,e17.2,e18,EB,DW,DN,DR,DT]<;>(repeat' apply A7)<;>first|rfl|exact⟨_,rfl⟩|exact⟨_,_,rfl⟩|simp [A9,A8]
 ·rw [if_neg e15]at h
  obtain rfl:=Option.some.inj h
  simp (maxDischargeDepth:=9) only [↓AB,AC,Ah,↓reduceIte,Nat.reduceEqDiff,Nat.reduceLT,Nat.reduceLeDiff,Nat.reduceAdd,Nat.reduceMul,Nat.reduceMod,Nat.reduceDiv,Nat.reducePow,Nat.reduceSub,Nat.reduceBEq,Int.reduceLE,Int.reduceLT,Int.reduceEq,Int.reduceSub,Int.reduceAdd,Int.reduceToNat,Int.reduceNeg,m0,m1,m2,m3,m4,m5,m6,m7,e15,EB,DW,DN,DR,DT]<;>(repeat' apply A7)<;>first|rfl|exact⟨_,rfl⟩|exact⟨_,_,rfl⟩|simp [A9,A8]
def CR(l:List (List Int))(size:Int)(labels:Int)(Dn:Int)(s:St):Prop:=s.v 0=D.sl 26 (A9 (fun x=>D.sl 3 (A9 (D.int .i64) x)) l)∧s.v 1=D.int .i64 size∧s.v 2=D.int .i64 labels∧s.v 10=D.sl 26 (A9 (fun x=>D.sl 3 (A9 (D.int .i64) x)) l)∧s.v 11=D.int .i64 (l.length:Int)∧s.v 12=D.int .i64 Dn
def CS(l:List (List Int))(size:Int)(labels:Int)(r:Unit⊕Unit)(ex:Ex)(s:St):Prop:=match r with
 | .inl q=>ex= .ret∧s.v 6=D.bool false
 | .inr q=>ex= .exit 0
theorem R7(l:List (List Int))(size:Int)(labels:Int){v:Int}{s:St}{r:Unit⊕Unit}(h:Js l size labels v=some r)(hM:CR l size labels v s):D6 Y.env j6 (CS l size labels r) s:=by
 unfold Js at h;refine CX (c:=WM) (fun v=>G6 l size labels v) (fun v s=>CR l size labels v s) (CS l size labels) ?_ h hM;clear h hM s v r;intro Dn s o hM h;unfold G6 at h;unfold CR at hM;obtain⟨m0,m1,m2,m3,m4,m5⟩:=hM;unfold WM;by_cases e1:Dn<(l.length:Int)
 ·rw [if_pos e1]at h;obtain⟨e2,h⟩:=Bw h;by_cases e3:((l.getD Dn.toNat default).length:Int)=size
  ·rw [if_pos e3]at h;obtain⟨e4,h⟩:=Bw h;have c5:=Zn (l.getD Dn.toNat default) (0:Int) (IntKind.i64.wrap (labels-1)) e4;by_cases e6:(J2 (l.getD Dn.toNat default) (0:Int) (IntKind.i64.wrap (labels-1)))=true
   ·rw [if_pos e6]at h;by_cases e7:0<Dn
    ·rw [if_pos e7]at h;obtain⟨e8,h⟩:=Bw h;obtain⟨e9,h⟩:=Bw h;obtain⟨e10,h⟩:=Bw h;obtain⟨e11,h⟩:=Bw h;obtain⟨e12,h⟩:=Bw h;have Ig:=WJ (l.getD ((IntKind.i64.wrap (Dn-1)).toNat) default) (l.getD Dn.toNat default) e9 e10 e11 e12;by_cases e14:0≤(FZ (l.getD ((IntKind.i64.wrap (Dn-1)).toNat) default) (l.getD Dn.toNat default))
     ·rw [if_pos e14]at h
      obtain rfl:=Option.some.inj h
      simp (maxDischargeDepth:=9) only [↓AB,AC,Ah,↓reduceIte,Nat.reduceEqDiff,Nat.reduceLT,Nat.reduceLeDiff,Nat.reduceAdd,Nat.reduceMul,Nat.reduceMod,Nat.reduceDiv,Nat.reducePow,Nat.reduceSub,Nat.reduceBEq,Int.reduceLE,Int.reduceLT,Int.reduceEq,Int.reduceSub,Int.reduceAdd,Int.reduceToNat,Int.reduceNeg,m0,m1,m2,m3,m4,m5,e1,e2.1,e2.2,decide_eq_true e3,e4,c5,e6,e7,e8.1,e8.2,e9,decide_eq_true e10,e11,e12,Ig,e14,CR,CS,DN,DR,DT]<;>(repeat' apply A7)<;>first|rfl|exact⟨_,rfl⟩|exact⟨_,_,rfl⟩|simp [A9,A8]
     ·rw [if_neg e14]at h;obtain⟨AO,hl16,h⟩:=BC h;try dsimp only at h
      simp (maxDischargeDepth:=9) only [↓AB,AC,Ah,↓reduceIte,Nat.reduceEqDiff,Nat.reduceLT,Nat.reduceLeDiff,Nat.reduceAdd,Nat.reduceMul,Nat.reduceMod,Nat.reduceDiv,Nat.reducePow,Nat.reduceSub,Nat.reduceBEq,Int.reduceLE,Int.reduceLT,Int.reduceEq,Int.reduceSub,Int.reduceAdd,Int.reduceToNat,Int.reduceNeg,m0,m1,m2,m3,m4,m5,e1,e2.1,e2.2,decide_eq_true e3,e4,c5,e6,e7,e8.1,e8.2,e9,decide_eq_true e10,e11,e12,Ig,e14];refine Bh (MO l size labels Dn hl16 ?_) ?_
      ·simp (maxDischargeDepth:=9) only [↓AB,AC,Ah,↓reduceIte,Nat.reduceEqDiff,Nat.reduceLT,Nat.reduceLeDiff,Nat.reduceAdd,Nat.reduceMul,Nat.reduceMod,Nat.reduceDiv,Nat.reducePow,Nat.reduceSub,Nat.reduceBEq,Int.reduceLE,Int.reduceLT,Int.reduceEq,Int.reduceSub,Int.reduceAdd,Int.reduceToNat,Int.reduceNeg,m0,m1,m2,m3,m4,m5,e1,e2.1,e2.2,decide_eq_true e3,e4,c5,e6,e7,e8.1,e8.2,e9,decide_eq_true e10,e11,e12,Ig,e14,EB]<;>(repeat' apply A7)<;>first|rfl|exact⟨_,rfl⟩|exact⟨_,_,rfl⟩|simp [A9,A8]
      ·intro ex16 s16 hX16;rcases AO with q1000_|q1000_
       ·unfold DW at hX16;dsimp only at hX16 h;obtain⟨rfl,n16_0⟩:=hX16
        obtain rfl:=Option.some.inj h
        simp (maxDischargeDepth:=9) only [↓AB,AC,Ah,↓reduceIte,Nat.reduceEqDiff,Nat.reduceLT,Nat.reduceLeDiff,Nat.reduceAdd,Nat.reduceMul,Nat.reduceMod,Nat.reduceDiv,Nat.reducePow,Nat.reduceSub,Nat.reduceBEq,Int.reduceLE,Int.reduceLT,Int.reduceEq,Int.reduceSub,Int.reduceAdd,Int.reduceToNat,Int.reduceNeg,e1,e2.1,e2.2,decide_eq_true e3,e4,c5,e6,e7,e8.1,e8.2,e9,decide_eq_true e10,e11,e12,Ig,e14,n16_0,CR,CS,DN,DR,DT]<;>(repeat' apply A7)<;>first|rfl|exact⟨_,rfl⟩|exact⟨_,_,rfl⟩|simp [A9,A8]
       ·unfold DW at hX16;dsimp only at hX16 h;obtain⟨rfl,n16_0,n16_1,n16_2,n16_3,n16_4,n16_5⟩:=hX16
        obtain rfl:=Option.some.inj h
        simp (maxDischargeDepth:=9) only [↓AB,AC,Ah,↓reduceIte,Nat.reduceEqDiff,Nat.reduceLT,Nat.reduceLeDiff,Nat.reduceAdd,Nat.reduceMul,Nat.reduceMod,Nat.reduceDiv,Nat.reducePow,Nat.reduceSub,Nat.reduceBEq,Int.reduceLE,Int.reduceLT,Int.reduceEq,Int.reduceSub,Int.reduceAdd,Int.reduceToNat,Int.reduceNeg,e1,e2.1,e2.2,decide_eq_true e3,e4,c5,e6,e7,e8.1,e8.2,e9,decide_eq_true e10,e11,e12,Ig,e14,n16_0,n16_1,n16_2,n16_3,n16_4,n16_5,CR,CS,DN,DR,DT]<;>(repeat' apply A7)<;>first|rfl|exact⟨_,rfl⟩|exact⟨_,_,rfl⟩|simp [A9,A8]
    ·rw [if_neg e7]at h;obtain⟨AO,hl9,h⟩:=BC h;try dsimp only at h
     simp (maxDischargeDepth:=9) only [↓AB,AC,Ah,↓reduceIte,Nat.reduceEqDiff,Nat.reduceLT,Nat.reduceLeDiff,Nat.reduceAdd,Nat.reduceMul,Nat.reduceMod,Nat.reduceDiv,Nat.reducePow,Nat.reduceSub,Nat.reduceBEq,Int.reduceLE,Int.reduceLT,Int.reduceEq,Int.reduceSub,Int.reduceAdd,Int.reduceToNat,Int.reduceNeg,m0,m1,m2,m3,m4,m5,e1,e2.1,e2.2,decide_eq_true e3,e4,c5,e6,e7];refine Bh (MO l size labels Dn hl9 ?_) ?_
     ·simp (maxDischargeDepth:=9) only [↓AB,AC,Ah,↓reduceIte,Nat.reduceEqDiff,Nat.reduceLT,Nat.reduceLeDiff,Nat.reduceAdd,Nat.reduceMul,Nat.reduceMod,Nat.reduceDiv,Nat.reducePow,Nat.reduceSub,Nat.reduceBEq,Int.reduceLE,Int.reduceLT,Int.reduceEq,Int.reduceSub,Int.reduceAdd,Int.reduceToNat,Int.reduceNeg,m0,m1,m2,m3,m4,m5,e1,e2.1,e2.2,decide_eq_true e3,e4,c5,e6,e7,EB]<;>(repeat' apply A7)<;>first|rfl|exact⟨_,rfl⟩|exact⟨_,_,rfl⟩|simp [A9,A8]
     ·intro ex9 s9 hX9;rcases AO with q1000_|q1000_
      ·unfold DW at hX9;dsimp only at hX9 h;obtain⟨rfl,n9_0⟩:=hX9
       obtain rfl:=Option.some.inj h
       simp (maxDischargeDepth:=9) only [↓AB,AC,Ah,↓reduceIte,Nat.reduceEqDiff,Nat.reduceLT,Nat.reduceLeDiff,Nat.reduceAdd,Nat.reduceMul,Nat.reduceMod,Nat.reduceDiv,Nat.reducePow,Nat.reduceSub,Nat.reduceBEq,Int.reduceLE,Int.reduceLT,Int.reduceEq,Int.reduceSub,Int.reduceAdd,Int.reduceToNat,Int.reduceNeg,e1,e2.1,e2.2,decide_eq_true e3,e4,c5,e6,e7,n9_0,CR,CS,DN,DR,DT]<;>(repeat' apply A7)<;>first|rfl|exact⟨_,rfl⟩|exact⟨_,_,rfl⟩|simp [A9,A8]
      ·unfold DW at hX9;dsimp only at hX9 h;obtain⟨rfl,n9_0,n9_1,n9_2,n9_3,n9_4,n9_5⟩:=hX9
       obtain rfl:=Option.some.inj h
       simp (maxDischargeDepth:=9) only [↓AB,AC,Ah,↓reduceIte,Nat.reduceEqDiff,Nat.reduceLT,Nat.reduceLeDiff,Nat.reduceAdd,Nat.reduceMul,Nat.reduceMod,Nat.reduceDiv,Nat.reducePow,Nat.reduceSub,Nat.reduceBEq,Int.reduceLE,Int.reduceLT,Int.reduceEq,Int.reduceSub,Int.reduceAdd,Int.reduceToNat,Int.reduceNeg,e1,e2.1,e2.2,decide_eq_true e3,e4,c5,e6,e7,n9_0,n9_1,n9_2,n9_3,n9_4,n9_5,CR,CS,DN,DR,DT]<;>(repeat' apply A7)<;>first|rfl|exact⟨_,rfl⟩|exact⟨_,_,rfl⟩|simp [A9,A8]
   ·rw [if_neg e6]at h;have e6f:(J2 (l.getD Dn.toNat default) (0:Int) (IntKind.i64.wrap (labels-1)))=false:=Gm.mpr e6
    obtain rfl:=Option.some.inj h
    simp (maxDischargeDepth:=9) only [↓AB,AC,Ah,↓reduceIte,Nat.reduceEqDiff,Nat.reduceLT,Nat.reduceLeDiff,Nat.reduceAdd,Nat.reduceMul,Nat.reduceMod,Nat.reduceDiv,Nat.reducePow,Nat.reduceSub,Nat.reduceBEq,Int.reduceLE,Int.reduceLT,Int.reduceEq,Int.reduceSub,Int.reduceAdd,Int.reduceToNat,Int.reduceNeg,m0,m1,m2,m3,m4,m5,e1,e2.1,e2.2,decide_eq_true e3,e4,c5,e6f,CR,CS,DN,DR,DT]<;>(repeat' apply A7)<;>first|rfl|exact⟨_,rfl⟩|exact⟨_,_,rfl⟩|simp [A9,A8]
  ·rw [if_neg e3]at h
   obtain rfl:=Option.some.inj h
   simp (maxDischargeDepth:=9) only [↓AB,AC,Ah,↓reduceIte,Nat.reduceEqDiff,Nat.reduceLT,Nat.reduceLeDiff,Nat.reduceAdd,Nat.reduceMul,Nat.reduceMod,Nat.reduceDiv,Nat.reducePow,Nat.reduceSub,Nat.reduceBEq,Int.reduceLE,Int.reduceLT,Int.reduceEq,Int.reduceSub,Int.reduceAdd,Int.reduceToNat,Int.reduceNeg,m0,m1,m2,m3,m4,m5,e1,e2.1,e2.2,e3,CR,CS,DN,DR,DT]<;>(repeat' apply A7)<;>first|rfl|exact⟨_,rfl⟩|exact⟨_,_,rfl⟩|simp [A9,A8]
 ·rw [if_neg e1]at h
  obtain rfl:=Option.some.inj h
  simp (maxDischargeDepth:=9) only [↓AB,AC,Ah,↓reduceIte,Nat.reduceEqDiff,Nat.reduceLT,Nat.reduceLeDiff,Nat.reduceAdd,Nat.reduceMul,Nat.reduceMod,Nat.reduceDiv,Nat.reducePow,Nat.reduceSub,Nat.reduceBEq,Int.reduceLE,Int.reduceLT,Int.reduceEq,Int.reduceSub,Int.reduceAdd,Int.reduceToNat,Int.reduceNeg,m0,m1,m2,m3,m4,m5,e1,CR,CS,DN,DR,DT]<;>(repeat' apply A7)<;>first|rfl|exact⟨_,rfl⟩|exact⟨_,_,rfl⟩|simp [A9,A8]
theorem TM(l:List (List Int))(size:Int)(labels:Int){r:Bool}(h:Nj l size labels=some r):Y.call 93 [D.sl 26 (A9 (fun x=>D.sl 3 (A9 (D.int .i64) x)) l),D.int .i64 size,D.int .i64 labels] []=some (D.bool r,[]):=by
 refine c93 ?_ rfl;unfold k93;unfold Nj at h;obtain⟨Dk,hl2,h⟩:=BC h;try dsimp only at h
 simp (maxDischargeDepth:=9) only [↓AB,AC,Ah,↓reduceIte,Nat.reduceEqDiff,Nat.reduceLT,Nat.reduceLeDiff,Nat.reduceAdd,Nat.reduceMul,Nat.reduceMod,Nat.reduceDiv,Nat.reducePow,Nat.reduceSub,Nat.reduceBEq,Int.reduceLE,Int.reduceLT,Int.reduceEq,Int.reduceSub,Int.reduceAdd,Int.reduceToNat,Int.reduceNeg];refine Bh (R7 l size labels hl2 ?_) ?_
 ·simp (maxDischargeDepth:=9) only [↓AB,AC,Ah,↓reduceIte,Nat.reduceEqDiff,Nat.reduceLT,Nat.reduceLeDiff,Nat.reduceAdd,Nat.reduceMul,Nat.reduceMod,Nat.reduceDiv,Nat.reducePow,Nat.reduceSub,Nat.reduceBEq,Int.reduceLE,Int.reduceLT,Int.reduceEq,Int.reduceSub,Int.reduceAdd,Int.reduceToNat,Int.reduceNeg,CR]<;>(repeat' apply A7)<;>first|rfl|exact⟨_,rfl⟩|exact⟨_,_,rfl⟩|simp [A9,A8]
 ·intro ex2 s2 hX2;rcases Dk with q1001_|q1001_
  ·unfold CS at hX2;dsimp only at hX2 h;obtain⟨rfl,n2_0⟩:=hX2
   obtain rfl:=Option.some.inj h
   simp (maxDischargeDepth:=9) only [↓AB,AC,Ah,↓reduceIte,Nat.reduceEqDiff,Nat.reduceLT,Nat.reduceLeDiff,Nat.reduceAdd,Nat.reduceMul,Nat.reduceMod,Nat.reduceDiv,Nat.reducePow,Nat.reduceSub,Nat.reduceBEq,Int.reduceLE,Int.reduceLT,Int.reduceEq,Int.reduceSub,Int.reduceAdd,Int.reduceToNat,Int.reduceNeg,n2_0]<;>(repeat' apply A7)<;>first|rfl|exact⟨_,rfl⟩|exact⟨_,_,rfl⟩|simp [A9,A8]
  ·unfold CS at hX2;dsimp only at hX2 h
   obtain rfl:=hX2
   obtain rfl:=Option.some.inj h
   simp (maxDischargeDepth:=9) only [↓AB,AC,Ah,↓reduceIte,Nat.reduceEqDiff,Nat.reduceLT,Nat.reduceLeDiff,Nat.reduceAdd,Nat.reduceMul,Nat.reduceMod,Nat.reduceDiv,Nat.reducePow,Nat.reduceSub,Nat.reduceBEq,Int.reduceLE,Int.reduceLT,Int.reduceEq,Int.reduceSub,Int.reduceAdd,Int.reduceToNat,Int.reduceNeg]<;>(repeat' apply A7)<;>first|rfl|exact⟨_,rfl⟩|exact⟨_,_,rfl⟩|simp [A9,A8]
theorem UM(l:List (List Int))(size labels t:Int)(x:List Int)(hx:l.getD t.toNat default=x)(hs:(x.length:Int)=size)(hb:x.length<1099511627776):
  I1 l size labels t 1=some (if Eu x=true then .inr ()else .inl ()):=by
 unfold I1;rcases Nat.eq_zero_or_pos x.length with h0|h0
 ·rw [Dy (r:=Sum.inr ())]
  ·simp [Eu,h0]
  ·simp only [Er];rw [if_neg (by omega)]
 ·have key:=JO (fun v=>Er l size labels t v) (fun j=>(j:Int)+1) (x.length-1) (fun i=>decide (x.getD i default≤x.getD (i+1) default)) (.inl ()) (.inr ()) ?_ ?_
  ·simp only [Jo,Int.zero_add]at key;rw [key];rfl
  ·intro i hi;simp only [Er];rw [hx,if_pos (by omega),IK _ (by omega),IK _ (by omega),CU (by omega),CU (by omega),show((i:Int)+1).toNat=i+1 by omega,show((i:Int)+1-1).toNat=i by omega]
   simp only [decide_eq_true_eq];by_cases hq:x.getD (i+1) default<x.getD i default
   ·rw [if_pos hq,if_neg (by omega)]
   ·rw [if_neg hq,if_pos (by omega)];rfl
  ·simp only [Er];rw [if_neg (by omega)]
theorem WN(l:List (List Int))(size labels:Int)(h:BM l)(hl:1≤labels∧labels≤8):Nj l size labels=some (Hd l size labels):=by
 have h1:=h.1;unfold Nj Js;have key:=Y8 (fun v=>G6 l size labels v) (fun i=>(i:Int)) l.length (Kt l size labels) (.inl ()) (.inr ()) ?_ ?_
 ·simp only [Jo]at key;rw [key];unfold Hd
  cases (List.range l.length).all (Kt l size labels)<;>rfl
 ·intro i hi hp;simp only [G6];rw [if_pos (GJ hi),CU (Fh hi),Ny i (by omega),IK (labels-1) (by omega)]
  have hs:=h.getD i;have hs1:=h.getD (i-1);rw [KP,CU hs];by_cases q1:((l.getD i default).length:Int)=size
  ·rw [if_pos q1];have inner:=UM l size labels (i:Int) (l.getD i default) (by rw [KP]) q1 hs
   rw [inner];have hprev:=hp (i-1);unfold Kt at hprev ⊢;generalize l.getD i default=x at*
   cases q3:J2 x 0 (labels-1)with
   |false=>simp
   |true=>
    rw [if_pos rfl];by_cases q4:i=0
    ·rw [if_neg (by omega)]
     cases q2:Eu x<;>simp [q1,q4]
    ·rw [if_pos (by omega),IK _ (by omega),CU (by omega),show((i:Int)-1).toNat=i-1 by omega,CU hs1]
     have hprev:=hprev (by omega)
     generalize l.getD (i-1) default=y at*;simp only [Hm,decide_eq_true_eq]at hprev;rw [CU (by omega),CU (Ux hprev.1.2 (by omega) (by omega)),CU (Ux q3 (by omega) (by omega))]
     by_cases q5:0≤FZ y x
     ·rw [if_pos q5,if_neg (by simp;intro _ _;exact⟨q4,q5⟩)]
     ·rw [if_neg q5];have q6:FZ y x<0:=by omega
      cases q2:Eu x<;>simp [q1,q6]
  ·have e:=decide_eq_false q1;unfold Kt;rw [if_neg q1,if_neg (by rw [e];simp)]
 ·intro _;simp only [G6];rw [if_neg (CY _)]
theorem PN(l:List (List Int))(size:Int)(labels:Int)(h0:BM l)(h1:1≤labels∧labels≤8):Y.call 93 [D.sl 26 (A9 (fun x=>D.sl 3 (A9 (D.int .i64) x)) l),D.int .i64 size,D.int .i64 labels] []=some (D.bool (Hd l size labels),[]):=TM l size labels (WN l size labels h0 h1)
noncomputable def Kl(AR:Int)(AZ:Int)(Ac:List (List Int))(Ae:List (List Int)):Option (Bool):= if(NI AR (1:Int) (8:Int))=true then if(NI AZ (1:Int) (4:Int))=true then ck (BM Ac)<| ck (1≤AR∧AR≤8)<| if(Hd Ac AZ AR)=true then ck (BM Ae)<| some (Hd Ae (2:Int) AR) else some false else some false else some false
def k52:SC:= .seq (.ops [oX 1 (.box 29 (tK 0)) 0,oX 2 (.assign (.const (.bool false))) 4]) (.seq (.ops [oF 3 29 1 0,oL 4 3 3 3,oC 5 97 [(tK 4),(iK 1),(iK 8)] [3,3,3] 4,oM 6 5 4,⟨(some 7),(.fieldAddr 29 (tK 1) 1),0,(some (some 6,true))⟩,⟨(some 8),(.load 3 (tK 7)),3,(some (some 6,true))⟩,⟨(some 9),(.call ⟨(.value (.func 97)), #[(tK 8),(iK 1),(iK 4)], #[3,3,3]⟩),4,(some (some 6,true))⟩,oX 10 (.pick (tK 6) (tK 9) (.const (.bool false))) 4,oM 11 10 4,⟨(some 12),(.fieldAddr 29 (tK 1) 2),0,(some (some 11,true))⟩,⟨(some 13),(.load 22 (tK 12)),22,(some (some 11,true))⟩,⟨(some 14),(.fieldAddr 29 (tK 1) 1),0,(some (some 11,true))⟩,⟨(some 15),(.load 3 (tK 14)),3,(some (some 11,true))⟩,⟨(some 16),(.fieldAddr 29 (tK 1) 0),0,(some (some 11,true))⟩,⟨(some 17),(.load 3 (tK 16)),3,(some (some 11,true))⟩,⟨(some 18),(.call ⟨(.value (.func 98)), #[(tK 13),(tK 15),(tK 17)], #[22,3,3]⟩),4,(some (some 11,true))⟩,oX 19 (.pick (tK 11) (tK 18) (.const (.bool false))) 4,oM 20 19 4,⟨(some 21),(.fieldAddr 29 (tK 1) 3),0,(some (some 20,true))⟩,⟨(some 22),(.load 22 (tK 21)),22,(some (some 20,true))⟩,⟨(some 23),(.fieldAddr 29 (tK 1) 0),0,(some (some 20,true))⟩,⟨(some 24),(.load 3 (tK 23)),3,(some (some 20,true))⟩,
 ⟨(some 25),(.call ⟨(.value (.func 98)), #[(tK 22),(iK 2),(tK 24)], #[22,3,3]⟩),4,(some (some 20,true))⟩,oX 26 (.pick (tK 20) (tK 25) (.const (.bool false))) 4,oA 2 26 4]) .ret)
theorem zD:Try.f52.body.map (Ct lends)=some k52:=by kernel_rfl
theorem AA0:DL Try.f52 1=true:=by kernel_rfl
theorem c52{a l:List D}{r:D×List D}(h:D6 Y.env k52 (I6 Aa l.length [ResultVar.tmp 2] r) (entry a l))(ha:a.length=1):Y.call 52 a l=some r:=
 Ag (Y:=Y) rfl Try.func52 (ha▸AA0) zD h
theorem QK(AR:Int)(AZ:Int)(Ac:List (List Int))(Ae:List (List Int)){r:Bool}(h:Kl AR AZ Ac Ae=some r):Y.call 52 [D.agg [D.int .i64 AR,D.int .i64 AZ,D.sl 26 (A9 (fun x=>D.sl 3 (A9 (D.int .i64) x)) Ac),D.sl 26 (A9 (fun x=>D.sl 3 (A9 (D.int .i64) x)) Ae)]] []=some (D.bool r,[]):=by
 refine c52 ?_ rfl;unfold k52;unfold Kl at h;have c1:=NJ AR (1:Int) (8:Int);by_cases e2:(NI AR (1:Int) (8:Int))=true
 ·rw [if_pos e2]at h;have c3:=NJ AZ (1:Int) (4:Int);by_cases e4:(NI AZ (1:Int) (4:Int))=true
  ·rw [if_pos e4]at h;obtain⟨e5,h⟩:=Bw h;obtain⟨e6,h⟩:=Bw h;have c7:=JD Ac AZ AR e5 e6;by_cases e8:(Hd Ac AZ AR)=true
   ·rw [if_pos e8]at h;obtain⟨e9,h⟩:=Bw h;have df:=JD Ae (2:Int) AR e9 e6
    obtain rfl:=Option.some.inj h
    simp (maxDischargeDepth:=9) only [↓AB,AC,Ah,↓reduceIte,Nat.reduceEqDiff,Nat.reduceLT,Nat.reduceLeDiff,Nat.reduceAdd,Nat.reduceMul,Nat.reduceMod,Nat.reduceDiv,Nat.reducePow,Nat.reduceSub,Nat.reduceBEq,Int.reduceLE,Int.reduceLT,Int.reduceEq,Int.reduceSub,Int.reduceAdd,Int.reduceToNat,Int.reduceNeg,c1,e2,c3,e4,e5,e6.1,e6.2,c7,e8,e9,df]<;>(repeat' apply A7)<;>first|rfl|exact⟨_,rfl⟩|exact⟨_,_,rfl⟩|simp [A9,A8]
   ·rw [if_neg e8]at h;have e8f:(Hd Ac AZ AR)=false:=Gm.mpr e8
    obtain rfl:=Option.some.inj h
    simp (maxDischargeDepth:=9) only [↓AB,AC,Ah,↓reduceIte,Nat.reduceEqDiff,Nat.reduceLT,Nat.reduceLeDiff,Nat.reduceAdd,Nat.reduceMul,Nat.reduceMod,Nat.reduceDiv,Nat.reducePow,Nat.reduceSub,Nat.reduceBEq,Int.reduceLE,Int.reduceLT,Int.reduceEq,Int.reduceSub,Int.reduceAdd,Int.reduceToNat,Int.reduceNeg,c1,e2,c3,e4,e5,e6.1,e6.2,c7,e8f]<;>(repeat' apply A7)<;>first|rfl|exact⟨_,rfl⟩|exact⟨_,_,rfl⟩|simp [A9,A8]
  ·rw [if_neg e4]at h;have e4f:(NI AZ (1:Int) (4:Int))=false:=Gm.mpr e4
   obtain rfl:=Option.some.inj h
   simp (maxDischargeDepth:=9) only [↓AB,AC,Ah,↓reduceIte,Nat.reduceEqDiff,Nat.reduceLT,Nat.reduceLeDiff,Nat.reduceAdd,Nat.reduceMul,Nat.reduceMod,Nat.reduceDiv,Nat.reducePow,Nat.reduceSub,Nat.reduceBEq,Int.reduceLE,Int.reduceLT,Int.reduceEq,Int.reduceSub,Int.reduceAdd,Int.reduceToNat,Int.reduceNeg,c1,e2,c3,e4f]<;>(repeat' apply A7)<;>first|rfl|exact⟨_,rfl⟩|exact⟨_,_,rfl⟩|simp [A9,A8]
 ·rw [if_neg e2]at h;have e2f:(NI AR (1:Int) (8:Int))=false:=Gm.mpr e2
  obtain rfl:=Option.some.inj h
  simp (maxDischargeDepth:=9) only [↓AB,AC,Ah,↓reduceIte,Nat.reduceEqDiff,Nat.reduceLT,Nat.reduceLeDiff,Nat.reduceAdd,Nat.reduceMul,Nat.reduceMod,Nat.reduceDiv,Nat.reducePow,Nat.reduceSub,Nat.reduceBEq,Int.reduceLE,Int.reduceLT,Int.reduceEq,Int.reduceSub,Int.reduceAdd,Int.reduceToNat,Int.reduceNeg,c1,e2f]<;>(repeat' apply A7)<;>first|rfl|exact⟨_,rfl⟩|exact⟨_,_,rfl⟩|simp [A9,A8]
noncomputable def PO(AR:Int)(AZ:Int)(Ac:List (List Int))(Ae:List (List Int)):Option (Bool):= if(NI AR (1:Int) (8:Int))=true then if(NI AZ (1:Int) (4:Int))=true then ck (BM Ac)<| ck (1≤AR∧AR≤8)<| if(Hd Ac AZ AR)=true then ck (BM Ae)<| some (Hd Ae (2:Int) AR) else some false else some false else some false
def k50:SC:= .seq (.ops [oX 1 (.box 29 (tK 0)) 0,oX 2 (.assign (.const (.bool false))) 4]) (.seq (.ops [oF 3 29 1 0,oL 4 3 3 3,oC 5 92 [(tK 4),(iK 1),(iK 8)] [3,3,3] 4,oM 6 5 4,⟨(some 7),(.fieldAddr 29 (tK 1) 1),0,(some (some 6,true))⟩,⟨(some 8),(.load 3 (tK 7)),3,(some (some 6,true))⟩,⟨(some 9),(.call ⟨(.value (.func 92)), #[(tK 8),(iK 1),(iK 4)], #[3,3,3]⟩),4,(some (some 6,true))⟩,oX 10 (.pick (tK 6) (tK 9) (.const (.bool false))) 4,oM 11 10 4,⟨(some 12),(.fieldAddr 29 (tK 1) 2),0,(some (some 11,true))⟩,⟨(some 13),(.load 22 (tK 12)),22,(some (some 11,true))⟩,⟨(some 14),(.fieldAddr 29 (tK 1) 1),0,(some (some 11,true))⟩,⟨(some 15),(.load 3 (tK 14)),3,(some (some 11,true))⟩,⟨(some 16),(.fieldAddr 29 (tK 1) 0),0,(some (some 11,true))⟩,⟨(some 17),(.load 3 (tK 16)),3,(some (some 11,true))⟩,⟨(some 18),(.call ⟨(.value (.func 93)), #[(tK 13),(tK 15),(tK 17)], #[22,3,3]⟩),4,(some (some 11,true))⟩,oX 19 (.pick (tK 11) (tK 18) (.const (.bool false))) 4,oM 20 19 4,⟨(some 21),(.fieldAddr 29 (tK 1) 3),0,(some (some 20,true))⟩,⟨(some 22),(.load 22 (tK 21)),22,(some (some 20,true))⟩,⟨(some 23),(.fieldAddr 29 (tK 1) 0),0,(some (some 20,true))⟩,⟨(some 24),(.load 3 (tK 23)),3,(some (some 20,true))⟩,
 ⟨(some 25),(.call ⟨(.value (.func 93)), #[(tK 22),(iK 2),(tK 24)], #[22,3,3]⟩),4,(some (some 20,true))⟩,oX 26 (.pick (tK 20) (tK 25) (.const (.bool false))) 4,oA 2 26 4]) .ret)
theorem zF:Try.f50.body.map (Ct lends)=some k50:=by kernel_rfl
theorem AA2:DL Try.f50 1=true:=by kernel_rfl
theorem c50{a l:List D}{r:D×List D}(h:D6 Y.env k50 (I6 Aa l.length [ResultVar.tmp 2] r) (entry a l))(ha:a.length=1):Y.call 50 a l=some r:=
 Ag (Y:=Y) rfl Try.func50 (ha▸AA2) zF h
theorem UN(AR:Int)(AZ:Int)(Ac:List (List Int))(Ae:List (List Int)){r:Bool}(h:PO AR AZ Ac Ae=some r):Y.call 50 [D.agg [D.int .i64 AR,D.int .i64 AZ,D.sl 26 (A9 (fun x=>D.sl 3 (A9 (D.int .i64) x)) Ac),D.sl 26 (A9 (fun x=>D.sl 3 (A9 (D.int .i64) x)) Ae)]] []=some (D.bool r,[]):=by
 refine c50 ?_ rfl;unfold k50;unfold PO at h;have c1:=QG AR (1:Int) (8:Int);by_cases e2:(NI AR (1:Int) (8:Int))=true
 ·rw [if_pos e2]at h;have c3:=QG AZ (1:Int) (4:Int);by_cases e4:(NI AZ (1:Int) (4:Int))=true
  ·rw [if_pos e4]at h;obtain⟨e5,h⟩:=Bw h;obtain⟨e6,h⟩:=Bw h;have c7:=PN Ac AZ AR e5 e6;by_cases e8:(Hd Ac AZ AR)=true
   ·rw [if_pos e8]at h;obtain⟨e9,h⟩:=Bw h;have df:=PN Ae (2:Int) AR e9 e6
    obtain rfl:=Option.some.inj h
    simp (maxDischargeDepth:=9) only [↓AB,AC,Ah,↓reduceIte,Nat.reduceEqDiff,Nat.reduceLT,Nat.reduceLeDiff,Nat.reduceAdd,Nat.reduceMul,Nat.reduceMod,Nat.reduceDiv,Nat.reducePow,Nat.reduceSub,Nat.reduceBEq,Int.reduceLE,Int.reduceLT,Int.reduceEq,Int.reduceSub,Int.reduceAdd,Int.reduceToNat,Int.reduceNeg,c1,e2,c3,e4,e5,e6.1,e6.2,c7,e8,e9,df]<;>(repeat' apply A7)<;>first|rfl|exact⟨_,rfl⟩|exact⟨_,_,rfl⟩|simp [A9,A8]
   ·rw [if_neg e8]at h;have e8f:(Hd Ac AZ AR)=false:=Gm.mpr e8
    obtain rfl:=Option.some.inj h
    simp (maxDischargeDepth:=9) only [↓AB,AC,Ah,↓reduceIte,Nat.reduceEqDiff,Nat.reduceLT,Nat.reduceLeDiff,Nat.reduceAdd,Nat.reduceMul,Nat.reduceMod,Nat.reduceDiv,Nat.reducePow,Nat.reduceSub,Nat.reduceBEq,Int.reduceLE,Int.reduceLT,Int.reduceEq,Int.reduceSub,Int.reduceAdd,Int.reduceToNat,Int.reduceNeg,c1,e2,c3,e4,e5,e6.1,e6.2,c7,e8f]<;>(repeat' apply A7)<;>first|rfl|exact⟨_,rfl⟩|exact⟨_,_,rfl⟩|simp [A9,A8]
  ·rw [if_neg e4]at h;have e4f:(NI AZ (1:Int) (4:Int))=false:=Gm.mpr e4
   obtain rfl:=Option.some.inj h
   simp (maxDischargeDepth:=9) only [↓AB,AC,Ah,↓reduceIte,Nat.reduceEqDiff,Nat.reduceLT,Nat.reduceLeDiff,Nat.reduceAdd,Nat.reduceMul,Nat.reduceMod,Nat.reduceDiv,Nat.reducePow,Nat.reduceSub,Nat.reduceBEq,Int.reduceLE,Int.reduceLT,Int.reduceEq,Int.reduceSub,Int.reduceAdd,Int.reduceToNat,Int.reduceNeg,c1,e2,c3,e4f]<;>(repeat' apply A7)<;>first|rfl|exact⟨_,rfl⟩|exact⟨_,_,rfl⟩|simp [A9,A8]
 ·rw [if_neg e2]at h;have e2f:(NI AR (1:Int) (8:Int))=false:=Gm.mpr e2
  obtain rfl:=Option.some.inj h
  simp (maxDischargeDepth:=9) only [↓AB,AC,Ah,↓reduceIte,Nat.reduceEqDiff,Nat.reduceLT,Nat.reduceLeDiff,Nat.reduceAdd,Nat.reduceMul,Nat.reduceMod,Nat.reduceDiv,Nat.reducePow,Nat.reduceSub,Nat.reduceBEq,Int.reduceLE,Int.reduceLT,Int.reduceEq,Int.reduceSub,Int.reduceAdd,Int.reduceToNat,Int.reduceNeg,c1,e2f]<;>(repeat' apply A7)<;>first|rfl|exact⟨_,rfl⟩|exact⟨_,_,rfl⟩|simp [A9,A8]
theorem TN(a b:Int)(n e:List (List Int))(hn:BM n)(he:BM e):Kl a b n e=some (F4 a b n e):=by
 unfold Kl F4;by_cases h1:NI a 1 8=true
 ·have h1':=Kj.1 h1;by_cases h2:NI b 1 4=true
  ·rw [if_pos h1,if_pos h2,CU hn,CU h1',CU he]
   cases h3:Hd n b a<;>simp [h1,h2]
  ·rw [if_pos h1,if_neg h2];simp [h2]
 ·rw [if_neg h1];simp [h1]
theorem YN(a b:Int)(n e:List (List Int))(hn:BM n)(he:BM e):PO a b n e=some (F4 a b n e):=by
 unfold PO F4;by_cases h1:NI a 1 8=true
 ·have h1':=Kj.1 h1;by_cases h2:NI b 1 4=true
  ·rw [if_pos h1,if_pos h2,CU hn,CU h1',CU he]
   cases h3:Hd n b a<;>simp [h1,h2]
  ·rw [if_pos h1,if_neg h2];simp [h2]
 ·rw [if_neg h1];simp [h1]
theorem NL(AR:Int)(AZ:Int)(Ac:List (List Int))(Ae:List (List Int))(h0:BM Ac)(h1:BM Ae):Y.call 52 [D.agg [D.int .i64 AR,D.int .i64 AZ,D.sl 26 (A9 (fun x=>D.sl 3 (A9 (D.int .i64) x)) Ac),D.sl 26 (A9 (fun x=>D.sl 3 (A9 (D.int .i64) x)) Ae)]] []=some (D.bool (F4 AR AZ Ac Ae),[]):=QK AR AZ Ac Ae (TN AR AZ Ac Ae h0 h1)
theorem Qj(AR:Int)(AZ:Int)(Ac:List (List Int))(Ae:List (List Int))(h0:BM Ac)(h1:BM Ae):Y.call 50 [D.agg [D.int .i64 AR,D.int .i64 AZ,D.sl 26 (A9 (fun x=>D.sl 3 (A9 (D.int .i64) x)) Ac),D.sl 26 (A9 (fun x=>D.sl 3 (A9 (D.int .i64) x)) Ae)]] []=some (D.bool (F4 AR AZ Ac Ae),[]):=UN AR AZ Ac Ae (YN AR AZ Ac Ae h0 h1)
end Go.Proofs.Ytclkfhhdikfcpaa
