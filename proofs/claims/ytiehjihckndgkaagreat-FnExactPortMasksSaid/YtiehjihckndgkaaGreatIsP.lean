/- When lists are a problem, as plain functions. Conditions: the lists are short. -/
import Derived.Test.YtiehjihckndgkaaGreatL6
import Derived.Test.YtiehjihckndgkaaGreatPB
namespace Go.Proofs.YtiehjihckndgkaaGreat
open Go Dv
set_option linter.unusedSimpArgs false
set_option linter.unusedVariables false
set_option maxRecDepth 100000
set_option maxHeartbeats 4000000
def KL(n lo hi:Int):Bool:=decide (lo≤n∧n≤hi)
theorem Gb{n lo hi:Int}:KL n lo hi=true↔lo≤n∧n≤hi:=by simp [KL]
noncomputable def TA(n_:Int)(low:Int)(high:Int):Option (Bool):= if low≤n_ then some (decide (n_≤high)) else some false
def k64:SC:= .seq (.ops [oX 6 (.assign (.const (.bool false))) 4]) (.seq (.ops [oM 7 1 3,oM 8 0 3,oB 9 .leq 3 (tK 7) (tK 8) 3 4,oM 10 9 4,⟨(some 11),(.move (tK 0)),3,(some (some 10,true))⟩,⟨(some 12),(.move (tK 2)),3,(some (some 10,true))⟩,⟨(some 13),(.binOp .leq 3 (tK 11) (tK 12) 3),4,(some (some 10,true))⟩,oX 14 (.pick (tK 10) (tK 13) (.const (.bool false))) 4,oA 6 14 4]) .ret)
theorem A4e:Tryz.f64.body.map (Bf lends)=some k64:=by kernel_rfl
theorem AGp:Bz Tryz.f64 3=true:=by kernel_rfl
theorem c64{a l:List D}{r:D×List D}(h:CF Y.env k64 (ES Ae l.length [ResultVar.tmp 6] r) (entry a l))(ha:a.length=3):Y.call 64 a l=some r:=
 Ab (Y:=Y) rfl Tryz.func64 (ha▸AGp) A4e h
theorem ZF(n_:Int)(low:Int)(high:Int){r:Bool}(h:TA n_ low high=some r):Y.call 64 [D.int .i64 n_,D.int .i64 low,D.int .i64 high] []=some (D.bool r,[]):=by
 refine c64 ?_ rfl;unfold k64;unfold TA at h;rcases iS h with⟨e1,h⟩|⟨e1,h⟩
 ·obtain rfl:=Option.some.inj h
  simp (maxDischargeDepth:=9) only [↓AP,AQ,↓reduceIte,Nat.reduceEqDiff,Nat.reduceLT,e1]
 ·obtain rfl:=Option.some.inj h
  simp (maxDischargeDepth:=9) only [↓AP,AQ,↓reduceIte,Nat.reduceEqDiff,Nat.reduceLT,e1]
noncomputable def cB(n_:Int)(lo:Int)(hi:Int):Option (Bool):= if lo≤n_ then some (decide (n_≤hi)) else some false
def k82:SC:= .seq (.ops [oX 6 (.assign (.const (.bool false))) 4]) (.seq (.ops [oM 7 0 3,oM 8 1 3,oB 9 .geq 3 (tK 7) (tK 8) 3 4,oM 10 9 4,⟨(some 11),(.move (tK 0)),3,(some (some 10,true))⟩,⟨(some 12),(.move (tK 2)),3,(some (some 10,true))⟩,⟨(some 13),(.binOp .leq 3 (tK 11) (tK 12) 3),4,(some (some 10,true))⟩,oX 14 (.pick (tK 10) (tK 13) (.const (.bool false))) 4,oA 6 14 4]) .ret)
theorem A4f:Tryz.f82.body.map (Bf lends)=some k82:=by kernel_rfl
theorem AGr:Bz Tryz.f82 3=true:=by kernel_rfl
theorem c82{a l:List D}{r:D×List D}(h:CF Y.env k82 (ES Ae l.length [ResultVar.tmp 6] r) (entry a l))(ha:a.length=3):Y.call 82 a l=some r:=
 Ab (Y:=Y) rfl Tryz.func82 (ha▸AGr) A4f h
theorem jH(n_:Int)(lo:Int)(hi:Int){r:Bool}(h:cB n_ lo hi=some r):Y.call 82 [D.int .i64 n_,D.int .i64 lo,D.int .i64 hi] []=some (D.bool r,[]):=by
 refine c82 ?_ rfl;unfold k82;unfold cB at h;rcases iS h with⟨e1,h⟩|⟨e1,h⟩
 ·obtain rfl:=Option.some.inj h
  simp (maxDischargeDepth:=9) only [↓AP,AQ,↓reduceIte,Nat.reduceEqDiff,Nat.reduceLT,e1]
 ·obtain rfl:=Option.some.inj h
  simp (maxDischargeDepth:=9) only [↓AP,AQ,↓reduceIte,Nat.reduceEqDiff,Nat.reduceLT,e1]
theorem jI(n lo hi:Int):TA n lo hi=some (KL n lo hi):=by unfold TA KL;by_cases h1:lo≤n<;>by_cases h2:n≤hi<;>simp [h1,h2]
theorem ql(n lo hi:Int):cB n lo hi=some (KL n lo hi):=by unfold cB KL;by_cases h1:lo≤n<;>by_cases h2:n≤hi<;>simp [h1,h2]
theorem JN(n_:Int)(low:Int)(high:Int):Y.call 64 [D.int .i64 n_,D.int .i64 low,D.int .i64 high] []=some (D.bool (KL n_ low high),[]):=ZF n_ low high (jI n_ low high)
theorem LV(n_:Int)(lo:Int)(hi:Int):Y.call 82 [D.int .i64 n_,D.int .i64 lo,D.int .i64 hi] []=some (D.bool (KL n_ lo hi),[]):=jH n_ lo hi (ql n_ lo hi)
noncomputable def Ji(l:List Int)(lo:Int)(hi:Int)(Cb:Int):Option ((Int)⊕(Unit⊕Unit)):= if Cb<(l.length:Int)then ck (0≤Cb∧Cb.toNat<l.length)<| if(KL (l.getD Cb.toNat default) lo hi)=true then some (Sum.inl (IntKind.i64.wrap (Cb+1))) else some (Sum.inr (Sum.inl ())) else some (Sum.inr (Sum.inr ()))
noncomputable def PL(l:List Int)(lo:Int)(hi:Int)(v:Int):Option (Unit⊕Unit):=I4 (fun v=>Ji l lo hi v) v
noncomputable def Vy(l:List Int)(lo:Int)(hi:Int):Option (Bool):=
 (PL l lo hi 0).bind fun AY=>
 match AY with
 | .inl q1000_=>
  some false
 | .inr q1000_=>
  some true
def cK:SC:= .seq (.ops [oB 12 .lss 3 (tK 11) (tK 10) 3 0]) (.seq (.cond (tK 12) .skip (.exit 0)) (.seq (.block 1 (.seq (.ops [oI 13 26 9 11,oL 14 3 13 3,oA 8 14 3]) (.seq (.ops [oM 15 8 3,oM 16 1 3,oM 17 2 3,oC 18 82 [(tK 15),(tK 16),(tK 17)] [3,3,3] 4,oX 19 (.unOp .not 4 (tK 18)) 4]) (.cond (tK 19) (.seq (.ops [oX 6 (.assign (.const (.bool false))) 4]) .ret) .skip)))) (.ops [oB 20 .add 3 (tK 11) (iK 1) 3 3,oM 11 20 3])))
def vW:SC:= .loop cK
def k59:SC:= .seq (.ops [oX 6 (.assign (.const (.bool false))) 4]) (.seq (.seq (.ops [oM 9 0 26,oN 10 9 26,oX 11 (.move (iK 0)) 3]) (.block 0 vW)) (.seq (.ops [oX 6 (.assign (.const (.bool true))) 4]) .ret))
theorem A4g:Tryz.f59.body.map (Bf lends)=some k59:=by kernel_rfl
theorem AGt:Bz Tryz.f59 3=true:=by kernel_rfl
theorem c59{a l:List D}{r:D×List D}(h:CF Y.env k59 (ES Ae l.length [ResultVar.tmp 6] r) (entry a l))(ha:a.length=3):Y.call 59 a l=some r:=
 Ab (Y:=Y) rfl Tryz.func59 (ha▸AGt) A4g h
def IA(l:List Int)(lo:Int)(hi:Int)(Cb:Int)(s:St):Prop:=s.v 1=D.int .i64 lo∧s.v 2=D.int .i64 hi∧s.v 9=D.sl 3 (AL (D.int .i64) l)∧s.v 10=D.int .i64 (l.length:Int)∧s.v 11=D.int .i64 Cb
def Jj(l:List Int)(lo:Int)(hi:Int)(r:Unit⊕Unit)(ex:Ex)(s:St):Prop:=match r with
 | .inl q=>ex= .ret∧s.v 6=D.bool false
 | .inr q=>ex= .exit 0
theorem ZG(l:List Int)(lo:Int)(hi:Int){v:Int}{s:St}{r:Unit⊕Unit}(h:PL l lo hi v=some r)(hM:IA l lo hi v s):CF Y.env vW (Jj l lo hi r) s:=by
 unfold PL at h;refine BN (c:=cK) (fun v=>Ji l lo hi v) (fun v s=>IA l lo hi v s) (Jj l lo hi) ?_ h hM;clear h hM s v r;intro Cb s o hM h;unfold Ji at h;unfold IA at hM;obtain⟨m0,m1,m2,m3,m4⟩:=hM;unfold cK;rcases iS h with⟨e1,h⟩|⟨e1,h⟩
 ·obtain⟨e2,h⟩:=FK h;have c3:=LV (l.getD Cb.toNat default) lo hi;rcases iS h with⟨e4,h⟩|⟨e4,h⟩
  ·obtain rfl:=Option.some.inj h
   simp (maxDischargeDepth:=9) only [↓AP,AQ,↓reduceIte,Nat.reduceEqDiff,Nat.reduceLT,Nat.reduceAdd,m0,m1,m2,m3,m4,e1,e2.1,e2.2,c3,e4,IA,GZ]
  ·have e4f:(KL (l.getD Cb.toNat default) lo hi)=false:=Fx.mpr e4
   obtain rfl:=Option.some.inj h
   simp (maxDischargeDepth:=9) only [↓AP,AQ,↓reduceIte,Nat.reduceEqDiff,Nat.reduceLT,Nat.reduceAdd,m0,m1,m2,m3,m4,e1,e2.1,e2.2,c3,e4f,IA,Jj,MP]
 ·obtain rfl:=Option.some.inj h
  simp (maxDischargeDepth:=9) only [↓AP,AQ,↓reduceIte,Nat.reduceLT,m3,m4,e1,IA,Jj,KW]
theorem cO(l:List Int)(lo:Int)(hi:Int){r:Bool}(h:Vy l lo hi=some r):Y.call 59 [D.sl 3 (AL (D.int .i64) l),D.int .i64 lo,D.int .i64 hi] []=some (D.bool r,[]):=by
 refine c59 ?_ rfl;unfold k59;unfold Vy at h;obtain⟨AY,hl2,h⟩:=Ag h;try dsimp only at h
 simp (maxDischargeDepth:=9) only [↓AP,AQ,↓reduceIte,Nat.reduceEqDiff,Nat.reduceLT];refine Av (ZG l lo hi hl2 ?_) ?_
 ·simp (maxDischargeDepth:=9) only [C9,DK,↓reduceIte,Nat.reduceEqDiff,Nat.reduceLT,IA]
 ·intro ex2 s2 hX2;rcases AY with q1000_|q1000_
  ·unfold Jj at hX2;dsimp only at hX2 h;obtain⟨rfl,n2_0⟩:=hX2
   obtain rfl:=Option.some.inj h
   simp (maxDischargeDepth:=9) only [↓AP,AQ,↓reduceIte,n2_0]
  ·unfold Jj at hX2;dsimp only at hX2 h
   obtain rfl:=hX2
   obtain rfl:=Option.some.inj h
   simp (maxDischargeDepth:=9) only [↓AP,AQ,↓reduceIte,Nat.reduceEqDiff,Nat.reduceLT]
def DC(l:List Int)(lo hi:Int):Bool:=l.all fun x=>KL x lo hi
theorem mK(l:List Int)(lo hi:Int)(h:l.length<1099511627776):Vy l lo hi=some (DC l lo hi):=by
 unfold Vy PL;have key:=Db (fun v=>Ji l lo hi v) (fun i=>(i:Int)) l.length (fun i=>KL (l.getD i default) lo hi) (.inl ()) (.inr ()) ?_ ?_
 ·simp only [GY]at key;rw [key,NK (fun x=>KL x lo hi)];unfold DC
  cases l.all (fun x=>KL x lo hi)<;>rfl
 ·intro i hi;simp only [Ji];rw [if_pos (CJ hi),BJ (Df hi),IV,Kh i (by omega)]
 ·simp only [Ji];rw [if_neg (Ar _)]
theorem Ra(l:List Int)(lo:Int)(hi:Int)(h0:l.length<1099511627776):Y.call 59 [D.sl 3 (AL (D.int .i64) l),D.int .i64 lo,D.int .i64 hi] []=some (D.bool (DC l lo hi),[]):=cO l lo hi (mK l lo hi h0)
noncomputable def BA(s_:List Int)(f:Int→Option Bool)(NZ:Int):Option ((Int)⊕(Int⊕Unit)):= if NZ<(s_.length:Int)then ck (0≤NZ∧NZ.toNat<s_.length)<| (f (s_.getD NZ.toNat default)).bind fun Xd=> if Xd=true then some (Sum.inr (Sum.inl NZ)) else some (Sum.inl (IntKind.i64.wrap (NZ+1))) else some (Sum.inr (Sum.inr ()))
noncomputable def Cz(s_:List Int)(f:Int→Option Bool)(v:Int):Option (Int⊕Unit):=I4 (fun v=>BA s_ f v) v
noncomputable def Co(s_:List Int)(f:Int→Option Bool):Option (Int):=
 (Cz s_ f 0).bind fun AY=>
 match AY with
 | .inl q1000_=>
  some q1000_
 | .inr q1000_=>
  some (-1)
def Xe:SC:= .seq (.ops [oB 9 .lss 3 (tK 8) (tK 7) 3 0]) (.seq (.cond (tK 9) .skip (.exit 0)) (.seq (.block 1 (.seq (.ops [oM 10 8 3,oA 5 10 3]) (.seq (.ops [oM 11 1 105,oM 12 0 26,oM 13 5 3,oI 14 26 12 13,oL 15 3 14 3,oX 16 (.call ⟨(.value (tK 11)), #[(tK 15)], #[3]⟩) 4]) (.cond (tK 16) (.seq (.ops [oM 17 5 3,oA 4 17 3]) .ret) .skip)))) (.ops [oB 18 .add 3 (tK 8) (iK 1) 3 3,oM 8 18 3])))
def o7:SC:= .loop Xe
def A4h:SC:= .seq (.ops [oX 4 (.assign (iK 0)) 3]) (.seq (.seq (.ops [oM 6 0 26,oN 7 6 26,oX 8 (.move (iK 0)) 3]) (.block 0 o7)) (.seq (.ops [oX 4 (.assign (.const (.int .i64 (-1)))) 3]) .ret))
theorem yz:Tryz.f129.body.map (Bf lends)=some A4h:=by kernel_rfl
theorem ACA:Bz Tryz.f129 2=true:=by kernel_rfl
theorem AGv{a l:List D}{r:D×List D}(h:CF Y.env A4h (ES Ae l.length [ResultVar.tmp 4] r) (entry a l))(ha:a.length=2):Y.call 129 a l=some r:=
 Ab (Y:=Y) rfl Tryz.func129 (ha▸ACA) yz h
def BQ(s_:List Int)(f:Int→Option Bool)(f_f:FuncId)(f_c:List D)(NZ:Int)(s:St):Prop:=s.v 0=D.sl 3 (AL (D.int .i64) s_)∧s.v 1=D.clo f_f f_c∧s.v 7=D.int .i64 (s_.length:Int)∧s.v 8=D.int .i64 NZ
def Br(s_:List Int)(f:Int→Option Bool)(f_f:FuncId)(f_c:List D)(r:Int⊕Unit)(ex:Ex)(s:St):Prop:=match r with
 | .inl q=>ex= .ret∧s.v 4=D.int .i64 q
 | .inr q=>ex= .exit 0
theorem KX(s_:List Int)(f:Int→Option Bool)(f_f:FuncId)(f_c:List D)(f_h: ∀(a0:Int) (r:Bool),f a0=some r→Y.call f_f (D.int .i64 a0::f_c) []=some (D.bool r,[]))(f_l:lends f_f=false){v:Int}{s:St}{r:Int⊕Unit}(h:Cz s_ f v=some r)(hM:BQ s_ f f_f f_c v s):CF Y.env o7 (Br s_ f f_f f_c r) s:=by
 unfold Cz at h;refine BN (c:=Xe) (fun v=>BA s_ f v) (fun v s=>BQ s_ f f_f f_c v s) (Br s_ f f_f f_c) ?_ h hM;clear h hM s v r;intro NZ s o hM h;unfold BA at h;unfold BQ at hM;obtain⟨m0,m1,m2,m3⟩:=hM;unfold Xe;rcases iS h with⟨e1,h⟩|⟨e1,h⟩
 ·obtain⟨e2,h⟩:=FK h;obtain⟨Xd,hl3,h⟩:=Ag h;have c3:=f_h _ _ hl3;rcases iS h with⟨e4,h⟩|⟨e4,h⟩
  ·obtain rfl:=Option.some.inj h
   simp (maxDischargeDepth:=9) only [↓AP,AQ,↓reduceIte,Nat.reduceEqDiff,Nat.reduceLT,Nat.reduceAdd,m0,m1,m2,m3,f_l,e1,e2.1,e2.2,c3,e4,BQ,Br,MP]
  ·have e4f:Xd=false:=Fx.mpr e4
   obtain rfl:=Option.some.inj h
   simp (maxDischargeDepth:=9) only [↓AP,AQ,↓reduceIte,Nat.reduceEqDiff,Nat.reduceLT,Nat.reduceAdd,m0,m1,m2,m3,f_l,e1,e2.1,e2.2,c3,e4f,BQ,GZ]
 ·obtain rfl:=Option.some.inj h
  simp (maxDischargeDepth:=9) only [↓AP,AQ,↓reduceIte,Nat.reduceLT,m2,m3,e1,BQ,Br,KW]
theorem Kn(s_:List Int)(f:Int→Option Bool)(f_f:FuncId)(f_c:List D)(f_h: ∀(a0:Int) (r:Bool),f a0=some r→Y.call f_f (D.int .i64 a0::f_c) []=some (D.bool r,[]))(f_l:lends f_f=false){r:Int}(h:Co s_ f=some r):Y.call 129 [D.sl 3 (AL (D.int .i64) s_),D.clo f_f f_c] []=some (D.int .i64 r,[]):=by
 refine AGv ?_ rfl;unfold A4h;unfold Co at h;obtain⟨AY,hl2,h⟩:=Ag h;try dsimp only at h
 simp (maxDischargeDepth:=9) only [↓AP,AQ,↓reduceIte,Nat.reduceEqDiff,Nat.reduceLT,Int.reduceNeg];refine Av (KX s_ f f_f f_c f_h f_l hl2 ?_) ?_
 ·simp (maxDischargeDepth:=9) only [C9,DK,↓reduceIte,Nat.reduceEqDiff,Nat.reduceLT,BQ]
 ·intro ex2 s2 hX2;rcases AY with q1000_|q1000_
  ·unfold Br at hX2;dsimp only at hX2 h;obtain⟨rfl,n2_0⟩:=hX2
   obtain rfl:=Option.some.inj h
   simp (maxDischargeDepth:=9) only [↓AP,AQ,↓reduceIte,n2_0]
  ·unfold Br at hX2;dsimp only at hX2 h
   obtain rfl:=hX2
   obtain rfl:=Option.some.inj h
   simp (maxDischargeDepth:=9) only [↓AP,AQ,↓reduceIte,Nat.reduceEqDiff,Nat.reduceLT,Int.reduceNeg]
noncomputable def CX(s_:List Int)(f:Int→Option Bool):Option (Bool):= (Co s_ f).bind fun vX=> some (decide (0≤vX))
def A4i:SC:= .seq (.ops [oX 4 (.assign (.const (.bool false))) 4]) (.seq (.ops [oM 5 0 26,oM 6 1 105,oC 7 129 [(tK 5),(tK 6)] [26,105] 3,oB 8 .geq 3 (tK 7) (iK 0) 3 4,oA 4 8 4]) .ret)
theorem z8:Tryz.f103.body.map (Bf lends)=some A4i:=by kernel_rfl
theorem ACB:Bz Tryz.f103 2=true:=by kernel_rfl
theorem AGw{a l:List D}{r:D×List D}(h:CF Y.env A4i (ES Ae l.length [ResultVar.tmp 4] r) (entry a l))(ha:a.length=2):Y.call 103 a l=some r:=
 Ab (Y:=Y) rfl Tryz.func103 (ha▸ACB) z8 h
theorem KD(s_:List Int)(f:Int→Option Bool)(f_f:FuncId)(f_c:List D)(f_h: ∀(a0:Int) (r:Bool),f a0=some r→Y.call f_f (D.int .i64 a0::f_c) []=some (D.bool r,[]))(f_l:lends f_f=false){r:Bool}(h:CX s_ f=some r):Y.call 103 [D.sl 3 (AL (D.int .i64) s_),D.clo f_f f_c] []=some (D.bool r,[]):=by
 refine AGw ?_ rfl;unfold A4i;unfold CX at h;obtain⟨vX,hl1,h⟩:=Ag h;try dsimp only at h
 have c1:=Kn s_ f f_f f_c f_h f_l hl1
 obtain rfl:=Option.some.inj h
 simp (maxDischargeDepth:=9) only [↓AP,AQ,↓reduceIte,Nat.reduceEqDiff,Nat.reduceLT,Nat.reduceAdd,c1]
noncomputable def KE(n_:Int)(c0_:Int)(c1_:Int):Option (Bool):= some (!(KL n_ c0_ c1_))
def A4j:SC:= .seq (.ops [oX 4 (.assign (.const (.bool false))) 4]) (.seq (.ops [oM 5 0 3,oL 6 3 1 3,oL 7 3 2 3,oC 8 64 [(tK 5),(tK 6),(tK 7)] [3,3,3] 4,oX 9 (.unOp .not 4 (tK 8)) 4,oA 4 9 4]) .ret)
theorem zA:Tryz.f104.body.map (Bf lends)=some A4j:=by kernel_rfl
theorem ACC:Bz Tryz.f104 3=true:=by kernel_rfl
theorem AGx{a l:List D}{r:D×List D}(h:CF Y.env A4j (ES Ae l.length [ResultVar.tmp 4] r) (entry a l))(ha:a.length=3):Y.call 104 a l=some r:=
 Ab (Y:=Y) rfl Tryz.func104 (ha▸ACC) zA h
theorem Rb(n_:Int)(c0_:Int)(c1_:Int){r:Bool}(h:KE n_ c0_ c1_=some r):Y.call 104 [D.int .i64 n_,D.cptr [D.int .i64 c0_],D.cptr [D.int .i64 c1_]] []=some (D.bool r,[]):=by
 refine AGx ?_ rfl;unfold A4j;unfold KE at h;have c1:=JN n_ c0_ c1_
 obtain rfl:=Option.some.inj h
 simp (maxDischargeDepth:=9) only [↓AP,AQ,↓reduceIte,Nat.reduceEqDiff,Nat.reduceLT,Nat.reduceAdd,c1]
noncomputable def Nq(list:List Int)(low:Int)(high:Int):Option (Bool):= (CX list (fun a0=>KE a0 low high)).bind fun o8=> some (!o8)
def k71:SC:= .seq (.ops [oX 4 (.box 3 (tK 1)) 0,oX 5 (.box 3 (tK 2)) 0,oX 6 (.assign (.const (.bool false))) 4]) (.seq (.ops [oM 7 0 26,oX 8 (.makeFunc (Fn.func 104) #[] #[(tK 4),(tK 5)]) 105,oC 9 103 [(tK 7),(tK 8)] [26,105] 4,oX 10 (.unOp .not 4 (tK 9)) 4,oA 6 10 4]) .ret)
theorem A4k:Tryz.f71.body.map (Bf lends)=some k71:=by kernel_rfl
theorem AGz:Bz Tryz.f71 3=true:=by kernel_rfl
theorem c71{a l:List D}{r:D×List D}(h:CF Y.env k71 (ES Ae l.length [ResultVar.tmp 6] r) (entry a l))(ha:a.length=3):Y.call 71 a l=some r:=
 Ab (Y:=Y) rfl Tryz.func71 (ha▸AGz) A4k h
theorem UD(list:List Int)(low:Int)(high:Int){r:Bool}(h:Nq list low high=some r):Y.call 71 [D.sl 3 (AL (D.int .i64) list),D.int .i64 low,D.int .i64 high] []=some (D.bool r,[]):=by
 refine c71 ?_ rfl;unfold k71;unfold Nq at h;obtain⟨o8,hl1,h⟩:=Ag h;try dsimp only at h
 have c1:=KD list (fun a0=>KE a0 low high) 104 [D.cptr [D.int .i64 low],D.cptr [D.int .i64 high]] (fun a0 _ hh=>Rb a0 low high hh) vF hl1
 obtain rfl:=Option.some.inj h
 simp (maxDischargeDepth:=9) only [↓AP,AQ,↓reduceIte,Nat.reduceEqDiff,Nat.reduceLT,Nat.reduceAdd,c1]
theorem cZ(l:List Int)(f:Int→Option Bool)(p:Int→Bool)(h:l.length<1099511627776)(hf: ∀x∈l,f x=some (p x)):
  ∃r,Co l f=some r∧(0≤r↔l.any p=true):=by
 unfold Co Cz;by_cases ha: ∀i,i<l.length→(!p (l.getD i default))=true
 ·have key:=EX (fun v=>BA l f v) (fun i=>(i:Int)) l.length (.inr ()) ?_ ?_
  ·simp only [GY]at key;rw [key]
   refine⟨-1,rfl,by simp,fun hc=> ?_⟩
   obtain⟨x,hx,hpx⟩:=WJ.1 hc;obtain⟨i,hi,rfl⟩:=VB hx;have:=ha i hi
   rw [Am _ _ hi,hpx]at this;cases this
  ·intro i hi;simp only [BA];have e:=ha i hi;rw [Am _ _ hi]at e;rw [if_pos (CJ hi),BJ (Df hi),G5 _ _ hi,hf _ (OA hi),DJ,if_neg (by cases hp:p l[i]<;>simp_all),Kh i (by omega)]
  ·simp only [BA];rw [if_neg (Ar _)]
 ·obtain⟨m,h1,h2,h3⟩:=PG (P:=fun i=> !p (l.getD i default)) ha;have key:=EX (fun v=>BA l f v) (fun i=>(i:Int)) m (.inl (m:Int)) ?_ ?_
  ·simp only [GY]at key;rw [key]
   refine⟨(m:Int),rfl,fun _=> ?_,fun _=>by omega⟩
   have h2':p l[m]=true:=by rw [Am _ _ h1]at h2;simpa using h2
   exact WJ.2 ⟨_,OA h1,h2'⟩
  ·intro i hi;simp only [BA];have e:=h3 i hi;rw [Am _ _ (by omega)]at e
   rw [if_pos (CJ (by omega)),BJ (Df (by omega)),G5 _ _ (by omega),hf _ (OA _),DJ,if_neg (by cases hp:p l[i]<;>simp_all),Kh i (by omega)]
  ·simp only [BA];have h2':p l[m]=true:=by rw [Am _ _ h1]at h2;simpa using h2
   rw [if_pos (CJ h1),BJ (Df h1),G5 _ _ h1,hf _ (OA _),DJ,if_pos h2']
theorem VX(l:List Int)(f:Int→Option Bool)(p:Int→Bool)(h:l.length<1099511627776)(hf: ∀x∈l,f x=some (p x)):CX l f=some (l.any p):=by
 obtain⟨r,h1,h2⟩:=cZ l f p h hf;unfold CX;rw [h1,DJ]
 congr 1
 rw [Rt];simpa using h2
theorem Xf(l:List Int)(lo hi:Int)(h:l.length<1099511627776):Nq l lo hi=some (DC l lo hi):=by
 unfold Nq;rw [VX l (fun a0=>KE a0 lo hi) (fun x=> !KL x lo hi) h (fun x _=>rfl),DJ];unfold DC;rw [List.all_eq_not_any_not]
theorem NM(list:List Int)(low:Int)(high:Int)(h0:list.length<1099511627776):Y.call 71 [D.sl 3 (AL (D.int .i64) list),D.int .i64 low,D.int .i64 high] []=some (D.bool (DC list low high),[]):=UD list low high (Xf list low high h0)
noncomputable def Dw(x_:Int):Option (Bool):= some false
def A4l:SC:= .seq (.ops [oX 2 (.assign (.const (.bool false))) 4]) (.seq (.ops [oM 3 0 3,oM 4 0 3,oB 5 .neq 3 (tK 3) (tK 4) 3 4,oA 2 5 4]) .ret)
theorem zC:Tryz.f141.body.map (Bf lends)=some A4l:=by kernel_rfl
theorem ACD:Bz Tryz.f141 1=true:=by kernel_rfl
theorem AH0{a l:List D}{r:D×List D}(h:CF Y.env A4l (ES Ae l.length [ResultVar.tmp 2] r) (entry a l))(ha:a.length=1):Y.call 141 a l=some r:=
 Ab (Y:=Y) rfl Tryz.func141 (ha▸ACD) zC h
theorem G7(x_:Int){r:Bool}(h:Dw x_=some r):Y.call 141 [D.int .i64 x_] []=some (D.bool r,[]):=by
 refine AH0 ?_ rfl;unfold A4l;unfold Dw at h
 obtain rfl:=Option.some.inj h
 simp (maxDischargeDepth:=9) only [↓AP,AQ,↓reduceIte,Nat.reduceEqDiff,Nat.reduceLT]
noncomputable def JO(x_:Int)(y:Int):Option (Bool):= (Dw x_).bind fun r6_=> if r6_=true then (Dw y).bind fun o8=> if o8=true then some (decide (x_<y)) else some true else some (decide (x_<y))
def A4m:SC:= .seq (.ops [oX 4 (.assign (.const (.bool false))) 4]) (.seq (.ops [oM 5 0 3,oC 6 141 [(tK 5)] [3] 4,oM 7 6 4,⟨(some 8),(.move (tK 1)),3,(some (some 7,true))⟩,⟨(some 9),(.call ⟨(.value (.func 141)), #[(tK 8)], #[3]⟩),4,(some (some 7,true))⟩,⟨(some 10),(.unOp .not 4 (tK 9)),4,(some (some 7,true))⟩,oX 11 (.pick (tK 7) (tK 10) (.const (.bool false))) 4,oM 12 11 4,⟨(some 13),(.move (tK 0)),3,(some (some 12,false))⟩,⟨(some 14),(.move (tK 1)),3,(some (some 12,false))⟩,⟨(some 15),(.binOp .lss 3 (tK 13) (tK 14) 3),4,(some (some 12,false))⟩,oX 16 (.pick (tK 12) (.const (.bool true)) (tK 15)) 4,oA 4 16 4]) .ret)
theorem zD:Tryz.f125.body.map (Bf lends)=some A4m:=by kernel_rfl
theorem ACE:Bz Tryz.f125 2=true:=by kernel_rfl
theorem AH2{a l:List D}{r:D×List D}(h:CF Y.env A4m (ES Ae l.length [ResultVar.tmp 4] r) (entry a l))(ha:a.length=2):Y.call 125 a l=some r:=
 Ab (Y:=Y) rfl Tryz.func125 (ha▸ACE) zD h
theorem R4(x_:Int)(y:Int){r:Bool}(h:JO x_ y=some r):Y.call 125 [D.int .i64 x_,D.int .i64 y] []=some (D.bool r,[]):=by
 refine AH2 ?_ rfl;unfold A4m;unfold JO at h;obtain⟨r6_,hl1,h⟩:=Ag h;have c1:=G7 x_ hl1;rcases iS h with⟨e2,h⟩|⟨e2,h⟩
 ·obtain⟨o8,hl3,h⟩:=Ag h;have c3:=G7 y hl3;rcases iS h with⟨e4,h⟩|⟨e4,h⟩
  ·obtain rfl:=Option.some.inj h
   simp (maxDischargeDepth:=9) only [↓AP,AQ,↓reduceIte,Nat.reduceEqDiff,Nat.reduceLT,Nat.reduceAdd,c1,e2,c3,e4]
  ·have e4f:o8=false:=Fx.mpr e4
   obtain rfl:=Option.some.inj h
   simp (maxDischargeDepth:=9) only [↓AP,AQ,↓reduceIte,Nat.reduceEqDiff,Nat.reduceLT,Nat.reduceAdd,c1,e2,c3,e4f]
 ·have e2f:r6_=false:=Fx.mpr e2
  obtain rfl:=Option.some.inj h
  simp (maxDischargeDepth:=9) only [↓AP,AQ,↓reduceIte,Nat.reduceEqDiff,Nat.reduceLT,Nat.reduceAdd,c1,e2f]
noncomputable def BZ(x_:List Int)(i:Int):Option ((Int)⊕(Unit⊕Unit)):= if 0<i then ck (0≤i∧i.toNat<x_.length)<| ck (0≤IntKind.i64.wrap (i-1)∧(IntKind.i64.wrap (i-1)).toNat<x_.length)<| (JO (x_.getD i.toNat default) (x_.getD ((IntKind.i64.wrap (i-1)).toNat) default)).bind fun Rc=> if Rc=true then some (Sum.inr (Sum.inl ())) else some (Sum.inl (IntKind.i64.wrap (i-1))) else some (Sum.inr (Sum.inr ()))
noncomputable def D7(x_:List Int)(v:Int):Option (Unit⊕Unit):=I4 (fun v=>BZ x_ v) v
noncomputable def Dl(x_:List Int):Option (Bool):=
 (D7 x_ (IntKind.i64.wrap ((x_.length:Int)-1))).bind fun AY=>
 match AY with
 | .inl q1000_=>
  some false
 | .inr q1000_=>
  some true
def cu:SC:= .seq (.seq (.ops [oM 7 3 3,oB 8 .gtr 3 (tK 7) (iK 0) 3 4]) (.cond (tK 8) .skip (.exit 0))) (.seq (.block 1 (.seq (.draws [(⟨[11,0,0],[11,12,13,14,15,16,17,18,19,20],[11]⟩,oM 11 0 26),(⟨[12,3,3],[11,12,13,14,15,16,17,18,19,20],[12]⟩,oM 12 3 3),(⟨[13,11,12,0,3],[11,12,13,14,15,16,17,18,19,20],[13]⟩,oI 13 26 11 12),(⟨[14,13,0],[11,12,13,14,15,16,17,18,19,20],[14]⟩,oL 14 3 13 3),(⟨[15,0,0],[11,12,13,14,15,16,17,18,19,20],[15]⟩,oM 15 0 26),(⟨[16,3,3],[11,12,13,14,15,16,17,18,19,20],[16]⟩,oM 16 3 3),(⟨[17,16,3],[11,12,13,14,15,16,17,18,19,20],[17]⟩,oB 17 .sub 3 (tK 16) (iK 1) 3 3),(⟨[18,15,17,0,17],[11,12,13,14,15,16,17,18,19,20],[18]⟩,oI 18 26 15 17),(⟨[19,18,0],[11,12,13,14,15,16,17,18,19,20],[19]⟩,oL 19 3 18 3),(⟨[20,14,19,0,0],[11,12,13,14,15,16,17,18,19,20],[20]⟩,oC 20 125 [(tK 14),(tK 19)] [3,3] 4)]) (.cond (tK 20) (.seq (.ops [oX 2 (.assign (.const (.bool false))) 4]) .ret) .skip))) (.ops [oM 9 3 3,oB 10 .sub 3 (tK 9) (iK 1) 3 3,oA 3 10 3]))
def vY:SC:= .loop cu
def k97:SC:= .seq (.ops [oX 2 (.assign (.const (.bool false))) 4]) (.seq (.seq (.ops [oM 4 0 26,oN 5 4 26,oB 6 .sub 3 (tK 5) (iK 1) 3 3,oA 3 6 3]) (.block 0 vY)) (.seq (.ops [oX 2 (.assign (.const (.bool true))) 4]) .ret))
theorem A4n:Tryz.f97.body.map (Bf lends)=some k97:=by kernel_rfl
theorem AH4:Bz Tryz.f97 1=true:=by kernel_rfl
theorem c97{a l:List D}{r:D×List D}(h:CF Y.env k97 (ES Ae l.length [ResultVar.tmp 2] r) (entry a l))(ha:a.length=1):Y.call 97 a l=some r:=
 Ab (Y:=Y) rfl Tryz.func97 (ha▸AH4) A4n h
def Ba(x_:List Int)(i:Int)(s:St):Prop:=s.v 0=D.sl 3 (AL (D.int .i64) x_)∧s.v 3=D.int .i64 i
def C8(x_:List Int)(r:Unit⊕Unit)(ex:Ex)(s:St):Prop:=match r with
 | .inl q=>ex= .ret∧s.v 2=D.bool false
 | .inr q=>ex= .exit 0
theorem Ko(x_:List Int){v:Int}{s:St}{r:Unit⊕Unit}(h:D7 x_ v=some r)(hM:Ba x_ v s):CF Y.env vY (C8 x_ r) s:=by
 unfold D7 at h;refine BN (c:=cu) (fun v=>BZ x_ v) (fun v s=>Ba x_ v s) (C8 x_) ?_ h hM;clear h hM s v r;intro i s o hM h;unfold BZ at h;unfold Ba at hM;obtain⟨m0,m1⟩:=hM;unfold cu;rcases iS h with⟨e1,h⟩|⟨e1,h⟩
 ·obtain⟨e2,e3,h⟩:=Ei h;obtain⟨Rc,hl4,h⟩:=Ag h;have c4:=R4 (x_.getD i.toNat default) (x_.getD ((IntKind.i64.wrap (i-1)).toNat) default) hl4;rcases iS h with⟨e5,h⟩|⟨e5,h⟩
  ·obtain rfl:=Option.some.inj h
   simp (maxDischargeDepth:=9) only [↓AP,AQ,↓reduceIte,Nat.reduceEqDiff,Nat.reduceLT,Nat.reduceAdd,m0,m1,e1,e2.1,e2.2,e3.1,e3.2,c4,e5,Ba,C8,MP]
  ·have e5f:Rc=false:=Fx.mpr e5
   obtain rfl:=Option.some.inj h
   simp (maxDischargeDepth:=9) only [↓AP,AQ,↓reduceIte,Nat.reduceEqDiff,Nat.reduceLT,Nat.reduceAdd,m0,m1,e1,e2.1,e2.2,e3.1,e3.2,c4,e5f,Ba,GZ]
 ·obtain rfl:=Option.some.inj h
  simp (maxDischargeDepth:=9) only [↓AP,AQ,↓reduceIte,Nat.reduceLT,m1,e1,Ba,C8,KW]
theorem LD(x_:List Int){r:Bool}(h:Dl x_=some r):Y.call 97 [D.sl 3 (AL (D.int .i64) x_)] []=some (D.bool r,[]):=by
 refine c97 ?_ rfl;unfold k97;unfold Dl at h;obtain⟨AY,hl2,h⟩:=Ag h;try dsimp only at h
 simp (maxDischargeDepth:=9) only [↓AP,AQ,↓reduceIte,Nat.reduceEqDiff,Nat.reduceLT];refine Av (Ko x_ hl2 ?_) ?_
 ·simp (maxDischargeDepth:=9) only [C9,DK,↓reduceIte,Nat.reduceEqDiff,Nat.reduceLT,Ba]
 ·intro ex2 s2 hX2;rcases AY with q1000_|q1000_
  ·unfold C8 at hX2;dsimp only at hX2 h;obtain⟨rfl,n2_0⟩:=hX2
   obtain rfl:=Option.some.inj h
   simp (maxDischargeDepth:=9) only [↓AP,AQ,↓reduceIte,n2_0]
  ·unfold C8 at hX2;dsimp only at hX2 h
   obtain rfl:=hX2
   obtain rfl:=Option.some.inj h
   simp (maxDischargeDepth:=9) only [↓AP,AQ,↓reduceIte,Nat.reduceEqDiff,Nat.reduceLT]
def G8(l:List Int):Bool:=(List.range (l.length-1)).all fun i=>decide (l.getD i default≤l.getD (i+1) default)
theorem M3(l:List Int)(h:l.length<1099511627776):Dl l=some (G8 l):=by
 unfold Dl D7;rw [J9 _ (by omega)]
 rcases Nat.eq_zero_or_pos l.length with h0|h0
 ·rw [EH (r:=Sum.inr ())]
  ·simp [G8,h0]
  ·simp only [BZ];rw [if_neg (by omega)]
 ·have key:=Db (fun v=>BZ l v) (fun j=>(l.length:Int)-1-j) (l.length-1) (fun j=>decide (l.getD (l.length-1-j-1) default≤l.getD (l.length-1-j) default)) (.inl ()) (.inr ()) ?_ ?_
  ·simp only [GY,Int.sub_zero]at key;rw [key]
   have e:(List.range (l.length-1)).all (fun j=>decide (l.getD (l.length-1-j-1) default≤l.getD (l.length-1-j) default))=G8 l:=by
    unfold G8;rw [Rt,CW,CW]
    constructor
    ·intro hh i hi;have:=hh (l.length-1-i-1) (by omega)
     rwa [show l.length-1-(l.length-1-i-1)=i+1 by omega,Nat.add_sub_cancel]at this
    ·intro hh i hi;have:=hh (l.length-1-i-1) (by omega)
     rwa [show l.length-1-i-1+1=l.length-1-i by omega]at this
   rw [e]
   cases G8 l<;>rfl
  ·intro i hi;simp only [BZ];rw [if_pos (by omega),J9 _ (by omega)]
   rw [BJ (by omega),BJ (by omega),show((l.length:Int)-1-i).toNat=l.length-1-i by omega,show((l.length:Int)-1-i-1).toNat=l.length-1-i-1 by omega]
   have e:JO (l.getD (l.length-1-i) default) (l.getD (l.length-1-i-1) default)=some (decide (l.getD (l.length-1-i) default<l.getD (l.length-1-i-1) default)):=by
    unfold JO Dw;by_cases hq:l.getD (l.length-1-i) default<l.getD (l.length-1-i-1) default<;>simp [hq]
   rw [e,DJ];simp only [decide_eq_true_eq];by_cases hq:l.getD (l.length-1-i) default<l.getD (l.length-1-i-1) default
   ·rw [if_pos hq,if_neg (by omega)]
   ·rw [if_neg hq,if_pos (by omega),show(l.length:Int)-1-i-1=(l.length:Int)-1-((i+1:Nat):Int) by omega]
  ·simp only [BZ];rw [if_neg (by omega)]
theorem M4(x_:List Int)(h0:x_.length<1099511627776):Y.call 97 [D.sl 3 (AL (D.int .i64) x_)] []=some (D.bool (G8 x_),[]):=LD x_ (M3 x_ h0)
def I5:List Int→List Int→Int
 | [],[]=>0
 | [],_::_=> -1
 |_::_,[]=>1
 |x::a,y::b=>if x=y then I5 a b else if x<y then-1 else 1
noncomputable def G9(x_:Int)(y:Int):Option (Int):= (Dw x_).bind fun r8_=> (Dw y).bind fun Xg=> if r8_=true then if Xg=true then some 0 else some (-1) else if Xg=true then some 1 else if x_<y then some (-1) else if y<x_ then some 1 else some 0
def A4o:SC:= .seq (.ops [oX 4 (.assign (iK 0)) 3]) (.seq (.ops [oM 7 0 3,oC 8 141 [(tK 7)] [3] 4,oA 5 8 4]) (.seq (.ops [oM 9 1 3,oC 10 141 [(tK 9)] [3] 4,oA 6 10 4]) (.seq (.seq (.ops [oM 11 5 4]) (.cond (tK 11) (.seq (.seq (.ops [oM 12 6 4]) (.cond (tK 12) (.seq (.ops [oX 4 (.assign (iK 0)) 3]) .ret) .skip)) (.seq (.ops [oX 4 (.assign (.const (.int .i64 (-1)))) 3]) .ret)) .skip)) (.seq (.seq (.ops [oM 13 6 4]) (.cond (tK 13) (.seq (.ops [oX 4 (.assign (iK 1)) 3]) .ret) .skip)) (.seq (.seq (.ops [oM 14 0 3,oM 15 1 3,oB 16 .lss 3 (tK 14) (tK 15) 3 4]) (.cond (tK 16) (.seq (.ops [oX 4 (.assign (.const (.int .i64 (-1)))) 3]) .ret) .skip)) (.seq (.seq (.ops [oM 17 0 3,oM 18 1 3,oB 19 .gtr 3 (tK 17) (tK 18) 3 4]) (.cond (tK 19) (.seq (.ops [oX 4 (.assign (iK 1)) 3]) .ret) .skip)) (.seq (.ops [oX 4 (.assign (iK 0)) 3]) .ret)))))))
theorem zF:Tryz.f126.body.map (Bf lends)=some A4o:=by kernel_rfl
theorem ACF:Bz Tryz.f126 2=true:=by kernel_rfl
theorem AH6{a l:List D}{r:D×List D}(h:CF Y.env A4o (ES Ae l.length [ResultVar.tmp 4] r) (entry a l))(ha:a.length=2):Y.call 126 a l=some r:=
 Ab (Y:=Y) rfl Tryz.func126 (ha▸ACF) zF h
theorem PM(x_:Int)(y:Int){r:Int}(h:G9 x_ y=some r):Y.call 126 [D.int .i64 x_,D.int .i64 y] []=some (D.int .i64 r,[]):=by
 refine AH6 ?_ rfl;unfold A4o;unfold G9 at h;obtain⟨r8_,hl1,h⟩:=Ag h;have c1:=G7 x_ hl1;obtain⟨Xg,hl2,h⟩:=Ag h;have c2:=G7 y hl2;rcases iS h with⟨e3,h⟩|⟨e3,h⟩
 ·rcases iS h with⟨e4,h⟩|⟨e4,h⟩
  ·obtain rfl:=Option.some.inj h
   simp (maxDischargeDepth:=9) only [↓AP,AQ,↓reduceIte,Nat.reduceEqDiff,Nat.reduceLT,Nat.reduceAdd,Int.reduceNeg,c1,c2,e3,e4]
  ·have e4f:Xg=false:=Fx.mpr e4
   obtain rfl:=Option.some.inj h
   simp (maxDischargeDepth:=9) only [↓AP,AQ,↓reduceIte,Nat.reduceEqDiff,Nat.reduceLT,Nat.reduceAdd,Int.reduceNeg,c1,c2,e3,e4f]
 ·have e3f:r8_=false:=Fx.mpr e3;rcases iS h with⟨e4,h⟩|⟨e4,h⟩
  ·obtain rfl:=Option.some.inj h
   simp (maxDischargeDepth:=9) only [↓AP,AQ,↓reduceIte,Nat.reduceEqDiff,Nat.reduceLT,Nat.reduceAdd,Int.reduceNeg,c1,c2,e3f,e4]
  ·have e4f:Xg=false:=Fx.mpr e4;rcases iS h with⟨e5,h⟩|⟨e5,h⟩
   ·obtain rfl:=Option.some.inj h
    simp (maxDischargeDepth:=9) only [↓AP,AQ,↓reduceIte,Nat.reduceEqDiff,Nat.reduceLT,Nat.reduceAdd,Int.reduceNeg,c1,c2,e3f,e4f,e5]
   ·rcases iS h with⟨e6,h⟩|⟨e6,h⟩
    ·obtain rfl:=Option.some.inj h
     simp (maxDischargeDepth:=9) only [↓AP,AQ,↓reduceIte,Nat.reduceEqDiff,Nat.reduceLT,Nat.reduceAdd,Int.reduceNeg,c1,c2,e3f,e4f,e5,e6]
    ·obtain rfl:=Option.some.inj h
     simp (maxDischargeDepth:=9) only [↓AP,AQ,↓reduceIte,Nat.reduceEqDiff,Nat.reduceLT,Nat.reduceAdd,Int.reduceNeg,c1,c2,e3f,e4f,e5,e6]
noncomputable def Bb(s1_:List Int)(s2_:List Int)(Cb:Int):Option ((Int)⊕(Int⊕Unit)):= if Cb<(s1_.length:Int)then ck (0≤Cb∧Cb.toNat<s1_.length)<| if(s2_.length:Int)≤Cb then some (Sum.inr (Sum.inl 1)) else ck (0≤Cb∧Cb.toNat<s2_.length)<| (G9 (s1_.getD Cb.toNat default) (s2_.getD Cb.toNat default)).bind fun ZH=> if ZH=0 then some (Sum.inl (IntKind.i64.wrap (Cb+1))) else some (Sum.inr (Sum.inl ZH)) else some (Sum.inr (Sum.inr ()))
noncomputable def BS(s1_:List Int)(s2_:List Int)(v:Int):Option (Int⊕Unit):=I4 (fun v=>Bb s1_ s2_ v) v
noncomputable def CO(s1_:List Int)(s2_:List Int):Option (Int):=
 (BS s1_ s2_ 0).bind fun AY=>
 match AY with
 | .inl q1000_=>
  some q1000_
 | .inr q1000_=>
  if(s1_.length:Int)<(s2_.length:Int)then
   some (-1)
  else
   some 0
def cz:SC:= .seq (.ops [oB 12 .lss 3 (tK 11) (tK 10) 3 0]) (.seq (.cond (tK 12) .skip (.exit 0)) (.seq (.block 1 (.seq (.ops [oM 13 11 3,oI 14 26 9 11,oL 15 3 14 3,oA 5 13 3,oA 6 15 3]) (.seq (.seq (.ops [oM 16 5 3,oM 17 1 26,oN 18 17 26,oB 19 .geq 3 (tK 16) (tK 18) 3 4]) (.cond (tK 19) (.seq (.ops [oX 4 (.assign (iK 1)) 3]) .ret) .skip)) (.seq (.ops [oM 20 1 26,oM 21 5 3,oI 22 26 20 21,oL 23 3 22 3,oA 7 23 3]) (.seq (.ops [oM 24 6 3,oM 25 7 3,oC 26 126 [(tK 24),(tK 25)] [3,3] 3,oA 8 26 3]) (.seq (.ops [oM 27 8 3,oB 28 .neq 3 (tK 27) (iK 0) 3 4]) (.cond (tK 28) (.seq (.ops [oM 29 8 3,oA 4 29 3]) .ret) .skip))))))) (.ops [oB 30 .add 3 (tK 11) (iK 1) 3 3,oM 11 30 3])))
def vZ:SC:= .loop cz
def k98:SC:= .seq (.ops [oX 4 (.assign (iK 0)) 3]) (.seq (.seq (.ops [oM 9 0 26,oN 10 9 26,oX 11 (.move (iK 0)) 3]) (.block 0 vZ)) (.seq (.seq (.ops [oM 31 0 26,oN 32 31 26,oM 33 1 26,oN 34 33 26,oB 35 .lss 3 (tK 32) (tK 34) 3 4]) (.cond (tK 35) (.seq (.ops [oX 4 (.assign (.const (.int .i64 (-1)))) 3]) .ret) .skip)) (.seq (.ops [oX 4 (.assign (iK 0)) 3]) .ret)))
theorem A4p:Tryz.f98.body.map (Bf lends)=some k98:=by kernel_rfl
theorem AH8:Bz Tryz.f98 2=true:=by kernel_rfl
theorem c98{a l:List D}{r:D×List D}(h:CF Y.env k98 (ES Ae l.length [ResultVar.tmp 4] r) (entry a l))(ha:a.length=2):Y.call 98 a l=some r:=
 Ab (Y:=Y) rfl Tryz.func98 (ha▸AH8) A4p h
def BL(s1_:List Int)(s2_:List Int)(Cb:Int)(s:St):Prop:=s.v 0=D.sl 3 (AL (D.int .i64) s1_)∧s.v 1=D.sl 3 (AL (D.int .i64) s2_)∧s.v 9=D.sl 3 (AL (D.int .i64) s1_)∧s.v 10=D.int .i64 (s1_.length:Int)∧s.v 11=D.int .i64 Cb
def Bc(s1_:List Int)(s2_:List Int)(r:Int⊕Unit)(ex:Ex)(s:St):Prop:=match r with
 | .inl q=>ex= .ret∧s.v 4=D.int .i64 q
 | .inr q=>ex= .exit 0∧s.v 0=D.sl 3 (AL (D.int .i64) s1_)∧s.v 1=D.sl 3 (AL (D.int .i64) s2_)
theorem LF(s1_:List Int)(s2_:List Int){v:Int}{s:St}{r:Int⊕Unit}(h:BS s1_ s2_ v=some r)(hM:BL s1_ s2_ v s):CF Y.env vZ (Bc s1_ s2_ r) s:=by
 unfold BS at h;refine BN (c:=cz) (fun v=>Bb s1_ s2_ v) (fun v s=>BL s1_ s2_ v s) (Bc s1_ s2_) ?_ h hM;clear h hM s v r;intro Cb s o hM h;unfold Bb at h;unfold BL at hM;obtain⟨m0,m1,m2,m3,m4⟩:=hM;unfold cz;rcases iS h with⟨e1,h⟩|⟨e1,h⟩
 ·obtain⟨e2,h⟩:=FK h;rcases iS h with⟨e3,h⟩|⟨e3,h⟩
  ·obtain rfl:=Option.some.inj h
   simp (maxDischargeDepth:=9) only [↓AP,AQ,↓reduceIte,Nat.reduceEqDiff,Nat.reduceLT,m1,m2,m3,m4,e1,e2.1,e2.2,e3,BL,Bc,MP]
  ·obtain⟨e4,h⟩:=FK h;obtain⟨ZH,hl5,h⟩:=Ag h;have c5:=PM (s1_.getD Cb.toNat default) (s2_.getD Cb.toNat default) hl5;rcases iS h with⟨e6,h⟩|⟨e6,h⟩
   ·obtain rfl:=Option.some.inj h
    simp (maxDischargeDepth:=9) only [↓AP,AQ,↓reduceIte,Nat.reduceEqDiff,Nat.reduceLT,Nat.reduceAdd,m0,m1,m2,m3,m4,e1,e2.1,e2.2,e3,e4.2,c5,decide_eq_true e6,BL,GZ]
   ·obtain rfl:=Option.some.inj h
    simp (maxDischargeDepth:=9) only [↓AP,AQ,↓reduceIte,Nat.reduceEqDiff,Nat.reduceLT,Nat.reduceAdd,m1,m2,m3,m4,e1,e2.1,e2.2,e3,e4.2,c5,e6,BL,Bc,MP]
 ·obtain rfl:=Option.some.inj h
  simp (maxDischargeDepth:=9) only [↓AP,AQ,↓reduceIte,Nat.reduceEqDiff,Nat.reduceLT,m0,m1,m3,m4,e1,BL,Bc,KW]
theorem Gw(s1_:List Int)(s2_:List Int){r:Int}(h:CO s1_ s2_=some r):Y.call 98 [D.sl 3 (AL (D.int .i64) s1_),D.sl 3 (AL (D.int .i64) s2_)] []=some (D.int .i64 r,[]):=by
 refine c98 ?_ rfl;unfold k98;unfold CO at h;obtain⟨AY,hl2,h⟩:=Ag h;try dsimp only at h
 simp (maxDischargeDepth:=9) only [↓AP,AQ,↓reduceIte,Nat.reduceEqDiff,Nat.reduceLT,Int.reduceNeg];refine Av (LF s1_ s2_ hl2 ?_) ?_
 ·simp (maxDischargeDepth:=9) only [C9,DK,↓reduceIte,Nat.reduceEqDiff,Nat.reduceLT,BL]
 ·intro ex2 s2 hX2;rcases AY with q1000_|q1000_
  ·unfold Bc at hX2;dsimp only at hX2 h;obtain⟨rfl,n2_0⟩:=hX2
   obtain rfl:=Option.some.inj h
   simp (maxDischargeDepth:=9) only [↓AP,AQ,↓reduceIte,n2_0]
  ·unfold Bc at hX2;dsimp only at hX2 h;obtain⟨rfl,n2_0,n2_1⟩:=hX2;rcases iS h with⟨e3,h⟩|⟨e3,h⟩
   ·obtain rfl:=Option.some.inj h
    simp (maxDischargeDepth:=9) only [↓AP,AQ,↓reduceIte,Nat.reduceEqDiff,Nat.reduceLT,Int.reduceNeg,n2_0,n2_1,e3]
   ·obtain rfl:=Option.some.inj h
    simp (maxDischargeDepth:=9) only [↓AP,AQ,↓reduceIte,Nat.reduceEqDiff,Nat.reduceLT,Int.reduceNeg,n2_0,n2_1,e3]
theorem UE(x y:Int):G9 x y=some (if x<y then-1 else if y<x then 1 else 0):=by
 unfold G9 Dw;by_cases h1:x<y<;>by_cases h2:y<x<;>simp [h1,h2]
theorem ZI: ∀(a b p q:List Int),p.length=q.length→p.length+a.length<1099511627776→q.length+b.length<1099511627776→
  (BS (p++a) (q++b) (p.length:Int)).bind (fun r=>match r with| .inl q2=>some q2| .inr _=>if((p++a).length:Int)<((q++b).length:Int)then some (-1)else some 0)=some (I5 a b):=by
 intro a
 induction a with
 |nil=>
  intro b p q hpq ha hb;unfold BS;rw [EH (r:=Sum.inr ())]
  ·simp only [DJ,WK,Rp,hpq]
   cases b with
   |nil=>rw [if_neg (by simp)];rfl
   |cons y b=>rw [if_pos (by simp;omega)];rfl
  ·simp only [Bb];rw [if_neg (Qk _)]
 |cons x a ih=>
  intro b p q hpq ha hb;simp only [Lt]at ha hb;have ex:(p++x::a).getD (p.length:Int).toNat default=x:=by rw [IV];exact EN p (x::a) p.length rfl (by simp)
  cases b with
  |nil=>
   unfold BS;rw [EH (r:=Sum.inl 1)]
   ·rfl
   ·simp only [Bb];rw [if_pos (QL ..),BJ (QM ..),if_pos (by simp;omega)]
  |cons y b=>
   simp only [Lt]at hb;have ey:(q++y::b).getD (p.length:Int).toNat default=y:=by rw [IV,hpq];exact EN q (y::b) q.length rfl (by simp)
   have step:Bb (p++x::a) (q++y::b) (p.length:Int)=if x=y then some (.inl (((p++[x]).length:Nat):Int))else some (.inr (.inl (if x<y then-1 else 1))):=by
    unfold Bb;rw [if_pos (QL ..),BJ (QM ..),if_neg (by simp;omega),BJ (by simp;omega),ex,ey,UE,DJ,Kh _ (by omega)]
    by_cases h1:x=y
    ·subst h1;simp
    ·rw [if_neg h1];by_cases h2:x<y
     ·simp [h2]
     ·have h3:y<x:=by omega
      simp [h2,h3]
   unfold I5;by_cases h1:x=y
   ·rw [if_pos h1];rw [if_pos h1]at step;have:=ih b (p++[x]) (q++[y]) (by simp [hpq]) (by simp;omega) (by simp;omega)
    unfold BS at this ⊢;rw [Jg step];simpa using this
   ·rw [if_neg h1];rw [if_neg h1]at step;unfold BS;rw [EH step];rfl
theorem Ia(a b:List Int)(ha:a.length<1099511627776)(hb:b.length<1099511627776):CO a b=some (I5 a b):=by
 have:=ZI a b [] [] rfl (by simpa using ha) (by simpa using hb)
 unfold CO;simp only [NV,Pn,GY]at this;exact this
theorem MU(s1_:List Int)(s2_:List Int)(h0:s1_.length<1099511627776)(h1:s2_.length<1099511627776):Y.call 98 [D.sl 3 (AL (D.int .i64) s1_),D.sl 3 (AL (D.int .i64) s2_)] []=some (D.int .i64 (I5 s1_ s2_),[]):=Gw s1_ s2_ (Ia s1_ s2_ h0 h1)
noncomputable def QP(n_:Int):Option (Int):= if 0<n_ then some 1 else if n_<0 then some (-1) else some 0
def A4q:SC:= .seq (.ops [oX 2 (.assign (iK 0)) 3]) (.seq (.block 0 (.seq (.ops [oM 4 0 3,oB 5 .gtr 3 (tK 4) (iK 0) 3 4,oA 3 5 4]) (.cond (tK 3) (.seq (.ops [oX 2 (.assign (iK 1)) 3]) .ret) (.seq (.ops [oM 7 0 3,oB 8 .lss 3 (tK 7) (iK 0) 3 4,oA 6 8 4]) (.cond (tK 6) (.seq (.ops [oX 2 (.assign (.const (.int .i64 (-1)))) 3]) .ret) .skip))))) (.seq (.ops [oX 2 (.assign (iK 0)) 3]) .ret))
theorem zG:Tryz.f139.body.map (Bf lends)=some A4q:=by kernel_rfl
theorem ACG:Bz Tryz.f139 1=true:=by kernel_rfl
theorem AH9{a l:List D}{r:D×List D}(h:CF Y.env A4q (ES Ae l.length [ResultVar.tmp 2] r) (entry a l))(ha:a.length=1):Y.call 139 a l=some r:=
 Ab (Y:=Y) rfl Tryz.func139 (ha▸ACG) zG h
theorem ZJ(n_:Int){r:Int}(h:QP n_=some r):Y.call 139 [D.int .i64 n_] []=some (D.int .i64 r,[]):=by
 refine AH9 ?_ rfl;unfold A4q;unfold QP at h;rcases iS h with⟨e1,h⟩|⟨e1,h⟩
 ·obtain rfl:=Option.some.inj h
  simp (maxDischargeDepth:=9) only [↓AP,AQ,↓reduceIte,Nat.reduceEqDiff,Nat.reduceLT,Int.reduceNeg,e1]
 ·rcases iS h with⟨e2,h⟩|⟨e2,h⟩
  ·obtain rfl:=Option.some.inj h
   simp (maxDischargeDepth:=9) only [↓AP,AQ,↓reduceIte,Nat.reduceEqDiff,Nat.reduceLT,Int.reduceNeg,e1,e2]
  ·obtain rfl:=Option.some.inj h
   simp (maxDischargeDepth:=9) only [↓AP,AQ,↓reduceIte,Nat.reduceEqDiff,Nat.reduceLT,Int.reduceNeg,e1,e2]
noncomputable def Gx(a:List Int)(b:List Int)(Lf:Int):Option ((Int)⊕(Int⊕Unit)):= if Lf<(a.length:Int)then ck (0≤Lf∧Lf.toNat<a.length)<| ck (0≤Lf∧Lf.toNat<b.length)<| if(a.getD Lf.toNat default)=(b.getD Lf.toNat default)then some (Sum.inl (IntKind.i64.wrap (Lf+1))) else (QP (IntKind.i64.wrap ((a.getD Lf.toNat default)-(b.getD Lf.toNat default)))).bind fun ZH=> some (Sum.inr (Sum.inl ZH)) else some (Sum.inr (Sum.inr ()))
noncomputable def IB(a:List Int)(b:List Int)(v:Int):Option (Int⊕Unit):=I4 (fun v=>Gx a b v) v
noncomputable def Ql(a:List Int)(b:List Int):Option (Int):=
 (IB a b 0).bind fun AY=>
 match AY with
 | .inl q1000_=>
  some q1000_
 | .inr q1000_=>
  some 0
def Xh:SC:= .seq (.ops [oB 10 .lss 3 (tK 9) (tK 8) 3 0]) (.seq (.cond (tK 10) .skip (.exit 0)) (.seq (.block 1 (.seq (.ops [oM 11 9 3,oI 12 26 7 9,oL 13 3 12 3,oA 5 11 3,oA 6 13 3]) (.seq (.ops [oM 14 6 3,oM 15 1 26,oM 16 5 3,oI 17 26 15 16,oL 18 3 17 3,oB 19 .neq 3 (tK 14) (tK 18) 3 4]) (.cond (tK 19) (.seq (.ops [oM 20 6 3,oM 21 1 26,oM 22 5 3,oI 23 26 21 22,oL 24 3 23 3,oB 25 .sub 3 (tK 20) (tK 24) 3 3,oC 26 139 [(tK 25)] [3] 3,oA 4 26 3]) .ret) .skip)))) (.ops [oB 27 .add 3 (tK 9) (iK 1) 3 3,oM 9 27 3])))
def o9:SC:= .loop Xh
def A4r:SC:= .seq (.ops [oX 4 (.assign (iK 0)) 3]) (.seq (.seq (.ops [oM 7 0 26,oN 8 7 26,oX 9 (.move (iK 0)) 3]) (.block 0 o9)) (.seq (.ops [oX 4 (.assign (iK 0)) 3]) .ret))
theorem zH:Tryz.f121.body.map (Bf lends)=some A4r:=by kernel_rfl
theorem ACH:Bz Tryz.f121 2=true:=by kernel_rfl
theorem AHA{a l:List D}{r:D×List D}(h:CF Y.env A4r (ES Ae l.length [ResultVar.tmp 4] r) (entry a l))(ha:a.length=2):Y.call 121 a l=some r:=
 Ab (Y:=Y) rfl Tryz.func121 (ha▸ACH) zH h
def FO(a:List Int)(b:List Int)(Lf:Int)(s:St):Prop:=s.v 1=D.sl 3 (AL (D.int .i64) b)∧s.v 7=D.sl 3 (AL (D.int .i64) a)∧s.v 8=D.int .i64 (a.length:Int)∧s.v 9=D.int .i64 Lf
def Gy(a:List Int)(b:List Int)(r:Int⊕Unit)(ex:Ex)(s:St):Prop:=match r with
 | .inl q=>ex= .ret∧s.v 4=D.int .i64 q
 | .inr q=>ex= .exit 0
theorem VY(a:List Int)(b:List Int){v:Int}{s:St}{r:Int⊕Unit}(h:IB a b v=some r)(hM:FO a b v s):CF Y.env o9 (Gy a b r) s:=by
 unfold IB at h;refine BN (c:=Xh) (fun v=>Gx a b v) (fun v s=>FO a b v s) (Gy a b) ?_ h hM;clear h hM s v r;intro Lf s o hM h;unfold Gx at h;unfold FO at hM;obtain⟨m0,m1,m2,m3⟩:=hM;unfold Xh;rcases iS h with⟨e1,h⟩|⟨e1,h⟩
 ·obtain⟨e2,e3,h⟩:=Ei h;rcases iS h with⟨e4,h⟩|⟨e4,h⟩
  ·obtain rfl:=Option.some.inj h
   simp (maxDischargeDepth:=9) only [↓AP,AQ,↓reduceIte,Nat.reduceEqDiff,Nat.reduceLT,m0,m1,m2,m3,e1,e2.1,e2.2,e3.2,decide_eq_true e4,FO,GZ]
  ·obtain⟨ZH,hl5,h⟩:=Ag h;try dsimp only at h
   have c5:=ZJ (IntKind.i64.wrap ((a.getD Lf.toNat default)-(b.getD Lf.toNat default))) hl5
   obtain rfl:=Option.some.inj h
   simp (maxDischargeDepth:=9) only [↓AP,AQ,↓reduceIte,Nat.reduceEqDiff,Nat.reduceLT,Nat.reduceAdd,m0,m1,m2,m3,e1,e2.1,e2.2,e3.2,e4,c5,FO,Gy,MP]
 ·obtain rfl:=Option.some.inj h
  simp (maxDischargeDepth:=9) only [↓AP,AQ,↓reduceIte,Nat.reduceLT,m2,m3,e1,FO,Gy,KW]
theorem Xi(a:List Int)(b:List Int){r:Int}(h:Ql a b=some r):Y.call 121 [D.sl 3 (AL (D.int .i64) a),D.sl 3 (AL (D.int .i64) b)] []=some (D.int .i64 r,[]):=by
 refine AHA ?_ rfl;unfold A4r;unfold Ql at h;obtain⟨AY,hl2,h⟩:=Ag h;try dsimp only at h
 simp (maxDischargeDepth:=9) only [↓AP,AQ,↓reduceIte,Nat.reduceEqDiff,Nat.reduceLT];refine Av (VY a b hl2 ?_) ?_
 ·simp (maxDischargeDepth:=9) only [C9,DK,↓reduceIte,Nat.reduceEqDiff,Nat.reduceLT,FO]
 ·intro ex2 s2 hX2;rcases AY with q1000_|q1000_
  ·unfold Gy at hX2;dsimp only at hX2 h;obtain⟨rfl,n2_0⟩:=hX2
   obtain rfl:=Option.some.inj h
   simp (maxDischargeDepth:=9) only [↓AP,AQ,↓reduceIte,n2_0]
  ·unfold Gy at hX2;dsimp only at hX2 h
   obtain rfl:=hX2
   obtain rfl:=Option.some.inj h
   simp (maxDischargeDepth:=9) only [↓AP,AQ,↓reduceIte,Nat.reduceEqDiff,Nat.reduceLT]
def MV(l:List Int):Bool:=DC l (-1099511627776) 1099511627776
theorem Xj{l:List Int}(h:MV l=true){x:Int}(hx:x∈l): -1099511627776≤x∧x≤1099511627776:=by
 have:=JG.1 h x hx;exact Gb.1 this
theorem aI{l:List Int}{lo hi:Int}(h:DC l lo hi=true)(h1: -1099511627776≤lo)(h2:hi≤1099511627776):MV l=true:=by
 refine JG.2 fun x hx=> ?_;have:=Gb.1 (JG.1 h x hx)
 exact Gb.2 ⟨by omega,by omega⟩
theorem jJ(n:Int):QP n=some (if n<0 then-1 else if 0<n then 1 else 0):=by
 unfold QP;by_cases h1:n<0<;>by_cases h2:0<n<;>simp [h1,h2]<;>omega
theorem jK: ∀(a b p q:List Int),p.length=q.length→a.length=b.length→p.length+a.length<1099511627776→MV a=true→MV b=true→
  (IB (p++a) (q++b) (p.length:Int)).bind (fun r=>match r with| .inl q2=>some q2| .inr _=>some 0)=some (I5 a b):=by
 intro a
 induction a with
 |nil=>
  intro b p q hpq hab ha h1 h2;have:b=[]:=by cases b with|nil=>rfl|cons _ _=>simp at hab
  subst this;unfold IB;rw [EH (r:=Sum.inr ())]
  ·rfl
  ·simp only [Gx];rw [if_neg (Qk _)]
 |cons x a ih=>
  intro b p q hpq hab ha h1 h2
  cases b with
  |nil=>simp at hab
  |cons y b=>
   simp only [Lt]at ha hab;have sx1:=Xj h1 (KV ..);have sy1:=Xj h2 (KV ..);have ex:(p++x::a).getD (p.length:Int).toNat default=x:=by rw [IV];exact EN p (x::a) p.length rfl (by simp)
   have ey:(q++y::b).getD (p.length:Int).toNat default=y:=by rw [IV,hpq];exact EN q (y::b) q.length rfl (by simp)
   have step:Gx (p++x::a) (q++y::b) (p.length:Int)=if x=y then some (.inl (((p++[x]).length:Nat):Int))else some (.inr (.inl (if x<y then-1 else 1))):=by
    unfold Gx;rw [if_pos (QL ..),BJ (QM ..),BJ (by simp;omega),ex,ey,Kh _ (by omega),J9 _ (by omega),jJ,DJ]
    by_cases h1:x=y
    ·subst h1;simp
    ·rw [if_neg h1,if_neg h1];by_cases h2:x<y
     ·rw [if_pos (by omega),if_pos h2]
     ·rw [if_neg (by omega),if_pos (by omega),if_neg h2]
   have s1:MV a=true:=JG.2 fun z hz=>JG.1 h1 z (JY _ hz);have s2:MV b=true:=JG.2 fun z hz=>JG.1 h2 z (JY _ hz);unfold I5;by_cases h1:x=y
   ·rw [if_pos h1];rw [if_pos h1]at step;have:=ih b (p++[x]) (q++[y]) (by simp [hpq]) (by omega) (by simp;omega) s1 s2
    unfold IB at this ⊢;rw [Jg step];simpa using this
   ·rw [if_neg h1];rw [if_neg h1]at step;unfold IB;rw [EH step];rfl
theorem d9(a b:List Int)(ha:a.length<1099511627776)(hab:a.length=b.length)(h1:MV a=true)(h2:MV b=true):Ql a b=some (I5 a b):=by
 have:=jK a b [] [] rfl hab (by simpa using ha) h1 h2
 unfold Ql;simp only [NV,Pn,GY]at this;exact this
theorem dA(a:List Int)(b:List Int)(h0:a.length<1099511627776)(h1:a.length=b.length)(h2:MV a=true)(h3:MV b=true):Y.call 121 [D.sl 3 (AL (D.int .i64) a),D.sl 3 (AL (D.int .i64) b)] []=some (D.int .i64 (I5 a b),[]):=Xi a b (d9 a b h0 h1 h2 h3)
def OD(l:List (List Int))(size labels:Int)(i:Nat):Bool:=
 ((decide (((l.getD i default).length:Int)=size)&&G8 (l.getD i default))&&DC (l.getD i default) 0 (labels-1))&&(decide (i=0)||decide (I5 (l.getD (i-1) default) (l.getD i default)<0))
def KU(l:List (List Int))(size labels:Int):Bool:=(List.range l.length).all (OD l size labels)
def Kq(labels degree:Int)(ns es:List (List Int)):Bool:=((KL labels 1 8&&KL degree 1 4)&&KU ns degree labels)&&KU es 2 labels
theorem BB.getD{l:List (List Int)}(h:BB l)(i:Nat):(l.getD i default).length<1099511627776:=by
 rcases Nat.lt_or_ge i l.length with hi|hi
 ·rw [Am _ _ hi];exact h.at i hi
 ·rw [MQ,List.getElem?_eq_none hi];decide
noncomputable def Ct(list:List (List Int))(size:Int)(labels:Int)(Cb:Int):Option ((Int)⊕(Unit⊕Unit)):= if Cb<(list.length:Int)then ck (0≤Cb∧Cb.toNat<list.length)<| if((list.getD Cb.toNat default).length:Int)=size then ck ((list.getD Cb.toNat default).length<1099511627776)<| if(G8 (list.getD Cb.toNat default))=true then if(DC (list.getD Cb.toNat default) (0:Int) (IntKind.i64.wrap (labels-1)))=true then if 0<Cb then ck (0≤IntKind.i64.wrap (Cb-1)∧(IntKind.i64.wrap (Cb-1)).toNat<list.length)<| ck ((list.getD ((IntKind.i64.wrap (Cb-1)).toNat) default).length<1099511627776)<| if 0≤(I5 (list.getD ((IntKind.i64.wrap (Cb-1)).toNat) default) (list.getD Cb.toNat default))then some (Sum.inr (Sum.inl ())) else some (Sum.inl (IntKind.i64.wrap (Cb+1))) else some (Sum.inl (IntKind.i64.wrap (Cb+1))) else some (Sum.inr (Sum.inl ())) else some (Sum.inr (Sum.inl ())) else some (Sum.inr (Sum.inl ())) else some (Sum.inr (Sum.inr ()))
noncomputable def FX(list:List (List Int))(size:Int)(labels:Int)(v:Int):Option (Unit⊕Unit):=I4 (fun v=>Ct list size labels v) v
noncomputable def IC(list:List (List Int))(size:Int)(labels:Int):Option (Bool):=
 (FX list size labels 0).bind fun AY=>
 match AY with
 | .inl q1000_=>
  some false
 | .inr q1000_=>
  some true
def dB:SC:= .seq (.ops [oB 12 .lss 3 (tK 11) (tK 10) 3 0]) (.seq (.cond (tK 12) .skip (.exit 0)) (.seq (.block 1 (.seq (.ops [oM 13 11 3,oI 14 22 9 11,oL 15 26 14 26,oA 7 13 3,oA 8 15 26]) (.seq (.ops [oM 16 8 26,oN 17 16 26,oM 18 1 3,oB 19 .neq 3 (tK 17) (tK 18) 3 4,oM 20 19 4,⟨(some 21),(.move (tK 8)),26,(some (some 20,false))⟩,⟨(some 22),(.call ⟨(.value (.func 97)), #[(tK 21)], #[26]⟩),4,(some (some 20,false))⟩,⟨(some 23),(.unOp .not 4 (tK 22)),4,(some (some 20,false))⟩,oX 24 (.pick (tK 20) (.const (.bool true)) (tK 23)) 4,oM 25 24 4,⟨(some 26),(.move (tK 8)),26,(some (some 25,false))⟩,⟨(some 27),(.move (tK 2)),3,(some (some 25,false))⟩,⟨(some 28),(.binOp .sub 3 (tK 27) (iK 1) 3),3,(some (some 25,false))⟩,⟨(some 29),(.call ⟨(.value (.func 71)), #[(tK 26),(iK 0),(tK 28)], #[26,3,3]⟩),4,(some (some 25,false))⟩,⟨(some 30),(.unOp .not 4 (tK 29)),4,(some (some 25,false))⟩,oX 31 (.pick (tK 25) (.const (.bool true)) (tK 30)) 4,oM 32 31 4,⟨(some 33),(.move (tK 7)),3,(some (some 32,false))⟩,⟨(some 34),(.binOp .gtr 3 (tK 33) (iK 0) 3),4,(some (some 32,false))⟩,⟨(some 35),(.move (tK 34)),4,(some (some 32,false))⟩,⟨(some 36),(.move (tK 0)),22,(some (some 35,true))⟩,
 ⟨(some 37),(.move (tK 7)),3,(some (some 35,true))⟩,⟨(some 38),(.binOp .sub 3 (tK 37) (iK 1) 3),3,(some (some 35,true))⟩,⟨(some 39),(.indexAddr 22 (tK 36) (tK 38)),0,(some (some 35,true))⟩,⟨(some 40),(.load 26 (tK 39)),26,(some (some 35,true))⟩,⟨(some 41),(.move (tK 8)),26,(some (some 35,true))⟩,⟨(some 42),(.call ⟨(.value (.func 98)), #[(tK 40),(tK 41)], #[26,26]⟩),3,(some (some 35,true))⟩,⟨(some 43),(.binOp .geq 3 (tK 42) (iK 0) 3),4,(some (some 35,true))⟩,⟨(some 44),(.pick (tK 35) (tK 43) (.const (.bool false))),4,(some (some 32,false))⟩,oX 45 (.pick (tK 32) (.const (.bool true)) (tK 44)) 4]) (.cond (tK 45) (.seq (.ops [oX 6 (.assign (.const (.bool false))) 4]) .ret) .skip)))) (.ops [oB 46 .add 3 (tK 11) (iK 1) 3 3,oM 11 46 3])))
def vg:SC:= .loop dB
def k65:SC:= .seq (.ops [oX 6 (.assign (.const (.bool false))) 4]) (.seq (.seq (.ops [oM 9 0 22,oN 10 9 22,oX 11 (.move (iK 0)) 3]) (.block 0 vg)) (.seq (.ops [oX 6 (.assign (.const (.bool true))) 4]) .ret))
theorem A4s:Tryz.f65.body.map (Bf lends)=some k65:=by kernel_rfl
theorem AHC:Bz Tryz.f65 3=true:=by kernel_rfl
theorem c65{a l:List D}{r:D×List D}(h:CF Y.env k65 (ES Ae l.length [ResultVar.tmp 6] r) (entry a l))(ha:a.length=3):Y.call 65 a l=some r:=
 Ab (Y:=Y) rfl Tryz.func65 (ha▸AHC) A4s h
def BM(list:List (List Int))(size:Int)(labels:Int)(Cb:Int)(s:St):Prop:=s.v 0=D.sl 26 (AL (fun x=>D.sl 3 (AL (D.int .i64) x)) list)∧s.v 1=D.int .i64 size∧s.v 2=D.int .i64 labels∧s.v 9=D.sl 26 (AL (fun x=>D.sl 3 (AL (D.int .i64) x)) list)∧s.v 10=D.int .i64 (list.length:Int)∧s.v 11=D.int .i64 Cb
def Bt(list:List (List Int))(size:Int)(labels:Int)(r:Unit⊕Unit)(ex:Ex)(s:St):Prop:=match r with
 | .inl q=>ex= .ret∧s.v 6=D.bool false
 | .inr q=>ex= .exit 0
theorem OE(list:List (List Int))(size:Int)(labels:Int){v:Int}{s:St}{r:Unit⊕Unit}(h:FX list size labels v=some r)(hM:BM list size labels v s):CF Y.env vg (Bt list size labels r) s:=by
 unfold FX at h;refine BN (c:=dB) (fun v=>Ct list size labels v) (fun v s=>BM list size labels v s) (Bt list size labels) ?_ h hM;clear h hM s v r;intro Cb s o hM h;unfold Ct at h;unfold BM at hM;obtain⟨m0,m1,m2,m3,m4,m5⟩:=hM;unfold dB;rcases iS h with⟨e1,h⟩|⟨e1,h⟩
 ·obtain⟨e2,h⟩:=FK h;rcases iS h with⟨e3,h⟩|⟨e3,h⟩
  ·obtain⟨e4,h⟩:=FK h;have c5:=M4 (list.getD Cb.toNat default) e4;rcases iS h with⟨e6,h⟩|⟨e6,h⟩
   ·have c7:=NM (list.getD Cb.toNat default) (0:Int) (IntKind.i64.wrap (labels-1)) e4;rcases iS h with⟨e8,h⟩|⟨e8,h⟩
    ·rcases iS h with⟨e9,h⟩|⟨e9,h⟩
     ·obtain⟨e10,e11,h⟩:=Ei h;have oD:=MU (list.getD ((IntKind.i64.wrap (Cb-1)).toNat) default) (list.getD Cb.toNat default) e11 e4;rcases iS h with⟨e13,h⟩|⟨e13,h⟩
      ·obtain rfl:=Option.some.inj h
       simp (maxDischargeDepth:=9) only [↓AP,AQ,↓reduceIte,Nat.reduceEqDiff,Nat.reduceLT,Nat.reduceAdd,m0,m1,m2,m3,m4,m5,e1,e2.1,e2.2,decide_eq_true e3,c5,e6,c7,e8,e9,e10.1,e10.2,oD,e13,BM,Bt,MP]
      ·obtain rfl:=Option.some.inj h
       simp (maxDischargeDepth:=9) only [↓AP,AQ,↓reduceIte,Nat.reduceEqDiff,Nat.reduceLT,Nat.reduceAdd,m0,m1,m2,m3,m4,m5,e1,e2.1,e2.2,decide_eq_true e3,c5,e6,c7,e8,e9,e10.1,e10.2,oD,e13,BM,GZ]
     ·obtain rfl:=Option.some.inj h
      simp (maxDischargeDepth:=9) only [↓AP,AQ,↓reduceIte,Nat.reduceEqDiff,Nat.reduceLT,Nat.reduceAdd,m0,m1,m2,m3,m4,m5,e1,e2.1,e2.2,decide_eq_true e3,c5,e6,c7,e8,e9,BM,GZ]
    ·have e8f:(DC (list.getD Cb.toNat default) (0:Int) (IntKind.i64.wrap (labels-1)))=false:=Fx.mpr e8
     obtain rfl:=Option.some.inj h
     simp (maxDischargeDepth:=9) only [↓AP,AQ,↓reduceIte,Nat.reduceEqDiff,Nat.reduceLT,Nat.reduceAdd,m1,m2,m3,m4,m5,e1,e2.1,e2.2,decide_eq_true e3,c5,e6,c7,e8f,BM,Bt,MP]
   ·have e6f:(G8 (list.getD Cb.toNat default))=false:=Fx.mpr e6
    obtain rfl:=Option.some.inj h
    simp (maxDischargeDepth:=9) only [↓AP,AQ,↓reduceIte,Nat.reduceEqDiff,Nat.reduceLT,Nat.reduceAdd,m1,m3,m4,m5,e1,e2.1,e2.2,decide_eq_true e3,c5,e6f,BM,Bt,MP]
  ·obtain rfl:=Option.some.inj h
   simp (maxDischargeDepth:=9) only [↓AP,AQ,↓reduceIte,Nat.reduceEqDiff,Nat.reduceLT,m1,m3,m4,m5,e1,e2.1,e2.2,e3,BM,Bt,MP]
 ·obtain rfl:=Option.some.inj h
  simp (maxDischargeDepth:=9) only [↓AP,AQ,↓reduceIte,Nat.reduceLT,m4,m5,e1,BM,Bt,KW]
theorem Oi(list:List (List Int))(size:Int)(labels:Int){r:Bool}(h:IC list size labels=some r):Y.call 65 [D.sl 26 (AL (fun x=>D.sl 3 (AL (D.int .i64) x)) list),D.int .i64 size,D.int .i64 labels] []=some (D.bool r,[]):=by
 refine c65 ?_ rfl;unfold k65;unfold IC at h;obtain⟨AY,hl2,h⟩:=Ag h;try dsimp only at h
 simp (maxDischargeDepth:=9) only [↓AP,AQ,↓reduceIte,Nat.reduceEqDiff,Nat.reduceLT];refine Av (OE list size labels hl2 ?_) ?_
 ·simp (maxDischargeDepth:=9) only [C9,DK,↓reduceIte,Nat.reduceEqDiff,Nat.reduceLT,BM]
 ·intro ex2 s2 hX2;rcases AY with q1000_|q1000_
  ·unfold Bt at hX2;dsimp only at hX2 h;obtain⟨rfl,n2_0⟩:=hX2
   obtain rfl:=Option.some.inj h
   simp (maxDischargeDepth:=9) only [↓AP,AQ,↓reduceIte,n2_0]
  ·unfold Bt at hX2;dsimp only at hX2 h
   obtain rfl:=hX2
   obtain rfl:=Option.some.inj h
   simp (maxDischargeDepth:=9) only [↓AP,AQ,↓reduceIte,Nat.reduceEqDiff,Nat.reduceLT]
theorem Pe(l:List (List Int))(size labels:Int)(h:BB l)(hl:1≤labels∧labels≤8):IC l size labels=some (KU l size labels):=by
 have h1:=h.1;unfold IC FX;have key:=Db (fun v=>Ct l size labels v) (fun i=>(i:Int)) l.length (OD l size labels) (.inl ()) (.inr ()) ?_ ?_
 ·simp only [GY]at key;rw [key];unfold KU
  cases (List.range l.length).all (OD l size labels)<;>rfl
 ·intro i hi;simp only [Ct];rw [if_pos (CJ hi),BJ (Df hi),IV,Kh i (by omega),J9 (labels-1) (by omega)]
  have hs:=h.getD i;have hs1:=h.getD (i-1);rw [BJ hs];unfold OD;generalize l.getD i default=x at*;by_cases q1:(x.length:Int)=size
  ·rw [if_pos q1]
   cases q2:G8 x with
   |false=>simp
   |true=>
    rw [if_pos rfl]
    cases q3:DC x 0 (labels-1)with
    |false=>simp
    |true=>
     rw [if_pos rfl];by_cases q4:i=0
     ·simp [q1,q4]
     ·rw [if_pos (by omega),J9 _ (by omega),BJ (by omega),show((i:Int)-1).toNat=i-1 by omega,BJ hs1]
      generalize l.getD (i-1) default=y at*;by_cases q5:0≤I5 y x
      ·rw [if_pos q5,if_neg (by simp;intro _;exact⟨q4,q5⟩)]
      ·rw [if_neg q5,if_pos (by simp [q1,q4];omega)]
  ·have e:=decide_eq_false q1;rw [if_neg q1,if_neg (by rw [e];simp)]
 ·simp only [Ct];rw [if_neg (Ar _)]
theorem LJ(list:List (List Int))(size:Int)(labels:Int)(h0:BB list)(h1:1≤labels∧labels≤8):Y.call 65 [D.sl 26 (AL (fun x=>D.sl 3 (AL (D.int .i64) x)) list),D.int .i64 size,D.int .i64 labels] []=some (D.bool (KU list size labels),[]):=Oi list size labels (Pe list size labels h0 h1)
noncomputable def FP(l:List (List Int))(size:Int)(labels:Int)(Bg:Int)(k:Int):Option ((Int)⊕(Unit⊕Unit)):= if k<size then ck (0≤IntKind.i64.wrap (k-1)∧(IntKind.i64.wrap (k-1)).toNat<(l.getD Bg.toNat default).length)<| ck (0≤k∧k.toNat<(l.getD Bg.toNat default).length)<| if((l.getD Bg.toNat default).getD k.toNat default)<((l.getD Bg.toNat default).getD ((IntKind.i64.wrap (k-1)).toNat) default)then some (Sum.inr (Sum.inl ())) else some (Sum.inl (IntKind.i64.wrap (k+1))) else some (Sum.inr (Sum.inr ()))
noncomputable def Jk(l:List (List Int))(size:Int)(labels:Int)(Bg:Int)(v:Int):Option (Unit⊕Unit):=I4 (fun v=>FP l size labels Bg v) v
noncomputable def Gz(l:List (List Int))(size:Int)(labels:Int)(Bg:Int):Option ((Int)⊕(Unit⊕Unit)):=
 if Bg<(l.length:Int)then
  ck (0≤Bg∧Bg.toNat<l.length)<|
  if((l.getD Bg.toNat default).length:Int)=size then
   ck ((l.getD Bg.toNat default).length<1099511627776)<|
   if(DC (l.getD Bg.toNat default) (0:Int) (IntKind.i64.wrap (labels-1)))=true then
    if 0<Bg then
     ck (0≤IntKind.i64.wrap (Bg-1)∧(IntKind.i64.wrap (Bg-1)).toNat<l.length)<|
     ck ((l.getD ((IntKind.i64.wrap (Bg-1)).toNat) default).length<1099511627776)<|
     ck ((l.getD ((IntKind.i64.wrap (Bg-1)).toNat) default).length=(l.getD Bg.toNat default).length)<|
     ck (MV (l.getD ((IntKind.i64.wrap (Bg-1)).toNat) default)=true)<|
     ck (MV (l.getD Bg.toNat default)=true)<|
     if 0≤(I5 (l.getD ((IntKind.i64.wrap (Bg-1)).toNat) default) (l.getD Bg.toNat default))then
      some (Sum.inr (Sum.inl ()))
     else
      (Jk l size labels Bg 1).bind fun AY=>
      match AY with
      | .inl q1000_=>
       some (Sum.inr (Sum.inl ()))
      | .inr q1000_=>
       some (Sum.inl (IntKind.i64.wrap (Bg+1)))
    else
     (Jk l size labels Bg 1).bind fun AY=>
     match AY with
     | .inl q1000_=>
      some (Sum.inr (Sum.inl ()))
     | .inr q1000_=>
      some (Sum.inl (IntKind.i64.wrap (Bg+1)))
   else
    some (Sum.inr (Sum.inl ()))
  else
   some (Sum.inr (Sum.inl ()))
 else
  some (Sum.inr (Sum.inr ()))
noncomputable def Mg(l:List (List Int))(size:Int)(labels:Int)(v:Int):Option (Unit⊕Unit):=I4 (fun v=>Gz l size labels v) v
noncomputable def Qm(l:List (List Int))(size:Int)(labels:Int):Option (Bool):=
 (Mg l size labels 0).bind fun Ec=>
 match Ec with
 | .inl q1001_=>
  some false
 | .inr q1001_=>
  some true
def dC:SC:= .seq (.seq (.ops [oM 42 9 3,oM 43 1 3,oB 44 .lss 3 (tK 42) (tK 43) 3 4]) (.cond (tK 44) .skip (.exit 2))) (.seq (.block 3 (.seq (.draws [(⟨[47,8,8],[47,48,49,50,51,52,53,54,55,56],[47]⟩,oM 47 8 26),(⟨[48,9,9],[47,48,49,50,51,52,53,54,55,56],[48]⟩,oM 48 9 3),(⟨[49,48,9],[47,48,49,50,51,52,53,54,55,56],[49]⟩,oB 49 .sub 3 (tK 48) (iK 1) 3 3),(⟨[50,47,49,8,49],[47,48,49,50,51,52,53,54,55,56],[50]⟩,oI 50 26 47 49),(⟨[51,50,8],[47,48,49,50,51,52,53,54,55,56],[51]⟩,oL 51 3 50 3),(⟨[52,8,8],[47,48,49,50,51,52,53,54,55,56],[52]⟩,oM 52 8 26),(⟨[53,9,9],[47,48,49,50,51,52,53,54,55,56],[53]⟩,oM 53 9 3),(⟨[54,52,53,8,9],[47,48,49,50,51,52,53,54,55,56],[54]⟩,oI 54 26 52 53),(⟨[55,54,8],[47,48,49,50,51,52,53,54,55,56],[55]⟩,oL 55 3 54 3),(⟨[56,51,55,8,8],[47,48,49,50,51,52,53,54,55,56],[56]⟩,oB 56 .gtr 3 (tK 51) (tK 55) 3 4)]) (.cond (tK 56) (.seq (.ops [oX 6 (.assign (.const (.bool false))) 4]) .ret) .skip))) (.ops [oM 45 9 3,oB 46 .add 3 (tK 45) (iK 1) 3 3,oA 9 46 3]))
def vk:SC:= .loop dC
def dD:SC:= .seq (.ops [oB 13 .lss 3 (tK 12) (tK 11) 3 0]) (.seq (.cond (tK 13) .skip (.exit 0)) (.seq (.block 1 (.seq (.ops [oM 14 12 3,oI 15 22 10 12,oL 16 26 15 26,oA 7 14 3,oA 8 16 26]) (.seq (.seq (.ops [oM 17 8 26,oN 18 17 26,oM 19 1 3,oB 20 .neq 3 (tK 18) (tK 19) 3 4,oM 21 20 4,⟨(some 22),(.move (tK 8)),26,(some (some 21,false))⟩,⟨(some 23),(.move (tK 2)),3,(some (some 21,false))⟩,⟨(some 24),(.binOp .sub 3 (tK 23) (iK 1) 3),3,(some (some 21,false))⟩,⟨(some 25),(.call ⟨(.value (.func 59)), #[(tK 22),(iK 0),(tK 24)], #[26,3,3]⟩),4,(some (some 21,false))⟩,⟨(some 26),(.unOp .not 4 (tK 25)),4,(some (some 21,false))⟩,oX 27 (.pick (tK 21) (.const (.bool true)) (tK 26)) 4,oM 28 27 4,⟨(some 29),(.move (tK 7)),3,(some (some 28,false))⟩,⟨(some 30),(.binOp .gtr 3 (tK 29) (iK 0) 3),4,(some (some 28,false))⟩,⟨(some 31),(.move (tK 30)),4,(some (some 28,false))⟩,⟨(some 32),(.move (tK 0)),22,(some (some 31,true))⟩,⟨(some 33),(.move (tK 7)),3,(some (some 31,true))⟩,⟨(some 34),(.binOp .sub 3 (tK 33) (iK 1) 3),3,(some (some 31,true))⟩,⟨(some 35),(.indexAddr 22 (tK 32) (tK 34)),0,(some (some 31,true))⟩,⟨(some 36),(.load 26 (tK 35)),26,(some (some 31,true))⟩,⟨(some 37),(.move (tK 8)),26,(some (some 31,true))⟩,
 ⟨(some 38),(.call ⟨(.value (.func 121)), #[(tK 36),(tK 37)], #[26,26]⟩),3,(some (some 31,true))⟩,⟨(some 39),(.binOp .geq 3 (tK 38) (iK 0) 3),4,(some (some 31,true))⟩,⟨(some 40),(.pick (tK 31) (tK 39) (.const (.bool false))),4,(some (some 28,false))⟩,oX 41 (.pick (tK 28) (.const (.bool true)) (tK 40)) 4]) (.cond (tK 41) (.seq (.ops [oX 6 (.assign (.const (.bool false))) 4]) .ret) .skip)) (.seq (.ops [oX 9 (.assign (iK 1)) 3]) (.block 2 vk))))) (.ops [oB 57 .add 3 (tK 12) (iK 1) 3 3,oM 12 57 3])))
def vo:SC:= .loop dD
def k90:SC:= .seq (.ops [oX 6 (.assign (.const (.bool false))) 4]) (.seq (.seq (.ops [oM 10 0 22,oN 11 10 22,oX 12 (.move (iK 0)) 3]) (.block 0 vo)) (.seq (.ops [oX 6 (.assign (.const (.bool true))) 4]) .ret))
theorem A4t:Tryz.f90.body.map (Bf lends)=some k90:=by kernel_rfl
theorem AHE:Bz Tryz.f90 3=true:=by kernel_rfl
theorem c90{a l:List D}{r:D×List D}(h:CF Y.env k90 (ES Ae l.length [ResultVar.tmp 6] r) (entry a l))(ha:a.length=3):Y.call 90 a l=some r:=
 Ab (Y:=Y) rfl Tryz.func90 (ha▸AHE) A4t h
def EO(l:List (List Int))(size:Int)(labels:Int)(Bg:Int)(k:Int)(s:St):Prop:=s.v 0=D.sl 26 (AL (fun x=>D.sl 3 (AL (D.int .i64) x)) l)∧s.v 1=D.int .i64 size∧s.v 2=D.int .i64 labels∧s.v 8=D.sl 3 (AL (D.int .i64) (l.getD Bg.toNat default))∧s.v 9=D.int .i64 k∧s.v 10=D.sl 26 (AL (fun x=>D.sl 3 (AL (D.int .i64) x)) l)∧s.v 11=D.int .i64 (l.length:Int)∧s.v 12=D.int .i64 Bg
def EP(l:List (List Int))(size:Int)(labels:Int)(Bg:Int)(r:Unit⊕Unit)(ex:Ex)(s:St):Prop:=match r with
 | .inl q=>ex= .ret∧s.v 6=D.bool false
 | .inr q=>ex= .exit 2∧s.v 0=D.sl 26 (AL (fun x=>D.sl 3 (AL (D.int .i64) x)) l)∧s.v 1=D.int .i64 size∧s.v 2=D.int .i64 labels∧s.v 10=D.sl 26 (AL (fun x=>D.sl 3 (AL (D.int .i64) x)) l)∧s.v 11=D.int .i64 (l.length:Int)∧s.v 12=D.int .i64 Bg
theorem PZ(l:List (List Int))(size:Int)(labels:Int)(Bg:Int){v:Int}{s:St}{r:Unit⊕Unit}(h:Jk l size labels Bg v=some r)(hM:EO l size labels Bg v s):CF Y.env vk (EP l size labels Bg r) s:=by
 unfold Jk at h;refine BN (c:=dC) (fun v=>FP l size labels Bg v) (fun v s=>EO l size labels Bg v s) (EP l size labels Bg) ?_ h hM;clear h hM s v r;intro k s o hM h;unfold FP at h;unfold EO at hM;obtain⟨m0,m1,m2,m3,m4,m5,m6,m7⟩:=hM;unfold dC;rcases iS h with⟨e15,h⟩|⟨e15,h⟩
 ·obtain⟨e16,e17,h⟩:=Ei h;rcases iS h with⟨e18,h⟩|⟨e18,h⟩
  ·obtain rfl:=Option.some.inj h
   simp (maxDischargeDepth:=9) only [↓AP,AQ,↓reduceIte,Nat.reduceEqDiff,Nat.reduceLT,m1,m3,m4,e15,e16.1,e16.2,e17.1,e17.2,e18,EO,EP,MP]
  ·obtain rfl:=Option.some.inj h
   simp (maxDischargeDepth:=9) only [↓AP,AQ,↓reduceIte,Nat.reduceEqDiff,Nat.reduceLT,m0,m1,m2,m3,m4,m5,m6,m7,e15,e16.1,e16.2,e17.1,e17.2,e18,EO,GZ]
 ·obtain rfl:=Option.some.inj h
  simp (maxDischargeDepth:=9) only [↓AP,AQ,↓reduceIte,Nat.reduceEqDiff,Nat.reduceLT,m0,m1,m2,m4,m5,m6,m7,e15,EO,EP,KW]
def Ci(l:List (List Int))(size:Int)(labels:Int)(Bg:Int)(s:St):Prop:=s.v 0=D.sl 26 (AL (fun x=>D.sl 3 (AL (D.int .i64) x)) l)∧s.v 1=D.int .i64 size∧s.v 2=D.int .i64 labels∧s.v 10=D.sl 26 (AL (fun x=>D.sl 3 (AL (D.int .i64) x)) l)∧s.v 11=D.int .i64 (l.length:Int)∧s.v 12=D.int .i64 Bg
def DD(l:List (List Int))(size:Int)(labels:Int)(r:Unit⊕Unit)(ex:Ex)(s:St):Prop:=match r with
 | .inl q=>ex= .ret∧s.v 6=D.bool false
 | .inr q=>ex= .exit 0
theorem VZ(l:List (List Int))(size:Int)(labels:Int){v:Int}{s:St}{r:Unit⊕Unit}(h:Mg l size labels v=some r)(hM:Ci l size labels v s):CF Y.env vo (DD l size labels r) s:=by
 unfold Mg at h;refine BN (c:=dD) (fun v=>Gz l size labels v) (fun v s=>Ci l size labels v s) (DD l size labels) ?_ h hM;clear h hM s v r;intro Bg s o hM h;unfold Gz at h;unfold Ci at hM;obtain⟨m0,m1,m2,m3,m4,m5⟩:=hM;unfold dD;rcases iS h with⟨e1,h⟩|⟨e1,h⟩
 ·obtain⟨e2,h⟩:=FK h;rcases iS h with⟨e3,h⟩|⟨e3,h⟩
  ·obtain⟨e4,h⟩:=FK h;have c5:=Ra (l.getD Bg.toNat default) (0:Int) (IntKind.i64.wrap (labels-1)) e4;rcases iS h with⟨e6,h⟩|⟨e6,h⟩
   ·rcases iS h with⟨e7,h⟩|⟨e7,h⟩
    ·obtain⟨e8,e9,e10,e11,h⟩:=yl h;obtain⟨e12,h⟩:=FK h;have c13:=dA (l.getD ((IntKind.i64.wrap (Bg-1)).toNat) default) (l.getD Bg.toNat default) e9 e10 e11 e12;rcases iS h with⟨e14,h⟩|⟨e14,h⟩
     ·obtain rfl:=Option.some.inj h
      simp (maxDischargeDepth:=9) only [↓AP,AQ,↓reduceIte,Nat.reduceEqDiff,Nat.reduceLT,Nat.reduceAdd,m0,m1,m2,m3,m4,m5,e1,e2.1,e2.2,decide_eq_true e3,c5,e6,e7,e8.1,e8.2,c13,e14,Ci,DD,MP]
     ·obtain⟨AY,hl16,h⟩:=Ag h;try dsimp only at h
      simp (maxDischargeDepth:=9) only [↓AP,AQ,↓reduceIte,Nat.reduceEqDiff,Nat.reduceLT,Nat.reduceAdd,m0,m1,m2,m3,m4,m5,e1,e2.1,e2.2,decide_eq_true e3,c5,e6,e7,e8.1,e8.2,c13,e14];refine Av (PZ l size labels Bg hl16 ?_) ?_
      ·simp (maxDischargeDepth:=9) only [C9,↓reduceIte,Nat.reduceEqDiff,m0,m1,m2,m3,m4,m5,EO]
      ·intro ex16 s16 hX16;rcases AY with q1000_|q1000_
       ·unfold EP at hX16;dsimp only at hX16 h;obtain⟨rfl,n16_0⟩:=hX16
        obtain rfl:=Option.some.inj h
        simp (maxDischargeDepth:=9) only [↓AP,AQ,n16_0,Ci,DD,MP]
       ·unfold EP at hX16;dsimp only at hX16 h;obtain⟨rfl,n16_0,n16_1,n16_2,n16_3,n16_4,n16_5⟩:=hX16
        obtain rfl:=Option.some.inj h
        simp (maxDischargeDepth:=9) only [↓AP,AQ,↓reduceIte,Nat.reduceEqDiff,Nat.reduceLT,n16_0,n16_1,n16_2,n16_3,n16_4,n16_5,Ci,GZ]
    ·obtain⟨AY,hl9,h⟩:=Ag h;try dsimp only at h
     simp (maxDischargeDepth:=9) only [↓AP,AQ,↓reduceIte,Nat.reduceEqDiff,Nat.reduceLT,Nat.reduceAdd,m1,m2,m3,m4,m5,e1,e2.1,e2.2,decide_eq_true e3,c5,e6,e7];refine Av (PZ l size labels Bg hl9 ?_) ?_
     ·simp (maxDischargeDepth:=9) only [C9,↓reduceIte,Nat.reduceEqDiff,m0,m1,m2,m3,m4,m5,EO]
     ·intro ex9 s9 hX9;rcases AY with q1000_|q1000_
      ·unfold EP at hX9;dsimp only at hX9 h;obtain⟨rfl,n9_0⟩:=hX9
       obtain rfl:=Option.some.inj h
       simp (maxDischargeDepth:=9) only [↓AP,AQ,n9_0,Ci,DD,MP]
      ·unfold EP at hX9;dsimp only at hX9 h;obtain⟨rfl,n9_0,n9_1,n9_2,n9_3,n9_4,n9_5⟩:=hX9
       obtain rfl:=Option.some.inj h
       simp (maxDischargeDepth:=9) only [↓AP,AQ,↓reduceIte,Nat.reduceEqDiff,Nat.reduceLT,n9_0,n9_1,n9_2,n9_3,n9_4,n9_5,Ci,GZ]
   ·have e6f:(DC (l.getD Bg.toNat default) (0:Int) (IntKind.i64.wrap (labels-1)))=false:=Fx.mpr e6
    obtain rfl:=Option.some.inj h
    simp (maxDischargeDepth:=9) only [↓AP,AQ,↓reduceIte,Nat.reduceEqDiff,Nat.reduceLT,Nat.reduceAdd,m1,m2,m3,m4,m5,e1,e2.1,e2.2,decide_eq_true e3,c5,e6f,Ci,DD,MP]
  ·obtain rfl:=Option.some.inj h
   simp (maxDischargeDepth:=9) only [↓AP,AQ,↓reduceIte,Nat.reduceEqDiff,Nat.reduceLT,m1,m3,m4,m5,e1,e2.1,e2.2,e3,Ci,DD,MP]
 ·obtain rfl:=Option.some.inj h
  simp (maxDischargeDepth:=9) only [↓AP,AQ,↓reduceIte,Nat.reduceLT,m4,m5,e1,Ci,DD,KW]
theorem Xk(l:List (List Int))(size:Int)(labels:Int){r:Bool}(h:Qm l size labels=some r):Y.call 90 [D.sl 26 (AL (fun x=>D.sl 3 (AL (D.int .i64) x)) l),D.int .i64 size,D.int .i64 labels] []=some (D.bool r,[]):=by
 refine c90 ?_ rfl;unfold k90;unfold Qm at h;obtain⟨Ec,hl2,h⟩:=Ag h;try dsimp only at h
 simp (maxDischargeDepth:=9) only [↓AP,AQ,↓reduceIte,Nat.reduceEqDiff,Nat.reduceLT];refine Av (VZ l size labels hl2 ?_) ?_
 ·simp (maxDischargeDepth:=9) only [C9,DK,↓reduceIte,Nat.reduceEqDiff,Nat.reduceLT,Ci]
 ·intro ex2 s2 hX2;rcases Ec with q1001_|q1001_
  ·unfold DD at hX2;dsimp only at hX2 h;obtain⟨rfl,n2_0⟩:=hX2
   obtain rfl:=Option.some.inj h
   simp (maxDischargeDepth:=9) only [↓AP,AQ,↓reduceIte,n2_0]
  ·unfold DD at hX2;dsimp only at hX2 h
   obtain rfl:=hX2
   obtain rfl:=Option.some.inj h
   simp (maxDischargeDepth:=9) only [↓AP,AQ,↓reduceIte,Nat.reduceEqDiff,Nat.reduceLT]
theorem ZK(l:List (List Int))(size labels t:Int)(x:List Int)(hx:l.getD t.toNat default=x)(hs:(x.length:Int)=size)(hb:x.length<1099511627776):
  Jk l size labels t 1=some (if G8 x=true then .inr ()else .inl ()):=by
 unfold Jk;rcases Nat.eq_zero_or_pos x.length with h0|h0
 ·rw [EH (r:=Sum.inr ())]
  ·simp [G8,h0]
  ·simp only [FP];rw [if_neg (by omega)]
 ·have key:=Db (fun v=>FP l size labels t v) (fun j=>(j:Int)+1) (x.length-1) (fun i=>decide (x.getD i default≤x.getD (i+1) default)) (.inl ()) (.inr ()) ?_ ?_
  ·simp only [GY,Int.zero_add]at key;rw [key];rfl
  ·intro i hi;simp only [FP];rw [hx,if_pos (by omega),J9 _ (by omega),J9 _ (by omega),BJ (by omega),BJ (by omega),show((i:Int)+1).toNat=i+1 by omega,show((i:Int)+1-1).toNat=i by omega]
   simp only [decide_eq_true_eq];by_cases hq:x.getD (i+1) default<x.getD i default
   ·rw [if_pos hq,if_neg (by omega)]
   ·rw [if_neg hq,if_pos (by omega)];rfl
  ·simp only [FP];rw [if_neg (by omega)]
theorem dE(l:List (List Int))(size labels:Int)(h:BB l)(hl:1≤labels∧labels≤8):Qm l size labels=some (KU l size labels):=by
 have h1:=h.1;unfold Qm Mg;have key:=j6 (fun v=>Gz l size labels v) (fun i=>(i:Int)) l.length (OD l size labels) (.inl ()) (.inr ()) ?_ ?_
 ·simp only [GY]at key;rw [key];unfold KU
  cases (List.range l.length).all (OD l size labels)<;>rfl
 ·intro i hi hp;simp only [Gz];rw [if_pos (CJ hi),BJ (Df hi),Kh i (by omega),J9 (labels-1) (by omega)]
  have hs:=h.getD i;have hs1:=h.getD (i-1);rw [IV,BJ hs];by_cases q1:((l.getD i default).length:Int)=size
  ·rw [if_pos q1];have inner:=ZK l size labels (i:Int) (l.getD i default) (by rw [IV]) q1 hs
   rw [inner];have hprev:=hp (i-1);unfold OD at hprev ⊢;generalize l.getD i default=x at*
   cases q3:DC x 0 (labels-1)with
   |false=>simp
   |true=>
    rw [if_pos rfl];by_cases q4:i=0
    ·rw [if_neg (by omega)]
     cases q2:G8 x<;>simp [q1,q4]
    ·rw [if_pos (by omega),J9 _ (by omega),BJ (by omega),show((i:Int)-1).toNat=i-1 by omega,BJ hs1]
     have hprev:=hprev (by omega)
     generalize l.getD (i-1) default=y at*;simp only [Fa,decide_eq_true_eq]at hprev;rw [BJ (by omega),BJ (aI hprev.1.2 (by omega) (by omega)),BJ (aI q3 (by omega) (by omega))]
     by_cases q5:0≤I5 y x
     ·rw [if_pos q5,if_neg (by simp;intro _ _;exact⟨q4,q5⟩)]
     ·rw [if_neg q5];have q6:I5 y x<0:=by omega
      cases q2:G8 x<;>simp [q1,q6]
  ·have e:=decide_eq_false q1;unfold OD;rw [if_neg q1,if_neg (by rw [e];simp)]
 ·intro _;simp only [Gz];rw [if_neg (Ar _)]
theorem TB(l:List (List Int))(size:Int)(labels:Int)(h0:BB l)(h1:1≤labels∧labels≤8):Y.call 90 [D.sl 26 (AL (fun x=>D.sl 3 (AL (D.int .i64) x)) l),D.int .i64 size,D.int .i64 labels] []=some (D.bool (KU l size labels),[]):=Xk l size labels (dE l size labels h0 h1)
noncomputable def Nr(AR:Int)(AV:Int)(AX:List (List Int))(AZ:List (List Int)):Option (Bool):= if(KL AR (1:Int) (8:Int))=true then if(KL AV (1:Int) (4:Int))=true then ck (BB AX)<| ck (1≤AR∧AR≤8)<| if(KU AX AV AR)=true then ck (BB AZ)<| some (KU AZ (2:Int) AR) else some false else some false else some false
def k39:SC:= .seq (.ops [oX 1 (.box 34 (tK 0)) 0,oX 2 (.assign (.const (.bool false))) 4]) (.seq (.ops [oF 3 34 1 0,oL 4 3 3 3,oC 5 64 [(tK 4),(iK 1),(iK 8)] [3,3,3] 4,oM 6 5 4,⟨(some 7),(.fieldAddr 34 (tK 1) 1),0,(some (some 6,true))⟩,⟨(some 8),(.load 3 (tK 7)),3,(some (some 6,true))⟩,⟨(some 9),(.call ⟨(.value (.func 64)), #[(tK 8),(iK 1),(iK 4)], #[3,3,3]⟩),4,(some (some 6,true))⟩,oX 10 (.pick (tK 6) (tK 9) (.const (.bool false))) 4,oM 11 10 4,⟨(some 12),(.fieldAddr 34 (tK 1) 2),0,(some (some 11,true))⟩,⟨(some 13),(.load 22 (tK 12)),22,(some (some 11,true))⟩,⟨(some 14),(.fieldAddr 34 (tK 1) 1),0,(some (some 11,true))⟩,⟨(some 15),(.load 3 (tK 14)),3,(some (some 11,true))⟩,⟨(some 16),(.fieldAddr 34 (tK 1) 0),0,(some (some 11,true))⟩,⟨(some 17),(.load 3 (tK 16)),3,(some (some 11,true))⟩,⟨(some 18),(.call ⟨(.value (.func 65)), #[(tK 13),(tK 15),(tK 17)], #[22,3,3]⟩),4,(some (some 11,true))⟩,oX 19 (.pick (tK 11) (tK 18) (.const (.bool false))) 4,oM 20 19 4,⟨(some 21),(.fieldAddr 34 (tK 1) 3),0,(some (some 20,true))⟩,⟨(some 22),(.load 22 (tK 21)),22,(some (some 20,true))⟩,⟨(some 23),(.fieldAddr 34 (tK 1) 0),0,(some (some 20,true))⟩,⟨(some 24),(.load 3 (tK 23)),3,(some (some 20,true))⟩,
 ⟨(some 25),(.call ⟨(.value (.func 65)), #[(tK 22),(iK 2),(tK 24)], #[22,3,3]⟩),4,(some (some 20,true))⟩,oX 26 (.pick (tK 20) (tK 25) (.const (.bool false))) 4,oA 2 26 4]) .ret)
theorem A4u:Tryz.f39.body.map (Bf lends)=some k39:=by kernel_rfl
theorem AHG:Bz Tryz.f39 1=true:=by kernel_rfl
theorem qm{a l:List D}{r:D×List D}(h:CF Y.env k39 (ES Ae l.length [ResultVar.tmp 2] r) (entry a l))(ha:a.length=1):Y.call 39 a l=some r:=
 Ab (Y:=Y) rfl Tryz.func39 (ha▸AHG) A4u h
theorem UF(AR:Int)(AV:Int)(AX:List (List Int))(AZ:List (List Int)){r:Bool}(h:Nr AR AV AX AZ=some r):Y.call 39 [D.agg [D.int .i64 AR,D.int .i64 AV,D.sl 26 (AL (fun x=>D.sl 3 (AL (D.int .i64) x)) AX),D.sl 26 (AL (fun x=>D.sl 3 (AL (D.int .i64) x)) AZ)]] []=some (D.bool r,[]):=by
 refine qm ?_ rfl;unfold k39;unfold Nr at h;have c1:=JN AR (1:Int) (8:Int);rcases iS h with⟨e2,h⟩|⟨e2,h⟩
 ·have c3:=JN AV (1:Int) (4:Int);rcases iS h with⟨e4,h⟩|⟨e4,h⟩
  ·obtain⟨e5,e6,h⟩:=Ei h;have c7:=LJ AX AV AR e5 e6;rcases iS h with⟨e8,h⟩|⟨e8,h⟩
   ·obtain⟨e9,h⟩:=FK h;have RH:=LJ AZ (2:Int) AR e9 e6
    obtain rfl:=Option.some.inj h
    simp (maxDischargeDepth:=9) only [↓AP,AQ,↓reduceIte,Nat.reduceEqDiff,Nat.reduceLT,Nat.reduceAdd,c1,e2,c3,e4,c7,e8,RH]
   ·have e8f:(KU AX AV AR)=false:=Fx.mpr e8
    obtain rfl:=Option.some.inj h
    simp (maxDischargeDepth:=9) only [↓AP,AQ,↓reduceIte,Nat.reduceEqDiff,Nat.reduceLT,Nat.reduceAdd,c1,e2,c3,e4,c7,e8f]
  ·have e4f:(KL AV (1:Int) (4:Int))=false:=Fx.mpr e4
   obtain rfl:=Option.some.inj h
   simp (maxDischargeDepth:=9) only [↓AP,AQ,↓reduceIte,Nat.reduceEqDiff,Nat.reduceLT,Nat.reduceAdd,c1,e2,c3,e4f]
 ·have e2f:(KL AR (1:Int) (8:Int))=false:=Fx.mpr e2
  obtain rfl:=Option.some.inj h
  simp (maxDischargeDepth:=9) only [↓AP,AQ,↓reduceIte,Nat.reduceEqDiff,Nat.reduceLT,Nat.reduceAdd,c1,e2f]
noncomputable def TC(AR:Int)(AV:Int)(AX:List (List Int))(AZ:List (List Int)):Option (Bool):= if(KL AR (1:Int) (8:Int))=true then if(KL AV (1:Int) (4:Int))=true then ck (BB AX)<| ck (1≤AR∧AR≤8)<| if(KU AX AV AR)=true then ck (BB AZ)<| some (KU AZ (2:Int) AR) else some false else some false else some false
def k57:SC:= .seq (.ops [oX 1 (.box 34 (tK 0)) 0,oX 2 (.assign (.const (.bool false))) 4]) (.seq (.ops [oF 3 34 1 0,oL 4 3 3 3,oC 5 82 [(tK 4),(iK 1),(iK 8)] [3,3,3] 4,oM 6 5 4,⟨(some 7),(.fieldAddr 34 (tK 1) 1),0,(some (some 6,true))⟩,⟨(some 8),(.load 3 (tK 7)),3,(some (some 6,true))⟩,⟨(some 9),(.call ⟨(.value (.func 82)), #[(tK 8),(iK 1),(iK 4)], #[3,3,3]⟩),4,(some (some 6,true))⟩,oX 10 (.pick (tK 6) (tK 9) (.const (.bool false))) 4,oM 11 10 4,⟨(some 12),(.fieldAddr 34 (tK 1) 2),0,(some (some 11,true))⟩,⟨(some 13),(.load 22 (tK 12)),22,(some (some 11,true))⟩,⟨(some 14),(.fieldAddr 34 (tK 1) 1),0,(some (some 11,true))⟩,⟨(some 15),(.load 3 (tK 14)),3,(some (some 11,true))⟩,⟨(some 16),(.fieldAddr 34 (tK 1) 0),0,(some (some 11,true))⟩,⟨(some 17),(.load 3 (tK 16)),3,(some (some 11,true))⟩,⟨(some 18),(.call ⟨(.value (.func 90)), #[(tK 13),(tK 15),(tK 17)], #[22,3,3]⟩),4,(some (some 11,true))⟩,oX 19 (.pick (tK 11) (tK 18) (.const (.bool false))) 4,oM 20 19 4,⟨(some 21),(.fieldAddr 34 (tK 1) 3),0,(some (some 20,true))⟩,⟨(some 22),(.load 22 (tK 21)),22,(some (some 20,true))⟩,⟨(some 23),(.fieldAddr 34 (tK 1) 0),0,(some (some 20,true))⟩,⟨(some 24),(.load 3 (tK 23)),3,(some (some 20,true))⟩,
 ⟨(some 25),(.call ⟨(.value (.func 90)), #[(tK 22),(iK 2),(tK 24)], #[22,3,3]⟩),4,(some (some 20,true))⟩,oX 26 (.pick (tK 20) (tK 25) (.const (.bool false))) 4,oA 2 26 4]) .ret)
theorem A4v:Tryz.f57.body.map (Bf lends)=some k57:=by kernel_rfl
theorem AHI:Bz Tryz.f57 1=true:=by kernel_rfl
theorem c57{a l:List D}{r:D×List D}(h:CF Y.env k57 (ES Ae l.length [ResultVar.tmp 2] r) (entry a l))(ha:a.length=1):Y.call 57 a l=some r:=
 Ab (Y:=Y) rfl Tryz.func57 (ha▸AHI) A4v h
theorem ZL(AR:Int)(AV:Int)(AX:List (List Int))(AZ:List (List Int)){r:Bool}(h:TC AR AV AX AZ=some r):Y.call 57 [D.agg [D.int .i64 AR,D.int .i64 AV,D.sl 26 (AL (fun x=>D.sl 3 (AL (D.int .i64) x)) AX),D.sl 26 (AL (fun x=>D.sl 3 (AL (D.int .i64) x)) AZ)]] []=some (D.bool r,[]):=by
 refine c57 ?_ rfl;unfold k57;unfold TC at h;have c1:=LV AR (1:Int) (8:Int);rcases iS h with⟨e2,h⟩|⟨e2,h⟩
 ·have c3:=LV AV (1:Int) (4:Int);rcases iS h with⟨e4,h⟩|⟨e4,h⟩
  ·obtain⟨e5,e6,h⟩:=Ei h;have c7:=TB AX AV AR e5 e6;rcases iS h with⟨e8,h⟩|⟨e8,h⟩
   ·obtain⟨e9,h⟩:=FK h;have RH:=TB AZ (2:Int) AR e9 e6
    obtain rfl:=Option.some.inj h
    simp (maxDischargeDepth:=9) only [↓AP,AQ,↓reduceIte,Nat.reduceEqDiff,Nat.reduceLT,Nat.reduceAdd,c1,e2,c3,e4,c7,e8,RH]
   ·have e8f:(KU AX AV AR)=false:=Fx.mpr e8
    obtain rfl:=Option.some.inj h
    simp (maxDischargeDepth:=9) only [↓AP,AQ,↓reduceIte,Nat.reduceEqDiff,Nat.reduceLT,Nat.reduceAdd,c1,e2,c3,e4,c7,e8f]
  ·have e4f:(KL AV (1:Int) (4:Int))=false:=Fx.mpr e4
   obtain rfl:=Option.some.inj h
   simp (maxDischargeDepth:=9) only [↓AP,AQ,↓reduceIte,Nat.reduceEqDiff,Nat.reduceLT,Nat.reduceAdd,c1,e2,c3,e4f]
 ·have e2f:(KL AR (1:Int) (8:Int))=false:=Fx.mpr e2
  obtain rfl:=Option.some.inj h
  simp (maxDischargeDepth:=9) only [↓AP,AQ,↓reduceIte,Nat.reduceEqDiff,Nat.reduceLT,Nat.reduceAdd,c1,e2f]
theorem Xl(a b:Int)(n e:List (List Int))(hn:BB n)(he:BB e):Nr a b n e=some (Kq a b n e):=by
 unfold Nr Kq;by_cases h1:KL a 1 8=true
 ·have h1':=Gb.1 h1;by_cases h2:KL b 1 4=true
  ·rw [if_pos h1,if_pos h2,BJ hn,BJ h1',BJ he]
   cases h3:KU n b a<;>simp [h1,h2]
  ·rw [if_pos h1,if_neg h2];simp [h2]
 ·rw [if_neg h1];simp [h1]
theorem jL(a b:Int)(n e:List (List Int))(hn:BB n)(he:BB e):TC a b n e=some (Kq a b n e):=by
 unfold TC Kq;by_cases h1:KL a 1 8=true
 ·have h1':=Gb.1 h1;by_cases h2:KL b 1 4=true
  ·rw [if_pos h1,if_pos h2,BJ hn,BJ h1',BJ he]
   cases h3:KU n b a<;>simp [h1,h2]
  ·rw [if_pos h1,if_neg h2];simp [h2]
 ·rw [if_neg h1];simp [h1]
theorem Xm(AR:Int)(AV:Int)(AX:List (List Int))(AZ:List (List Int))(h0:BB AX)(h1:BB AZ):Y.call 39 [D.agg [D.int .i64 AR,D.int .i64 AV,D.sl 26 (AL (fun x=>D.sl 3 (AL (D.int .i64) x)) AX),D.sl 26 (AL (fun x=>D.sl 3 (AL (D.int .i64) x)) AZ)]] []=some (D.bool (Kq AR AV AX AZ),[]):=UF AR AV AX AZ (Xl AR AV AX AZ h0 h1)
theorem jM(AR:Int)(AV:Int)(AX:List (List Int))(AZ:List (List Int))(h0:BB AX)(h1:BB AZ):Y.call 57 [D.agg [D.int .i64 AR,D.int .i64 AV,D.sl 26 (AL (fun x=>D.sl 3 (AL (D.int .i64) x)) AX),D.sl 26 (AL (fun x=>D.sl 3 (AL (D.int .i64) x)) AZ)]] []=some (D.bool (Kq AR AV AX AZ),[]):=ZL AR AV AX AZ (jL AR AV AX AZ h0 h1)
end Go.Proofs.YtiehjihckndgkaaGreat
