/- When lists are a problem, as plain functions. Conditions: the lists are short. -/
import Derived.Test.YtjhjkfoabhplfaaGreatL6
import Derived.Test.YtjhjkfoabhplfaaGreatPB
namespace Go.Proofs.YtjhjkfoabhplfaaGreat
open Go Dv
set_option linter.unusedSimpArgs false
set_option linter.unusedVariables false
set_option maxRecDepth 100000
set_option maxHeartbeats 4000000
def OQ(n lo hi:Int):Bool:=decide (lo≤n∧n≤hi)
theorem MG{n lo hi:Int}:OQ n lo hi=true↔lo≤n∧n≤hi:=by simp [OQ]
noncomputable def Vh(n_ low high:Int):Option (Bool):= if low≤n_ then some (decide (n_≤high)) else some false
def k38:SC:= .seq (.ops [oX 6 BX 4]) (.seq (.ops [oM 7 1 3,oM 8 0 3,oB 9 .leq 3 (tK 7) (tK 8) 3 4,oM 10 9 4,⟨some 11,.move (tK 0),3,(some (some 10,true))⟩,⟨some 12,.move (tK 2),3,(some (some 10,true))⟩,⟨some 13,.binOp .leq 3 (tK 11) (tK 12) 3,4,(some (some 10,true))⟩,oX 14 (.pick (tK 10) (tK 13) Mq) 4,oA 6 14 4]) .ret)
theorem A7R:Tryz.f38.body.map (BI lends)=some k38:=by kernel_rfl
theorem AJt:BR Tryz.f38 3=true:=by kernel_rfl
theorem xO{a l:List D}{r:D×List D}(h:BU Y.env k38 (Du Ab l.length [ResultVar.tmp 6] r) (entry a l))(ha:a.length=3):Y.call 38 a l=some r:=
 AP (Y:=Y) rfl Tryz.func38 (ha▸AJt) A7R h
theorem cB(n_ low high:Int){r:Bool}(h:Vh n_ low high=some r):Y.call 38 [D.int .i64 n_,D.int .i64 low,D.int .i64 high] []=some (D.bool r,[]):=by
 refine xO ?_ rfl;unfold k38;unfold Vh at h;rcases iS h with⟨e1,h⟩|⟨e1,h⟩
 ·cases h;simp only [↓AB,AC,↓reduceIte,Nat.reduceEqDiff,Nat.reduceLT,e1]
 ·cases h;simp only [↓AB,AC,↓reduceIte,Nat.reduceEqDiff,Nat.reduceLT,e1]
noncomputable def j6(n_ lo hi:Int):Option (Bool):= if lo≤n_ then some (decide (n_≤hi)) else some false
def k33:SC:= .seq (.ops [oX 6 BX 4]) (.seq (.ops [oM 7 0 3,oM 8 1 3,oB 9 .geq 3 (tK 7) (tK 8) 3 4,oM 10 9 4,⟨some 11,.move (tK 0),3,(some (some 10,true))⟩,⟨some 12,.move (tK 2),3,(some (some 10,true))⟩,⟨some 13,.binOp .leq 3 (tK 11) (tK 12) 3,4,(some (some 10,true))⟩,oX 14 (.pick (tK 10) (tK 13) Mq) 4,oA 6 14 4]) .ret)
theorem A7S:Tryz.f33.body.map (BI lends)=some k33:=by kernel_rfl
theorem AJv:BR Tryz.f33 3=true:=by kernel_rfl
theorem xP{a l:List D}{r:D×List D}(h:BU Y.env k33 (Du Ab l.length [ResultVar.tmp 6] r) (entry a l))(ha:a.length=3):Y.call 33 a l=some r:=
 AP (Y:=Y) rfl Tryz.func33 (ha▸AJv) A7S h
theorem oG(n_ lo hi:Int){r:Bool}(h:j6 n_ lo hi=some r):Y.call 33 [D.int .i64 n_,D.int .i64 lo,D.int .i64 hi] []=some (D.bool r,[]):=by
 refine xP ?_ rfl;unfold k33;unfold j6 at h;rcases iS h with⟨e1,h⟩|⟨e1,h⟩
 ·cases h;simp only [↓AB,AC,↓reduceIte,Nat.reduceEqDiff,Nat.reduceLT,e1]
 ·cases h;simp only [↓AB,AC,↓reduceIte,Nat.reduceEqDiff,Nat.reduceLT,e1]
theorem oH(n lo hi:Int):Vh n lo hi=some (OQ n lo hi):=by unfold Vh OQ;by_cases h1:lo≤n<;>by_cases h2:n≤hi<;>simp [h1,h2]
theorem xQ(n lo hi:Int):j6 n lo hi=some (OQ n lo hi):=by unfold j6 OQ;by_cases h1:lo≤n<;>by_cases h2:n≤hi<;>simp [h1,h2]
theorem Ld(n_ low high:Int):Y.call 38 [D.int .i64 n_,D.int .i64 low,D.int .i64 high] []=some (D.bool (OQ n_ low high),[]):=cB n_ low high (oH n_ low high)
theorem Td(n_ lo hi:Int):Y.call 33 [D.int .i64 n_,D.int .i64 lo,D.int .i64 hi] []=some (D.bool (OQ n_ lo hi),[]):=oG n_ lo hi (xQ n_ lo hi)
noncomputable def K9(l:AA)(lo hi Bv:Int):Option ((Int)⊕(Unit⊕Unit)):= if Bv<(l.length:Int)then ck (0≤Bv∧Bv.toNat<l.length)<| if(OQ (l.getD Bv.toNat default) lo hi)=true then some (Sum.inl (IntKind.i64.wrap (Bv+1))) else some (Sum.inr (Sum.inl ())) else some (Sum.inr (Sum.inr ()))
noncomputable def RL(l:AA)(lo hi v:Int):Option (Unit⊕Unit):=Fv (fun v=>K9 l lo hi v) v
noncomputable def YO(l:AA)(lo hi:Int):Option (Bool):=
 (RL l lo hi 0).bind fun A8=>
 match A8 with
 | .inl q1000_=>
  some false
 | .inr q1000_=>
  some true
def jA:SC:= .seq (.ops [oB 12 .lss 3 (tK 11) (tK 10) 3 0]) (.seq (.cond (tK 12) .skip (.exit 0)) (.seq (.block 1 (.seq (.ops [oI 13 27 9 11,oL 14 3 13 3,oA 8 14 3]) (.seq (.ops [oM 15 8 3,oM 16 1 3,oM 17 2 3,oC 18 33 [(tK 15),(tK 16),(tK 17)] [3,3,3] 4,oX 19 (.unOp .not 4 (tK 18)) 4]) (.cond (tK 19) (.seq (.ops [oX 6 BX 4]) .ret) .skip)))) (.ops [oB 20 .add 3 (tK 11) (iK 1) 3 3,oM 11 20 3])))
def A0V:SC:= .loop jA
def k54:SC:= .seq (.ops [oX 6 BX 4]) (.seq (.seq (.ops [oM 9 0 27,oN 10 9 27,oX 11 (.move (iK 0)) 3]) (.block 0 A0V)) (.seq (.ops [oX 6 (.assign Gx) 4]) .ret))
theorem A7T:Tryz.f54.body.map (BI lends)=some k54:=by kernel_rfl
theorem AJx:BR Tryz.f54 3=true:=by kernel_rfl
theorem c54{a l:List D}{r:D×List D}(h:BU Y.env k54 (Du Ab l.length [ResultVar.tmp 6] r) (entry a l))(ha:a.length=3):Y.call 54 a l=some r:=
 AP (Y:=Y) rfl Tryz.func54 (ha▸AJx) A7T h
def IZ(l:AA)(lo hi Bv:Int)(s:St):Prop:=s.v 1=D.int .i64 lo∧s.v 2=D.int .i64 hi∧s.v 9=D.sl 3 (AJ (D.int .i64) l)∧s.v 10=D.int .i64 (l.length:Int)∧s.v 11=D.int .i64 Bv
def KA(l:AA)(lo hi:Int)(r:Unit⊕Unit)(ex:Ex)(s:St):Prop:=match r with
 | .inl q=>ex= .ret∧s.v 6=D.bool false
 | .inr q=>ex= .exit 0
theorem cK(l:AA)(lo hi:Int){v:Int}{s:St}{r:Unit⊕Unit}(h:RL l lo hi v=some r)(hM:IZ l lo hi v s):BU Y.env A0V (KA l lo hi r) s:=by
 unfold RL at h;refine Ap (c:=jA) (fun v=>K9 l lo hi v) (fun v s=>IZ l lo hi v s) (KA l lo hi) ?_ h hM;clear h hM s v r;intro Bv s o hM h;unfold K9 at h;unfold IZ at hM;obtain⟨m0,m1,m2,m3,m4⟩:=hM;unfold jA;rcases iS h with⟨e1,h⟩|⟨e1,h⟩
 ·obtain⟨e2,h⟩:=DL h;have c3:=Td (l.getD Bv.toNat default) lo hi;rcases iS h with⟨e4,h⟩|⟨e4,h⟩
  ·cases h;simp only [↓AB,AC,↓reduceIte,Nat.reduceEqDiff,Nat.reduceLT,m0,m1,m2,m3,m4,e1,e2.1,e2.2,c3,e4,IZ,Dw]
  ·have e4f:(OQ (l.getD Bv.toNat default) lo hi)=false:=Gf.mpr e4;cases h;simp only [↓AB,AC,↓reduceIte,Nat.reduceEqDiff,Nat.reduceLT,m0,m1,m2,m3,m4,e1,e2.1,e2.2,c3,e4f,IZ,KA,Tz]
 ·cases h;simp only [↓AB,AC,↓reduceIte,Nat.reduceLT,m3,m4,e1,IZ,KA,Ir]
theorem jB(l:AA)(lo hi:Int){r:Bool}(h:YO l lo hi=some r):Y.call 54 [D.sl 3 (AJ (D.int .i64) l),D.int .i64 lo,D.int .i64 hi] []=some (D.bool r,[]):=by
 refine c54 ?_ rfl;unfold k54;unfold YO at h;obtain⟨A8,hl2,h⟩:=AQ h;try dsimp only at h
 simp only [↓AB,AC,↓reduceIte,Nat.reduceEqDiff,Nat.reduceLT];refine AZ (cK l lo hi hl2 ?_) ?_
 ·simp only [BC,Ce,↓reduceIte,Nat.reduceEqDiff,Nat.reduceLT,IZ]
 ·intro ex2 s2 hX2;rcases A8 with q1000_|q1000_
  ·unfold KA at hX2;dsimp only at hX2 h;obtain⟨rfl,n2_0⟩:=hX2;cases h;simp only [↓AB,AC,↓reduceIte,n2_0]
  ·unfold KA at hX2;dsimp only at hX2 h
   obtain rfl:=hX2
   cases h;simp only [↓AB,AC,↓reduceIte,Nat.reduceEqDiff,Nat.reduceLT]
def P6(l:AA)(lo hi:Int):Bool:=l.all fun x=>OQ x lo hi
theorem tJ(l:AA)(lo hi:Int)(h:l.length<1099511627776):YO l lo hi=some (P6 l lo hi):=by
 unfold YO RL;have key:=Pi (fun v=>K9 l lo hi v) (fun i=>(i:Int)) l.length (fun i=>OQ (l.getD i default) lo hi) (.inl ()) (.inr ()) ?_ ?_
 ·simp only [Jb]at key;rw [key,ZT (fun x=>OQ x lo hi)];unfold P6
  cases l.all (fun x=>OQ x lo hi)<;>rfl
 ·intro i hi;simp only [K9];rw [if_pos (BZ hi),Ao (Gj hi),H5,H9 i (by omega)]
 ·simp only [K9];rw [if_neg (Ae _)]
theorem tO(l:AA)(lo hi:Int)(h0:l.length<1099511627776):Y.call 54 [D.sl 3 (AJ (D.int .i64) l),D.int .i64 lo,D.int .i64 hi] []=some (D.bool (P6 l lo hi),[]):=jB l lo hi (tJ l lo hi h0)
noncomputable def MH(s_:AA)(f:Int→Option Bool)(O8:Int):Option ((Int)⊕(Int⊕Unit)):= if O8<(s_.length:Int)then ck (0≤O8∧O8.toNat<s_.length)<| (f (s_.getD O8.toNat default)).bind fun cO=> if cO=true then some (Sum.inr (Sum.inl O8)) else some (Sum.inl (IntKind.i64.wrap (O8+1))) else some (Sum.inr (Sum.inr ()))
noncomputable def jC(s_:AA)(f:Int→Option Bool)(v:Int):Option (Int⊕Unit):=Fv (fun v=>MH s_ f v) v
noncomputable def gIF(s_:AA)(f:Int→Option Bool):Option (Int):=
 (jC s_ f 0).bind fun A8=>
 match A8 with
 | .inl q1000_=>
  some q1000_
 | .inr q1000_=>
  some (-1)
def Zj:SC:= .seq (.ops [oB 9 .lss 3 (tK 8) (tK 7) 3 0]) (.seq (.cond (tK 9) .skip (.exit 0)) (.seq (.block 1 (.seq (.ops [oM 10 8 3,oA 5 10 3]) (.seq (.ops [oM 11 1 87,oM 12 0 27,oM 13 5 3,oI 14 27 12 13,oL 15 3 14 3,oX 16 (.call ⟨(.value (tK 11)), #[(tK 15)], #[3]⟩) 4]) (.cond (tK 16) (.seq (.ops [oM 17 5 3,oA 4 17 3]) .ret) .skip)))) (.ops [oB 18 .add 3 (tK 8) (iK 1) 3 3,oM 8 18 3])))
def uq:SC:= .loop Zj
def A7U:SC:= .seq (.ops [oX 4 (.assign (iK 0)) 3]) (.seq (.seq (.ops [oM 6 0 27,oN 7 6 27,oX 8 (.move (iK 0)) 3]) (.block 0 uq)) (.seq (.ops [oX 4 Uc 3]) .ret))
theorem A34:Tryz.f112.body.map (BI lends)=some A7U:=by kernel_rfl
theorem AF2:BR Tryz.f112 2=true:=by kernel_rfl
theorem AJz{a l:List D}{r:D×List D}(h:BU Y.env A7U (Du Ab l.length [ResultVar.tmp 4] r) (entry a l))(ha:a.length=2):Y.call 112 a l=some r:=
 AP (Y:=Y) rfl Tryz.func112 (ha▸AF2) A34 h
def P7(s_:AA)(f:Int→Option Bool)(f_f:FuncId)(f_c:List D)(O8:Int)(s:St):Prop:=s.v 0=D.sl 3 (AJ (D.int .i64) s_)∧s.v 1=D.clo f_f f_c∧s.v 7=D.int .i64 (s_.length:Int)∧s.v 8=D.int .i64 O8
def Qh(s_:AA)(f:Int→Option Bool)(f_f:FuncId)(f_c:List D)(r:Int⊕Unit)(ex:Ex)(s:St):Prop:=match r with
 | .inl q=>ex= .ret∧s.v 4=D.int .i64 q
 | .inr q=>ex= .exit 0
theorem xR(s_:AA)(f:Int→Option Bool)(f_f:FuncId)(f_c:List D)(f_h: ∀(a0:Int) (r:Bool),f a0=some r→Y.call f_f (D.int .i64 a0::f_c) []=some (D.bool r,[]))(f_l:lends f_f=false){v:Int}{s:St}{r:Int⊕Unit}(h:jC s_ f v=some r)(hM:P7 s_ f f_f f_c v s):BU Y.env uq (Qh s_ f f_f f_c r) s:=by
 unfold jC at h;refine Ap (c:=Zj) (fun v=>MH s_ f v) (fun v s=>P7 s_ f f_f f_c v s) (Qh s_ f f_f f_c) ?_ h hM;clear h hM s v r;intro O8 s o hM h;unfold MH at h;unfold P7 at hM;obtain⟨m0,m1,m2,m3⟩:=hM;unfold Zj;rcases iS h with⟨e1,h⟩|⟨e1,h⟩
 ·obtain⟨e2,h⟩:=DL h;obtain⟨cO,hl3,h⟩:=AQ h;have c3:=f_h _ _ hl3;rcases iS h with⟨e4,h⟩|⟨e4,h⟩
  ·cases h;simp only [↓AB,AC,↓reduceIte,Nat.reduceEqDiff,Nat.reduceLT,m0,m1,m2,m3,f_l,e1,e2.1,e2.2,c3,e4,P7,Qh,Tz]
  ·have e4f:cO=false:=Gf.mpr e4;cases h;simp only [↓AB,AC,↓reduceIte,Nat.reduceEqDiff,Nat.reduceLT,m0,m1,m2,m3,f_l,e1,e2.1,e2.2,c3,e4f,P7,Dw]
 ·cases h;simp only [↓AB,AC,↓reduceIte,Nat.reduceLT,m2,m3,e1,P7,Qh,Ir]
theorem A0W(s_:AA)(f:Int→Option Bool)(f_f:FuncId)(f_c:List D)(f_h: ∀(a0:Int) (r:Bool),f a0=some r→Y.call f_f (D.int .i64 a0::f_c) []=some (D.bool r,[]))(f_l:lends f_f=false){r:Int}(h:gIF s_ f=some r):Y.call 112 [D.sl 3 (AJ (D.int .i64) s_),D.clo f_f f_c] []=some (D.int .i64 r,[]):=by
 refine AJz ?_ rfl;unfold A7U;unfold gIF at h;obtain⟨A8,hl2,h⟩:=AQ h;try dsimp only at h
 simp only [↓AB,AC,↓reduceIte,Nat.reduceEqDiff,Nat.reduceLT,Int.reduceNeg];refine AZ (xR s_ f f_f f_c f_h f_l hl2 ?_) ?_
 ·simp only [BC,Ce,↓reduceIte,Nat.reduceEqDiff,Nat.reduceLT,P7]
 ·intro ex2 s2 hX2;rcases A8 with q1000_|q1000_
  ·unfold Qh at hX2;dsimp only at hX2 h;obtain⟨rfl,n2_0⟩:=hX2;cases h;simp only [↓AB,AC,↓reduceIte,n2_0]
  ·unfold Qh at hX2;dsimp only at hX2 h
   obtain rfl:=hX2
   cases h;simp only [↓AB,AC,↓reduceIte,Nat.reduceEqDiff,Nat.reduceLT,Int.reduceNeg]
noncomputable def Bw(s_:AA)(f:Int→Option Bool):Option (Bool):= (gIF s_ f).bind fun r7_=> some (decide (0≤r7_))
def k94:SC:= .seq (.ops [oX 4 BX 4]) (.seq (.ops [oM 5 0 27,oM 6 1 87,oC 7 112 [(tK 5),(tK 6)] [27,87] 3,oB 8 .geq 3 (tK 7) (iK 0) 3 4,oA 4 8 4]) .ret)
theorem A7V:Tryz.f94.body.map (BI lends)=some k94:=by kernel_rfl
theorem AK1:BR Tryz.f94 2=true:=by kernel_rfl
theorem c94{a l:List D}{r:D×List D}(h:BU Y.env k94 (Du Ab l.length [ResultVar.tmp 4] r) (entry a l))(ha:a.length=2):Y.call 94 a l=some r:=
 AP (Y:=Y) rfl Tryz.func94 (ha▸AK1) A7V h
theorem Kl(s_:AA)(f:Int→Option Bool)(f_f:FuncId)(f_c:List D)(f_h: ∀(a0:Int) (r:Bool),f a0=some r→Y.call f_f (D.int .i64 a0::f_c) []=some (D.bool r,[]))(f_l:lends f_f=false){r:Bool}(h:Bw s_ f=some r):Y.call 94 [D.sl 3 (AJ (D.int .i64) s_),D.clo f_f f_c] []=some (D.bool r,[]):=by
 refine c94 ?_ rfl;unfold k94;unfold Bw at h;obtain⟨r7_,hl1,h⟩:=AQ h;try dsimp only at h
 have c1:=A0W s_ f f_f f_c f_h f_l hl1;cases h;simp only [↓AB,AC,↓reduceIte,Nat.reduceEqDiff,Nat.reduceLT,c1]
noncomputable def Km(n_ c0_ c1_:Int):Option (Bool):= some (!(OQ n_ c0_ c1_))
def k95:SC:= .seq (.ops [oX 4 BX 4]) (.seq (.ops [oM 5 0 3,oL 6 3 1 3,oL 7 3 2 3,oC 8 38 [(tK 5),(tK 6),(tK 7)] [3,3,3] 4,oX 9 (.unOp .not 4 (tK 8)) 4,oA 4 9 4]) .ret)
theorem A7W:Tryz.f95.body.map (BI lends)=some k95:=by kernel_rfl
theorem AK3:BR Tryz.f95 3=true:=by kernel_rfl
theorem c95{a l:List D}{r:D×List D}(h:BU Y.env k95 (Du Ab l.length [ResultVar.tmp 4] r) (entry a l))(ha:a.length=3):Y.call 95 a l=some r:=
 AP (Y:=Y) rfl Tryz.func95 (ha▸AK3) A7W h
theorem Uh(n_ c0_ c1_:Int){r:Bool}(h:Km n_ c0_ c1_=some r):Y.call 95 [D.int .i64 n_,D.cptr [D.int .i64 c0_],D.cptr [D.int .i64 c1_]] []=some (D.bool r,[]):=by
 refine c95 ?_ rfl;unfold k95;unfold Km at h;have c1:=Ld n_ c0_ c1_;cases h;simp only [↓AB,AC,↓reduceIte,Nat.reduceEqDiff,Nat.reduceLT,c1]
noncomputable def Pw(list:AA)(low high:Int):Option (Bool):= (Bw list (fun a0=>Km a0 low high)).bind fun r9_=> some (!r9_)
def k63:SC:= .seq (.ops [oX 4 (.box 3 (tK 1)) 0,oX 5 (.box 3 (tK 2)) 0,oX 6 BX 4]) (.seq (.ops [oM 7 0 27,oX 8 (.makeFunc (Fn.func 95) #[] #[(tK 4),(tK 5)]) 87,oC 9 94 [(tK 7),(tK 8)] [27,87] 4,oX 10 (.unOp .not 4 (tK 9)) 4,oA 6 10 4]) .ret)
theorem A7X:Tryz.f63.body.map (BI lends)=some k63:=by kernel_rfl
theorem AK5:BR Tryz.f63 3=true:=by kernel_rfl
theorem c63{a l:List D}{r:D×List D}(h:BU Y.env k63 (Du Ab l.length [ResultVar.tmp 6] r) (entry a l))(ha:a.length=3):Y.call 63 a l=some r:=
 AP (Y:=Y) rfl Tryz.func63 (ha▸AK5) A7X h
theorem Wx(list:AA)(low high:Int){r:Bool}(h:Pw list low high=some r):Y.call 63 [D.sl 3 (AJ (D.int .i64) list),D.int .i64 low,D.int .i64 high] []=some (D.bool r,[]):=by
 refine c63 ?_ rfl;unfold k63;unfold Pw at h;obtain⟨r9_,hl1,h⟩:=AQ h;try dsimp only at h
 have c1:=Kl list (fun a0=>Km a0 low high) 95 [D.cptr [D.int .i64 low],D.cptr [D.int .i64 high]] (fun a0 _ hh=>Uh a0 low high hh) A7C hl1;cases h;simp only [↓AB,AC,↓reduceIte,Nat.reduceEqDiff,Nat.reduceLT,c1]
theorem jD(l:AA)(f:Int→Option Bool)(p:Int→Bool)(h:l.length<1099511627776)(hf: ∀x∈l,f x=some (p x)):
  ∃r,gIF l f=some r∧(0≤r↔l.any p=true):=by
 unfold gIF jC;by_cases ha: ∀i,i<l.length→(!p (l.getD i default))=true
 ·have key:=BD (fun v=>MH l f v) (fun i=>(i:Int)) l.length (.inr ()) ?_ ?_
  ·simp only [Jb]at key;rw [key]
   refine⟨-1,rfl,by simp,fun hc=> ?_⟩
   obtain⟨x,hx,hpx⟩:=List.any_eq_true.1 hc;obtain⟨i,hi,rfl⟩:=UO hx;have:=ha i hi
   rw [AX _ _ hi,hpx]at this;cases this
  ·intro i hi;simp only [MH];have e:=ha i hi;rw [AX _ _ hi]at e;rw [if_pos (BZ hi),Ao (Gj hi),M7 _ _ hi,hf _ (FT hi),Bl,if_neg (by cases hp:p l[i]<;>simp_all),H9 i (by omega)]
  ·simp only [MH];rw [if_neg (Ae _)]
 ·obtain⟨m,h1,h2,h3⟩:=RH (P:=fun i=> !p (l.getD i default)) ha;have key:=BD (fun v=>MH l f v) (fun i=>(i:Int)) m (.inl (m:Int)) ?_ ?_
  ·simp only [Jb]at key;rw [key]
   refine⟨(m:Int),rfl,fun _=> ?_,fun _=>by omega⟩
   have h2':p l[m]=true:=by rw [AX _ _ h1]at h2;simpa using h2
   exact List.any_eq_true.2 ⟨_,FT h1,h2'⟩
  ·intro i hi;simp only [MH];have e:=h3 i hi;rw [AX _ _ (by omega)]at e
   rw [if_pos (BZ (by omega)),Ao (Gj (by omega)),M7 _ _ (by omega),hf _ (FT _),Bl,if_neg (by cases hp:p l[i]<;>simp_all),H9 i (by omega)]
  ·simp only [MH];have h2':p l[m]=true:=by rw [AX _ _ h1]at h2;simpa using h2
   rw [if_pos (BZ h1),Ao (Gj h1),M7 _ _ h1,hf _ (FT _),Bl,if_pos h2']
theorem Y6(l:AA)(f:Int→Option Bool)(p:Int→Bool)(h:l.length<1099511627776)(hf: ∀x∈l,f x=some (p x)):Bw l f=some (l.any p):=by
 obtain⟨r,h1,h2⟩:=jD l f p h hf;unfold Bw;rw [h1,Bl]
 congr 1
 rw [Bool.eq_iff_iff];simpa using h2
theorem Zk(l:AA)(lo hi:Int)(h:l.length<1099511627776):Pw l lo hi=some (P6 l lo hi):=by
 unfold Pw;rw [Y6 l (fun a0=>Km a0 lo hi) (fun x=> !OQ x lo hi) h (fun x _=>rfl),Bl];unfold P6;rw [List.all_eq_not_any_not]
theorem Zl(list:AA)(low high:Int)(h0:list.length<1099511627776):Y.call 63 [D.sl 3 (AJ (D.int .i64) list),D.int .i64 low,D.int .i64 high] []=some (D.bool (P6 list low high),[]):=Wx list low high (Zk list low high h0)
noncomputable def Cn(x_:Int):Option (Bool):= some false
def A7Y:SC:= .seq (.ops [oX 2 BX 4]) (.seq (.ops [oM 3 0 3,oM 4 0 3,oB 5 .neq 3 (tK 3) (tK 4) 3 4,oA 2 5 4]) .ret)
theorem A35:Tryz.f111.body.map (BI lends)=some A7Y:=by kernel_rfl
theorem AF3:BR Tryz.f111 1=true:=by kernel_rfl
theorem AK6{a l:List D}{r:D×List D}(h:BU Y.env A7Y (Du Ab l.length [ResultVar.tmp 2] r) (entry a l))(ha:a.length=1):Y.call 111 a l=some r:=
 AP (Y:=Y) rfl Tryz.func111 (ha▸AF3) A35 h
theorem GV(x_:Int){r:Bool}(h:Cn x_=some r):Y.call 111 [D.int .i64 x_] []=some (D.bool r,[]):=by
 refine AK6 ?_ rfl;unfold A7Y;unfold Cn at h;cases h;simp only [↓AB,AC,↓reduceIte,Nat.reduceEqDiff,Nat.reduceLT]
noncomputable def EZ(x_ y:Int):Option (Bool):= (Cn x_).bind fun r6_=> if r6_=true then (Cn y).bind fun r9_=> if r9_=true then some (decide (x_<y)) else some true else some (decide (x_<y))
def k93:SC:= .seq (.ops [oX 4 BX 4]) (.seq (.ops [oM 5 0 3,oC 6 111 [(tK 5)] [3] 4,oM 7 6 4,⟨some 8,.move (tK 1),3,(some (some 7,true))⟩,⟨some 9,.call ⟨(.value (.func 111)), #[(tK 8)], #[3]⟩,4,(some (some 7,true))⟩,⟨some 10,.unOp .not 4 (tK 9),4,(some (some 7,true))⟩,oX 11 (.pick (tK 7) (tK 10) Mq) 4,oM 12 11 4,⟨some 13,.move (tK 0),3,(some (some 12,false))⟩,⟨some 14,.move (tK 1),3,(some (some 12,false))⟩,⟨some 15,.binOp .lss 3 (tK 13) (tK 14) 3,4,(some (some 12,false))⟩,oX 16 (.pick (tK 12) Gx (tK 15)) 4,oA 4 16 4]) .ret)
theorem A7Z:Tryz.f93.body.map (BI lends)=some k93:=by kernel_rfl
theorem AK8:BR Tryz.f93 2=true:=by kernel_rfl
theorem c93{a l:List D}{r:D×List D}(h:BU Y.env k93 (Du Ab l.length [ResultVar.tmp 4] r) (entry a l))(ha:a.length=2):Y.call 93 a l=some r:=
 AP (Y:=Y) rfl Tryz.func93 (ha▸AK8) A7Z h
theorem OE(x_ y:Int){r:Bool}(h:EZ x_ y=some r):Y.call 93 [D.int .i64 x_,D.int .i64 y] []=some (D.bool r,[]):=by
 refine c93 ?_ rfl;unfold k93;unfold EZ at h;obtain⟨r6_,hl1,h⟩:=AQ h;have c1:=GV x_ hl1;rcases iS h with⟨e2,h⟩|⟨e2,h⟩
 ·obtain⟨r9_,hl3,h⟩:=AQ h;have c3:=GV y hl3;rcases iS h with⟨e4,h⟩|⟨e4,h⟩
  ·cases h;simp only [↓AB,AC,↓reduceIte,Nat.reduceEqDiff,Nat.reduceLT,c1,e2,c3,e4]
  ·have e4f:r9_=false:=Gf.mpr e4;cases h;simp only [↓AB,AC,↓reduceIte,Nat.reduceEqDiff,Nat.reduceLT,c1,e2,c3,e4f]
 ·have e2f:r6_=false:=Gf.mpr e2;cases h;simp only [↓AB,AC,↓reduceIte,Nat.reduceEqDiff,Nat.reduceLT,c1,e2f]
noncomputable def P8(x_:AA)(i:Int):Option ((Int)⊕(Unit⊕Unit)):= if 0<i then ck (0≤i∧i.toNat<x_.length)<| ck (0≤IntKind.i64.wrap (i-1)∧(IntKind.i64.wrap (i-1)).toNat<x_.length)<| (EZ (x_.getD i.toNat default) (x_.getD ((IntKind.i64.wrap (i-1)).toNat) default)).bind fun Sv=> if Sv=true then some (Sum.inr (Sum.inl ())) else some (Sum.inl (IntKind.i64.wrap (i-1))) else some (Sum.inr (Sum.inr ()))
noncomputable def jE(x_:AA)(v:Int):Option (Unit⊕Unit):=Fv (fun v=>P8 x_ v) v
noncomputable def gIS(x_:AA):Option (Bool):=
 (jE x_ (IntKind.i64.wrap ((x_.length:Int)-1))).bind fun A8=>
 match A8 with
 | .inl q1000_=>
  some false
 | .inr q1000_=>
  some true
abbrev qd6:List Nat:=[11,12,13,14,15,16,17,18,19,20]
def jF:SC:= .seq (.seq (.ops [oM 7 3 3,oB 8 .gtr 3 (tK 7) (iK 0) 3 4]) (.cond (tK 8) .skip (.exit 0))) (.seq (.block 1 (.seq (.draws [(⟨[11,0,0],qd6,[11]⟩,oM 11 0 27),(⟨[12,3,3],qd6,[12]⟩,oM 12 3 3),(⟨[13,11,12,0,3],qd6,[13]⟩,oI 13 27 11 12),(⟨[14,13,0],qd6,[14]⟩,oL 14 3 13 3),(⟨[15,0,0],qd6,[15]⟩,oM 15 0 27),(⟨[16,3,3],qd6,[16]⟩,oM 16 3 3),(⟨[17,16,3],qd6,[17]⟩,oB 17 .sub 3 (tK 16) (iK 1) 3 3),(⟨[18,15,17,0,17],qd6,[18]⟩,oI 18 27 15 17),(⟨[19,18,0],qd6,[19]⟩,oL 19 3 18 3),(⟨[20,14,19,0,0],qd6,[20]⟩,oC 20 93 [(tK 14),(tK 19)] [3,3] 4)]) (.cond (tK 20) (.seq (.ops [oX 2 BX 4]) .ret) .skip))) (.ops [oM 9 3 3,oB 10 .sub 3 (tK 9) (iK 1) 3 3,oA 3 10 3]))
def A0X:SC:= .loop jF
def k62:SC:= .seq (.ops [oX 2 BX 4]) (.seq (.seq (.ops [oM 4 0 27,oN 5 4 27,oB 6 .sub 3 (tK 5) (iK 1) 3 3,oA 3 6 3]) (.block 0 A0X)) (.seq (.ops [oX 2 (.assign Gx) 4]) .ret))
theorem A7a:Tryz.f62.body.map (BI lends)=some k62:=by kernel_rfl
theorem AKA:BR Tryz.f62 1=true:=by kernel_rfl
theorem c62{a l:List D}{r:D×List D}(h:BU Y.env k62 (Du Ab l.length [ResultVar.tmp 2] r) (entry a l))(ha:a.length=1):Y.call 62 a l=some r:=
 AP (Y:=Y) rfl Tryz.func62 (ha▸AKA) A7a h
def P9(x_:AA)(i:Int)(s:St):Prop:=s.v 0=D.sl 3 (AJ (D.int .i64) x_)∧s.v 3=D.int .i64 i
def Qi(x_:AA)(r:Unit⊕Unit)(ex:Ex)(s:St):Prop:=match r with
 | .inl q=>ex= .ret∧s.v 2=D.bool false
 | .inr q=>ex= .exit 0
theorem xS(x_:AA){v:Int}{s:St}{r:Unit⊕Unit}(h:jE x_ v=some r)(hM:P9 x_ v s):BU Y.env A0X (Qi x_ r) s:=by
 unfold jE at h;refine Ap (c:=jF) (fun v=>P8 x_ v) (fun v s=>P9 x_ v s) (Qi x_) ?_ h hM;clear h hM s v r;intro i s o hM h;unfold P8 at h;unfold P9 at hM;obtain⟨m0,m1⟩:=hM;unfold jF;rcases iS h with⟨e1,h⟩|⟨e1,h⟩
 ·obtain⟨e2,e3,h⟩:=Fy h;obtain⟨Sv,hl4,h⟩:=AQ h;have c4:=OE (x_.getD i.toNat default) (x_.getD ((IntKind.i64.wrap (i-1)).toNat) default) hl4;rcases iS h with⟨e5,h⟩|⟨e5,h⟩
  ·cases h;simp only [↓AB,AC,↓reduceIte,Nat.reduceEqDiff,Nat.reduceLT,m0,m1,e1,e2.1,e2.2,e3.1,e3.2,c4,e5,P9,Qi,Tz]
  ·have e5f:Sv=false:=Gf.mpr e5;cases h;simp only [↓AB,AC,↓reduceIte,Nat.reduceEqDiff,Nat.reduceLT,m0,m1,e1,e2.1,e2.2,e3.1,e3.2,c4,e5f,P9,Dw]
 ·cases h;simp only [↓AB,AC,↓reduceIte,Nat.reduceLT,m1,e1,P9,Qi,Ir]
theorem A0Y(x_:AA){r:Bool}(h:gIS x_=some r):Y.call 62 [D.sl 3 (AJ (D.int .i64) x_)] []=some (D.bool r,[]):=by
 refine c62 ?_ rfl;unfold k62;unfold gIS at h;obtain⟨A8,hl2,h⟩:=AQ h;try dsimp only at h
 simp only [↓AB,AC,↓reduceIte,Nat.reduceEqDiff,Nat.reduceLT];refine AZ (xS x_ hl2 ?_) ?_
 ·simp only [BC,Ce,↓reduceIte,Nat.reduceEqDiff,Nat.reduceLT,P9]
 ·intro ex2 s2 hX2;rcases A8 with q1000_|q1000_
  ·unfold Qi at hX2;dsimp only at hX2 h;obtain⟨rfl,n2_0⟩:=hX2;cases h;simp only [↓AB,AC,↓reduceIte,n2_0]
  ·unfold Qi at hX2;dsimp only at hX2 h
   obtain rfl:=hX2
   cases h;simp only [↓AB,AC,↓reduceIte,Nat.reduceEqDiff,Nat.reduceLT]
def JW(l:AA):Bool:=(List.range (l.length-1)).all fun i=>decide (l.getD i default≤l.getD (i+1) default)
theorem A7b(l:AA)(h:l.length<1099511627776):gIS l=some (JW l):=by
 unfold gIS jE;rw [Db _ (by omega)]
 rcases Nat.eq_zero_or_pos l.length with h0|h0
 ·rw [Fp (r:=Sum.inr ())]
  ·simp [JW,h0]
  ·simp only [P8];rw [if_neg (by omega)]
 ·have key:=Pi (fun v=>P8 l v) (fun j=>(l.length:Int)-1-j) (l.length-1) (fun j=>decide (l.getD (l.length-1-j-1) default≤l.getD (l.length-1-j) default)) (.inl ()) (.inr ()) ?_ ?_
  ·simp only [Jb,Int.sub_zero]at key;rw [key]
   have e:(List.range (l.length-1)).all (fun j=>decide (l.getD (l.length-1-j-1) default≤l.getD (l.length-1-j) default))=JW l:=by
    unfold JW;rw [Bool.eq_iff_iff,K5,K5]
    constructor
    ·intro hh i hi;have:=hh (l.length-1-i-1) (by omega)
     rwa [show l.length-1-(l.length-1-i-1)=i+1 by omega,Nat.add_sub_cancel]at this
    ·intro hh i hi;have:=hh (l.length-1-i-1) (by omega)
     rwa [show l.length-1-i-1+1=l.length-1-i by omega]at this
   rw [e]
   cases JW l<;>rfl
  ·intro i hi;simp only [P8];rw [if_pos (by omega),Db _ (by omega)]
   rw [Ao (by omega),Ao (by omega),show((l.length:Int)-1-i).toNat=l.length-1-i by omega,show((l.length:Int)-1-i-1).toNat=l.length-1-i-1 by omega]
   have e:EZ (l.getD (l.length-1-i) default) (l.getD (l.length-1-i-1) default)=some (decide (l.getD (l.length-1-i) default<l.getD (l.length-1-i-1) default)):=by
    unfold EZ Cn;by_cases hq:l.getD (l.length-1-i) default<l.getD (l.length-1-i-1) default<;>simp [hq]
   rw [e,Bl];simp only [decide_eq_true_eq];by_cases hq:l.getD (l.length-1-i) default<l.getD (l.length-1-i-1) default
   ·rw [if_pos hq,if_neg (by omega)]
   ·rw [if_neg hq,if_pos (by omega),show(l.length:Int)-1-i-1=(l.length:Int)-1-((i+1:Nat):Int) by omega]
  ·simp only [P8];rw [if_neg (by omega)]
theorem A7c(x_:AA)(h0:x_.length<1099511627776):Y.call 62 [D.sl 3 (AJ (D.int .i64) x_)] []=some (D.bool (JW x_),[]):=A0Y x_ (A7b x_ h0)
def cmpL:AA→AA→Int
 | [],[]=>0
 | [],_::_=> -1
 |_::_,[]=>1
 |x::a,y::b=>if x=y then cmpL a b else if x<y then-1 else 1
noncomputable def GX(x_ y:Int):Option (Int):= (Cn x_).bind fun O7=> (Cn y).bind fun Mr=> if O7=true then if Mr=true then some 0 else some (-1) else if Mr=true then some 1 else if x_<y then some (-1) else if y<x_ then some 1 else some 0
def k96:SC:= .seq (.ops [oX 4 (.assign (iK 0)) 3]) (.seq (.ops [oM 7 0 3,oC 8 111 [(tK 7)] [3] 4,oA 5 8 4]) (.seq (.ops [oM 9 1 3,oC 10 111 [(tK 9)] [3] 4,oA 6 10 4]) (.seq (.seq (.ops [oM 11 5 4]) (.cond (tK 11) (.seq (.seq (.ops [oM 12 6 4]) (.cond (tK 12) (.seq (.ops [oX 4 (.assign (iK 0)) 3]) .ret) .skip)) (.seq (.ops [oX 4 Uc 3]) .ret)) .skip)) (.seq (.seq (.ops [oM 13 6 4]) (.cond (tK 13) (.seq (.ops [oX 4 (.assign (iK 1)) 3]) .ret) .skip)) (.seq (.seq (.ops [oM 14 0 3,oM 15 1 3,oB 16 .lss 3 (tK 14) (tK 15) 3 4]) (.cond (tK 16) (.seq (.ops [oX 4 Uc 3]) .ret) .skip)) (.seq (.seq (.ops [oM 17 0 3,oM 18 1 3,oB 19 .gtr 3 (tK 17) (tK 18) 3 4]) (.cond (tK 19) (.seq (.ops [oX 4 (.assign (iK 1)) 3]) .ret) .skip)) (.seq (.ops [oX 4 (.assign (iK 0)) 3]) .ret)))))))
theorem A7d:Tryz.f96.body.map (BI lends)=some k96:=by kernel_rfl
theorem AKC:BR Tryz.f96 2=true:=by kernel_rfl
theorem c96{a l:List D}{r:D×List D}(h:BU Y.env k96 (Du Ab l.length [ResultVar.tmp 4] r) (entry a l))(ha:a.length=2):Y.call 96 a l=some r:=
 AP (Y:=Y) rfl Tryz.func96 (ha▸AKC) A7d h
theorem RN(x_ y:Int){r:Int}(h:GX x_ y=some r):Y.call 96 [D.int .i64 x_,D.int .i64 y] []=some (D.int .i64 r,[]):=by
 refine c96 ?_ rfl;unfold k96;unfold GX at h;obtain⟨O7,hl1,h⟩:=AQ h;have c1:=GV x_ hl1;obtain⟨Mr,hl2,h⟩:=AQ h;have c2:=GV y hl2;rcases iS h with⟨e3,h⟩|⟨e3,h⟩
 ·rcases iS h with⟨e4,h⟩|⟨e4,h⟩
  ·cases h;simp only [↓AB,AC,↓reduceIte,Nat.reduceEqDiff,Nat.reduceLT,c1,c2,e3,e4]
  ·have e4f:Mr=false:=Gf.mpr e4;cases h;simp only [↓AB,AC,↓reduceIte,Nat.reduceEqDiff,Nat.reduceLT,c1,c2,e3,e4f]
 ·have e3f:O7=false:=Gf.mpr e3;rcases iS h with⟨e4,h⟩|⟨e4,h⟩
  ·cases h;simp only [↓AB,AC,↓reduceIte,Nat.reduceEqDiff,Nat.reduceLT,c1,c2,e3f,e4]
  ·have e4f:Mr=false:=Gf.mpr e4;rcases iS h with⟨e5,h⟩|⟨e5,h⟩
   ·cases h;simp only [↓AB,AC,↓reduceIte,Nat.reduceEqDiff,Nat.reduceLT,c1,c2,e3f,e4f,e5]
   ·rcases iS h with⟨e6,h⟩|⟨e6,h⟩
    ·cases h;simp only [↓AB,AC,↓reduceIte,Nat.reduceEqDiff,Nat.reduceLT,c1,c2,e3f,e4f,e5,e6]
    ·cases h;simp only [↓AB,AC,↓reduceIte,Nat.reduceEqDiff,Nat.reduceLT,c1,c2,e3f,e4f,e5,e6]
noncomputable def PD(s1_ s2_:AA)(Bv:Int):Option ((Int)⊕(Int⊕Unit)):= if Bv<(s1_.length:Int)then ck (0≤Bv∧Bv.toNat<s1_.length)<| if(s2_.length:Int)≤Bv then some (Sum.inr (Sum.inl 1)) else ck (0≤Bv∧Bv.toNat<s2_.length)<| (GX (s1_.getD Bv.toNat default) (s2_.getD Bv.toNat default)).bind fun U1=> if U1=0 then some (Sum.inl (IntKind.i64.wrap (Bv+1))) else some (Sum.inr (Sum.inl U1)) else some (Sum.inr (Sum.inr ()))
noncomputable def Sw(s1_ s2_:AA)(v:Int):Option (Int⊕Unit):=Fv (fun v=>PD s1_ s2_ v) v
noncomputable def gCp(s1_ s2_:AA):Option (Int):=
 (Sw s1_ s2_ 0).bind fun A8=>
 match A8 with
 | .inl q1000_=>
  some q1000_
 | .inr q1000_=>
  if(s1_.length:Int)<(s2_.length:Int)then
   some (-1)
  else
   some 0
def jG:SC:= .seq (.ops [oB 12 .lss 3 (tK 11) (tK 10) 3 0]) (.seq (.cond (tK 12) .skip (.exit 0)) (.seq (.block 1 (.seq (.ops [oM 13 11 3,oI 14 27 9 11,oL 15 3 14 3,oA 5 13 3,oA 6 15 3]) (.seq (.seq (.ops [oM 16 5 3,oM 17 1 27,oN 18 17 27,oB 19 .geq 3 (tK 16) (tK 18) 3 4]) (.cond (tK 19) (.seq (.ops [oX 4 (.assign (iK 1)) 3]) .ret) .skip)) (.seq (.ops [oM 20 1 27,oM 21 5 3,oI 22 27 20 21,oL 23 3 22 3,oA 7 23 3]) (.seq (.ops [oM 24 6 3,oM 25 7 3,oC 26 96 [(tK 24),(tK 25)] [3,3] 3,oA 8 26 3]) (.seq (.ops [oM 27 8 3,oB 28 .neq 3 (tK 27) (iK 0) 3 4]) (.cond (tK 28) (.seq (.ops [oM 29 8 3,oA 4 29 3]) .ret) .skip))))))) (.ops [oB 30 .add 3 (tK 11) (iK 1) 3 3,oM 11 30 3])))
def A0Z:SC:= .loop jG
def k64:SC:= .seq (.ops [oX 4 (.assign (iK 0)) 3]) (.seq (.seq (.ops [oM 9 0 27,oN 10 9 27,oX 11 (.move (iK 0)) 3]) (.block 0 A0Z)) (.seq (.seq (.ops [oM 31 0 27,oN 32 31 27,oM 33 1 27,oN 34 33 27,oB 35 .lss 3 (tK 32) (tK 34) 3 4]) (.cond (tK 35) (.seq (.ops [oX 4 Uc 3]) .ret) .skip)) (.seq (.ops [oX 4 (.assign (iK 0)) 3]) .ret)))
theorem A7f:Tryz.f64.body.map (BI lends)=some k64:=by kernel_rfl
theorem AKE:BR Tryz.f64 2=true:=by kernel_rfl
theorem c64{a l:List D}{r:D×List D}(h:BU Y.env k64 (Du Ab l.length [ResultVar.tmp 4] r) (entry a l))(ha:a.length=2):Y.call 64 a l=some r:=
 AP (Y:=Y) rfl Tryz.func64 (ha▸AKE) A7f h
def Nh(s1_ s2_:AA)(Bv:Int)(s:St):Prop:=s.v 0=D.sl 3 (AJ (D.int .i64) s1_)∧s.v 1=D.sl 3 (AJ (D.int .i64) s2_)∧s.v 9=D.sl 3 (AJ (D.int .i64) s1_)∧s.v 10=D.int .i64 (s1_.length:Int)∧s.v 11=D.int .i64 Bv
def PE(s1_ s2_:AA)(r:Int⊕Unit)(ex:Ex)(s:St):Prop:=match r with
 | .inl q=>ex= .ret∧s.v 4=D.int .i64 q
 | .inr q=>ex= .exit 0∧s.v 0=D.sl 3 (AJ (D.int .i64) s1_)∧s.v 1=D.sl 3 (AJ (D.int .i64) s2_)
theorem xU(s1_ s2_:AA){v:Int}{s:St}{r:Int⊕Unit}(h:Sw s1_ s2_ v=some r)(hM:Nh s1_ s2_ v s):BU Y.env A0Z (PE s1_ s2_ r) s:=by
 unfold Sw at h;refine Ap (c:=jG) (fun v=>PD s1_ s2_ v) (fun v s=>Nh s1_ s2_ v s) (PE s1_ s2_) ?_ h hM;clear h hM s v r;intro Bv s o hM h;unfold PD at h;unfold Nh at hM;obtain⟨m0,m1,m2,m3,m4⟩:=hM;unfold jG;rcases iS h with⟨e1,h⟩|⟨e1,h⟩
 ·obtain⟨e2,h⟩:=DL h;rcases iS h with⟨e3,h⟩|⟨e3,h⟩
  ·cases h;simp only [↓AB,AC,↓reduceIte,Nat.reduceEqDiff,Nat.reduceLT,m1,m2,m3,m4,e1,e2.1,e2.2,e3,Nh,PE,Tz]
  ·obtain⟨e4,h⟩:=DL h;obtain⟨U1,hl5,h⟩:=AQ h;have c5:=RN (s1_.getD Bv.toNat default) (s2_.getD Bv.toNat default) hl5;rcases iS h with⟨e6,h⟩|⟨e6,h⟩
   ·cases h;simp only [↓AB,AC,↓reduceIte,Nat.reduceEqDiff,Nat.reduceLT,m0,m1,m2,m3,m4,e1,e2.1,e2.2,e3,e4.2,c5,decide_eq_true e6,Nh,Dw]
   ·cases h;simp only [↓AB,AC,↓reduceIte,Nat.reduceEqDiff,Nat.reduceLT,m1,m2,m3,m4,e1,e2.1,e2.2,e3,e4.2,c5,e6,Nh,PE,Tz]
 ·cases h;simp only [↓AB,AC,↓reduceIte,Nat.reduceEqDiff,Nat.reduceLT,m0,m1,m3,m4,e1,Nh,PE,Ir]
theorem oJ(s1_ s2_:AA){r:Int}(h:gCp s1_ s2_=some r):Y.call 64 [D.sl 3 (AJ (D.int .i64) s1_),D.sl 3 (AJ (D.int .i64) s2_)] []=some (D.int .i64 r,[]):=by
 refine c64 ?_ rfl;unfold k64;unfold gCp at h;obtain⟨A8,hl2,h⟩:=AQ h;try dsimp only at h
 simp only [↓AB,AC,↓reduceIte,Nat.reduceEqDiff,Nat.reduceLT,Int.reduceNeg];refine AZ (xU s1_ s2_ hl2 ?_) ?_
 ·simp only [BC,Ce,↓reduceIte,Nat.reduceEqDiff,Nat.reduceLT,Nh]
 ·intro ex2 s2 hX2;rcases A8 with q1000_|q1000_
  ·unfold PE at hX2;dsimp only at hX2 h;obtain⟨rfl,n2_0⟩:=hX2;cases h;simp only [↓AB,AC,↓reduceIte,n2_0]
  ·unfold PE at hX2;dsimp only at hX2 h;obtain⟨rfl,n2_0,n2_1⟩:=hX2;rcases iS h with⟨e3,h⟩|⟨e3,h⟩
   ·cases h;simp only [↓AB,AC,↓reduceIte,Nat.reduceEqDiff,Nat.reduceLT,n2_0,n2_1,e3]
   ·cases h;simp only [↓AB,AC,↓reduceIte,Nat.reduceEqDiff,Nat.reduceLT,n2_0,n2_1,e3]
theorem Wy(x y:Int):GX x y=some (if x<y then-1 else if y<x then 1 else 0):=by
 unfold GX Cn;by_cases h1:x<y<;>by_cases h2:y<x<;>simp [h1,h2]
theorem cZ: ∀(a b p q:AA),p.length=q.length→p.length+a.length<1099511627776→q.length+b.length<1099511627776→
  (Sw (p++a) (q++b) (p.length:Int)).bind (fun r=>match r with| .inl q2=>some q2| .inr _=>if((p++a).length:Int)<((q++b).length:Int)then some (-1)else some 0)=some (cmpL a b):=by
 intro a
 induction a with
 |nil=>
  intro b p q hpq ha hb;unfold Sw;rw [Fp (r:=Sum.inr ())]
  ·simp only [Bl,O6,KU,hpq]
   cases b with
   |nil=>rw [if_neg (by simp)];rfl
   |cons y b=>rw [if_pos (by simp;omega)];rfl
  ·simp only [PD];rw [if_neg (Va _)]
 |cons x a ih=>
  intro b p q hpq ha hb;simp only [JS]at ha hb;have ex:(p++x::a).getD (p.length:Int).toNat default=x:=by rw [H5];exact Dc p (x::a) p.length rfl (by simp)
  cases b with
  |nil=>
   unfold Sw;rw [Fp (r:=Sum.inl 1)]
   ·rfl
   ·simp only [PD];rw [if_pos (Ud ..),Ao (Ue ..),if_pos (by simp;omega)]
  |cons y b=>
   simp only [JS]at hb;have ey:(q++y::b).getD (p.length:Int).toNat default=y:=by rw [H5,hpq];exact Dc q (y::b) q.length rfl (by simp)
   have step:PD (p++x::a) (q++y::b) (p.length:Int)=if x=y then some (.inl (((p++[x]).length:Nat):Int))else some (.inr (.inl (if x<y then-1 else 1))):=by
    unfold PD;rw [if_pos (Ud ..),Ao (Ue ..),if_neg (by simp;omega),Ao (by simp;omega),ex,ey,Wy,Bl,H9 _ (by omega)]
    by_cases h1:x=y
    ·subst h1;simp
    ·rw [if_neg h1];by_cases h2:x<y
     ·simp [h2]
     ·have h3:y<x:=by omega
      simp [h2,h3]
   unfold cmpL;by_cases h1:x=y
   ·rw [if_pos h1];rw [if_pos h1]at step;have:=ih b (p++[x]) (q++[y]) (by simp [hpq]) (by simp;omega) (by simp;omega)
    unfold Sw at this ⊢;rw [NH step];simpa using this
   ·rw [if_neg h1];rw [if_neg h1]at step;unfold Sw;rw [Fp step];rfl
theorem A0a(a b:AA)(ha:a.length<1099511627776)(hb:b.length<1099511627776):gCp a b=some (cmpL a b):=by
 have:=cZ a b [] [] rfl (by simpa using ha) (by simpa using hb)
 unfold gCp;simp only [R5,SB,Jb]at this;exact this
theorem A7g(s1_ s2_:AA)(h0:s1_.length<1099511627776)(h1:s2_.length<1099511627776):Y.call 64 [D.sl 3 (AJ (D.int .i64) s1_),D.sl 3 (AJ (D.int .i64) s2_)] []=some (D.int .i64 (cmpL s1_ s2_),[]):=oJ s1_ s2_ (A0a s1_ s2_ h0 h1)
noncomputable def Sy(n_:Int):Option (Int):= if 0<n_ then some 1 else if n_<0 then some (-1) else some 0
def k84:SC:= .seq (.ops [oX 2 (.assign (iK 0)) 3]) (.seq (.block 0 (.seq (.ops [oM 4 0 3,oB 5 .gtr 3 (tK 4) (iK 0) 3 4,oA 3 5 4]) (.cond (tK 3) (.seq (.ops [oX 2 (.assign (iK 1)) 3]) .ret) (.seq (.ops [oM 7 0 3,oB 8 .lss 3 (tK 7) (iK 0) 3 4,oA 6 8 4]) (.cond (tK 6) (.seq (.ops [oX 2 Uc 3]) .ret) .skip))))) (.seq (.ops [oX 2 (.assign (iK 0)) 3]) .ret))
theorem A7h:Tryz.f84.body.map (BI lends)=some k84:=by kernel_rfl
theorem AKG:BR Tryz.f84 1=true:=by kernel_rfl
theorem c84{a l:List D}{r:D×List D}(h:BU Y.env k84 (Du Ab l.length [ResultVar.tmp 2] r) (entry a l))(ha:a.length=1):Y.call 84 a l=some r:=
 AP (Y:=Y) rfl Tryz.func84 (ha▸AKG) A7h h
theorem cu(n_:Int){r:Int}(h:Sy n_=some r):Y.call 84 [D.int .i64 n_] []=some (D.int .i64 r,[]):=by
 refine c84 ?_ rfl;unfold k84;unfold Sy at h;rcases iS h with⟨e1,h⟩|⟨e1,h⟩
 ·cases h;simp only [↓AB,AC,↓reduceIte,Nat.reduceEqDiff,Nat.reduceLT,e1]
 ·rcases iS h with⟨e2,h⟩|⟨e2,h⟩
  ·cases h;simp only [↓AB,AC,↓reduceIte,Nat.reduceEqDiff,Nat.reduceLT,e1,e2]
  ·cases h;simp only [↓AB,AC,↓reduceIte,Nat.reduceEqDiff,Nat.reduceLT,e1,e2]
noncomputable def Hr(a b:AA)(MZ:Int):Option ((Int)⊕(Int⊕Unit)):= if MZ<(a.length:Int)then ck (0≤MZ∧MZ.toNat<a.length)<| ck (0≤MZ∧MZ.toNat<b.length)<| if(a.getD MZ.toNat default)=(b.getD MZ.toNat default)then some (Sum.inl (IntKind.i64.wrap (MZ+1))) else (Sy (IntKind.i64.wrap ((a.getD MZ.toNat default)-(b.getD MZ.toNat default)))).bind fun U1=> some (Sum.inr (Sum.inl U1)) else some (Sum.inr (Sum.inr ()))
noncomputable def Ia(a b:AA)(v:Int):Option (Int⊕Unit):=Fv (fun v=>Hr a b v) v
noncomputable def Te(a b:AA):Option (Int):=
 (Ia a b 0).bind fun A8=>
 match A8 with
 | .inl q1000_=>
  some q1000_
 | .inr q1000_=>
  some 0
def jH:SC:= .seq (.ops [oB 10 .lss 3 (tK 9) (tK 8) 3 0]) (.seq (.cond (tK 10) .skip (.exit 0)) (.seq (.block 1 (.seq (.ops [oM 11 9 3,oI 12 27 7 9,oL 13 3 12 3,oA 5 11 3,oA 6 13 3]) (.seq (.ops [oM 14 6 3,oM 15 1 27,oM 16 5 3,oI 17 27 15 16,oL 18 3 17 3,oB 19 .neq 3 (tK 14) (tK 18) 3 4]) (.cond (tK 19) (.seq (.ops [oM 20 6 3,oM 21 1 27,oM 22 5 3,oI 23 27 21 22,oL 24 3 23 3,oB 25 .sub 3 (tK 20) (tK 24) 3 3,oC 26 84 [(tK 25)] [3] 3,oA 4 26 3]) .ret) .skip)))) (.ops [oB 27 .add 3 (tK 9) (iK 1) 3 3,oM 9 27 3])))
def A0b:SC:= .loop jH
def k55:SC:= .seq (.ops [oX 4 (.assign (iK 0)) 3]) (.seq (.seq (.ops [oM 7 0 27,oN 8 7 27,oX 9 (.move (iK 0)) 3]) (.block 0 A0b)) (.seq (.ops [oX 4 (.assign (iK 0)) 3]) .ret))
theorem A7i:Tryz.f55.body.map (BI lends)=some k55:=by kernel_rfl
theorem AKI:BR Tryz.f55 2=true:=by kernel_rfl
theorem c55{a l:List D}{r:D×List D}(h:BU Y.env k55 (Du Ab l.length [ResultVar.tmp 4] r) (entry a l))(ha:a.length=2):Y.call 55 a l=some r:=
 AP (Y:=Y) rfl Tryz.func55 (ha▸AKI) A7i h
def Fa(a b:AA)(MZ:Int)(s:St):Prop:=s.v 1=D.sl 3 (AJ (D.int .i64) b)∧s.v 7=D.sl 3 (AJ (D.int .i64) a)∧s.v 8=D.int .i64 (a.length:Int)∧s.v 9=D.int .i64 MZ
def Ht(a b:AA)(r:Int⊕Unit)(ex:Ex)(s:St):Prop:=match r with
 | .inl q=>ex= .ret∧s.v 4=D.int .i64 q
 | .inr q=>ex= .exit 0
theorem Y7(a b:AA){v:Int}{s:St}{r:Int⊕Unit}(h:Ia a b v=some r)(hM:Fa a b v s):BU Y.env A0b (Ht a b r) s:=by
 unfold Ia at h;refine Ap (c:=jH) (fun v=>Hr a b v) (fun v s=>Fa a b v s) (Ht a b) ?_ h hM;clear h hM s v r;intro MZ s o hM h;unfold Hr at h;unfold Fa at hM;obtain⟨m0,m1,m2,m3⟩:=hM;unfold jH;rcases iS h with⟨e1,h⟩|⟨e1,h⟩
 ·obtain⟨e2,e3,h⟩:=Fy h;rcases iS h with⟨e4,h⟩|⟨e4,h⟩
  ·cases h;simp only [↓AB,AC,↓reduceIte,Nat.reduceEqDiff,Nat.reduceLT,m0,m1,m2,m3,e1,e2.1,e2.2,e3.2,decide_eq_true e4,Fa,Dw]
  ·obtain⟨U1,hl5,h⟩:=AQ h;try dsimp only at h
   have c5:=cu (IntKind.i64.wrap ((a.getD MZ.toNat default)-(b.getD MZ.toNat default))) hl5;cases h;simp only [↓AB,AC,↓reduceIte,Nat.reduceEqDiff,Nat.reduceLT,m0,m1,m2,m3,e1,e2.1,e2.2,e3.2,e4,c5,Fa,Ht,Tz]
 ·cases h;simp only [↓AB,AC,↓reduceIte,Nat.reduceLT,m2,m3,e1,Fa,Ht,Ir]
theorem Zm(a b:AA){r:Int}(h:Te a b=some r):Y.call 55 [D.sl 3 (AJ (D.int .i64) a),D.sl 3 (AJ (D.int .i64) b)] []=some (D.int .i64 r,[]):=by
 refine c55 ?_ rfl;unfold k55;unfold Te at h;obtain⟨A8,hl2,h⟩:=AQ h;try dsimp only at h
 simp only [↓AB,AC,↓reduceIte,Nat.reduceEqDiff,Nat.reduceLT];refine AZ (Y7 a b hl2 ?_) ?_
 ·simp only [BC,Ce,↓reduceIte,Nat.reduceEqDiff,Nat.reduceLT,Fa]
 ·intro ex2 s2 hX2;rcases A8 with q1000_|q1000_
  ·unfold Ht at hX2;dsimp only at hX2 h;obtain⟨rfl,n2_0⟩:=hX2;cases h;simp only [↓AB,AC,↓reduceIte,n2_0]
  ·unfold Ht at hX2;dsimp only at hX2 h
   obtain rfl:=hX2
   cases h;simp only [↓AB,AC,↓reduceIte,Nat.reduceEqDiff,Nat.reduceLT]
def Ib(l:AA):Bool:=P6 l (-1099511627776) 1099511627776
theorem Zn{l:AA}(h:Ib l=true){x:Int}(hx:x∈l): -1099511627776≤x∧x≤1099511627776:=by
 have:=JR.1 h x hx;exact MG.1 this
theorem fA{l:AA}{lo hi:Int}(h:P6 l lo hi=true)(h1: -1099511627776≤lo)(h2:hi≤1099511627776):Ib l=true:=by
 refine JR.2 fun x hx=> ?_;have:=MG.1 (JR.1 h x hx)
 exact MG.2 ⟨by omega,by omega⟩
theorem oK(n:Int):Sy n=some (if n<0 then-1 else if 0<n then 1 else 0):=by
 unfold Sy;by_cases h1:n<0<;>by_cases h2:0<n<;>simp [h1,h2]<;>omega
theorem oO: ∀(a b p q:AA),p.length=q.length→a.length=b.length→p.length+a.length<1099511627776→Ib a=true→Ib b=true→
  (Ia (p++a) (q++b) (p.length:Int)).bind (fun r=>match r with| .inl q2=>some q2| .inr _=>some 0)=some (cmpL a b):=by
 intro a
 induction a with
 |nil=>
  intro b p q hpq hab ha h1 h2;have:b=[]:=by cases b with|nil=>rfl|cons _ _=>simp at hab
  subst this;unfold Ia;rw [Fp (r:=Sum.inr ())]
  ·rfl
  ·simp only [Hr];rw [if_neg (Va _)]
 |cons x a ih=>
  intro b p q hpq hab ha h1 h2
  cases b with
  |nil=>simp at hab
  |cons y b=>
   simp only [JS]at ha hab;have sx1:=Zn h1 (Ja ..);have sy1:=Zn h2 (Ja ..);have ex:(p++x::a).getD (p.length:Int).toNat default=x:=by rw [H5];exact Dc p (x::a) p.length rfl (by simp)
   have ey:(q++y::b).getD (p.length:Int).toNat default=y:=by rw [H5,hpq];exact Dc q (y::b) q.length rfl (by simp)
   have step:Hr (p++x::a) (q++y::b) (p.length:Int)=if x=y then some (.inl (((p++[x]).length:Nat):Int))else some (.inr (.inl (if x<y then-1 else 1))):=by
    unfold Hr;rw [if_pos (Ud ..),Ao (Ue ..),Ao (by simp;omega),ex,ey,H9 _ (by omega),Db _ (by omega),oK,Bl]
    by_cases h1:x=y
    ·subst h1;simp
    ·rw [if_neg h1,if_neg h1];by_cases h2:x<y
     ·rw [if_pos (by omega),if_pos h2]
     ·rw [if_neg (by omega),if_pos (by omega),if_neg h2]
   have s1:Ib a=true:=JR.2 fun z hz=>JR.1 h1 z (KT _ hz);have s2:Ib b=true:=JR.2 fun z hz=>JR.1 h2 z (KT _ hz);unfold cmpL;by_cases h1:x=y
   ·rw [if_pos h1];rw [if_pos h1]at step;have:=ih b (p++[x]) (q++[y]) (by simp [hpq]) (by omega) (by simp;omega) s1 s2
    unfold Ia at this ⊢;rw [NH step];simpa using this
   ·rw [if_neg h1];rw [if_neg h1]at step;unfold Ia;rw [Fp step];rfl
theorem jI(a b:AA)(ha:a.length<1099511627776)(hab:a.length=b.length)(h1:Ib a=true)(h2:Ib b=true):Te a b=some (cmpL a b):=by
 have:=oO a b [] [] rfl hab (by simpa using ha) h1 h2
 unfold Te;simp only [R5,SB,Jb]at this;exact this
theorem Vi(a b:AA)(h0:a.length<1099511627776)(h1:a.length=b.length)(h2:Ib a=true)(h3:Ib b=true):Y.call 55 [D.sl 3 (AJ (D.int .i64) a),D.sl 3 (AJ (D.int .i64) b)] []=some (D.int .i64 (cmpL a b),[]):=Zm a b (jI a b h0 h1 h2 h3)
def RO(l:AL)(size labels:Int)(i:Nat):Bool:=
 ((decide (((l.getD i default).length:Int)=size)&&JW (l.getD i default))&&P6 (l.getD i default) 0 (labels-1))&&(decide (i=0)||decide (cmpL (l.getD (i-1) default) (l.getD i default)<0))
def MI(l:AL)(size labels:Int):Bool:=(List.range l.length).all (RO l size labels)
def LM(labels degree:Int)(ns es:AL):Bool:=((OQ labels 1 8&&OQ degree 1 4)&&MI ns degree labels)&&MI es 2 labels
theorem Ah.getD{l:AL}(h:Ah l)(i:Nat):(l.getD i default).length<1099511627776:=by
 rcases Nat.lt_or_ge i l.length with hi|hi
 ·rw [AX _ _ hi];exact h.at i hi
 ·rw [Lp,List.getElem?_eq_none hi];decide
noncomputable def Qj(list:AL)(size labels Bv:Int):Option ((Int)⊕(Unit⊕Unit)):= if Bv<(list.length:Int)then ck (0≤Bv∧Bv.toNat<list.length)<| if((list.getD Bv.toNat default).length:Int)=size then ck ((list.getD Bv.toNat default).length<1099511627776)<| if(JW (list.getD Bv.toNat default))=true then if(P6 (list.getD Bv.toNat default) (0:Int) (IntKind.i64.wrap (labels-1)))=true then if 0<Bv then ck (0≤IntKind.i64.wrap (Bv-1)∧(IntKind.i64.wrap (Bv-1)).toNat<list.length)<| ck ((list.getD ((IntKind.i64.wrap (Bv-1)).toNat) default).length<1099511627776)<| if 0≤(cmpL (list.getD ((IntKind.i64.wrap (Bv-1)).toNat) default) (list.getD Bv.toNat default))then some (Sum.inr (Sum.inl ())) else some (Sum.inl (IntKind.i64.wrap (Bv+1))) else some (Sum.inl (IntKind.i64.wrap (Bv+1))) else some (Sum.inr (Sum.inl ())) else some (Sum.inr (Sum.inl ())) else some (Sum.inr (Sum.inl ())) else some (Sum.inr (Sum.inr ()))
noncomputable def jJ(list:AL)(size labels v:Int):Option (Unit⊕Unit):=Fv (fun v=>Qj list size labels v) v
noncomputable def iCO(list:AL)(size labels:Int):Option (Bool):=
 (jJ list size labels 0).bind fun A8=>
 match A8 with
 | .inl q1000_=>
  some false
 | .inr q1000_=>
  some true
def jK:SC:= .seq (.ops [oB 12 .lss 3 (tK 11) (tK 10) 3 0]) (.seq (.cond (tK 12) .skip (.exit 0)) (.seq (.block 1 (.seq (.ops [oM 13 11 3,oI 14 22 9 11,oL 15 27 14 27,oA 7 13 3,oA 8 15 27]) (.seq (.ops [oM 16 8 27,oN 17 16 27,oM 18 1 3,oB 19 .neq 3 (tK 17) (tK 18) 3 4,oM 20 19 4,⟨some 21,.move (tK 8),27,(some (some 20,false))⟩,⟨some 22,.call ⟨(.value (.func 62)), #[(tK 21)], #[27]⟩,4,(some (some 20,false))⟩,⟨some 23,.unOp .not 4 (tK 22),4,(some (some 20,false))⟩,oX 24 (.pick (tK 20) Gx (tK 23)) 4,oM 25 24 4,⟨some 26,.move (tK 8),27,(some (some 25,false))⟩,⟨some 27,.move (tK 2),3,(some (some 25,false))⟩,⟨some 28,.binOp .sub 3 (tK 27) (iK 1) 3,3,(some (some 25,false))⟩,⟨some 29,.call ⟨(.value (.func 63)), #[(tK 26),(iK 0),(tK 28)], #[27,3,3]⟩,4,(some (some 25,false))⟩,⟨some 30,.unOp .not 4 (tK 29),4,(some (some 25,false))⟩,oX 31 (.pick (tK 25) Gx (tK 30)) 4,oM 32 31 4,⟨some 33,.move (tK 7),3,(some (some 32,false))⟩,⟨some 34,.binOp .gtr 3 (tK 33) (iK 0) 3,4,(some (some 32,false))⟩,⟨some 35,.move (tK 34),4,(some (some 32,false))⟩,⟨some 36,.move (tK 0),22,(some (some 35,true))⟩,⟨some 37,.move (tK 7),3,(some (some 35,true))⟩,⟨some 38,.binOp .sub 3 (tK 37) (iK 1) 3,3,(some (some 35,true))⟩,
 ⟨some 39,.indexAddr 22 (tK 36) (tK 38),0,(some (some 35,true))⟩,⟨some 40,.load 27 (tK 39),27,(some (some 35,true))⟩,⟨some 41,.move (tK 8),27,(some (some 35,true))⟩,⟨some 42,.call ⟨(.value (.func 64)), #[(tK 40),(tK 41)], #[27,27]⟩,3,(some (some 35,true))⟩,⟨some 43,.binOp .geq 3 (tK 42) (iK 0) 3,4,(some (some 35,true))⟩,⟨some 44,.pick (tK 35) (tK 43) Mq,4,(some (some 32,false))⟩,oX 45 (.pick (tK 32) Gx (tK 44)) 4]) (.cond (tK 45) (.seq (.ops [oX 6 BX 4]) .ret) .skip)))) (.ops [oB 46 .add 3 (tK 11) (iK 1) 3 3,oM 11 46 3])))
def A0c:SC:= .loop jK
def k39:SC:= .seq (.ops [oX 6 BX 4]) (.seq (.seq (.ops [oM 9 0 22,oN 10 9 22,oX 11 (.move (iK 0)) 3]) (.block 0 A0c)) (.seq (.ops [oX 6 (.assign Gx) 4]) .ret))
theorem A7j:Tryz.f39.body.map (BI lends)=some k39:=by kernel_rfl
theorem AKL:BR Tryz.f39 3=true:=by kernel_rfl
theorem c39{a l:List D}{r:D×List D}(h:BU Y.env k39 (Du Ab l.length [ResultVar.tmp 6] r) (entry a l))(ha:a.length=3):Y.call 39 a l=some r:=
 AP (Y:=Y) rfl Tryz.func39 (ha▸AKL) A7j h
def Jj(list:AL)(size labels Bv:Int)(s:St):Prop:=s.v 0=D.sl 27 (AJ Ac list)∧s.v 1=D.int .i64 size∧s.v 2=D.int .i64 labels∧s.v 9=D.sl 27 (AJ Ac list)∧s.v 10=D.int .i64 (list.length:Int)∧s.v 11=D.int .i64 Bv
def MJ(list:AL)(size labels:Int)(r:Unit⊕Unit)(ex:Ex)(s:St):Prop:=match r with
 | .inl q=>ex= .ret∧s.v 6=D.bool false
 | .inr q=>ex= .exit 0
theorem xV(list:AL)(size labels:Int){v:Int}{s:St}{r:Unit⊕Unit}(h:jJ list size labels v=some r)(hM:Jj list size labels v s):BU Y.env A0c (MJ list size labels r) s:=by
 unfold jJ at h;refine Ap (c:=jK) (fun v=>Qj list size labels v) (fun v s=>Jj list size labels v s) (MJ list size labels) ?_ h hM;clear h hM s v r;intro Bv s o hM h;unfold Qj at h;unfold Jj at hM;obtain⟨m0,m1,m2,m3,m4,m5⟩:=hM;unfold jK;rcases iS h with⟨e1,h⟩|⟨e1,h⟩
 ·obtain⟨e2,h⟩:=DL h;rcases iS h with⟨e3,h⟩|⟨e3,h⟩
  ·obtain⟨e4,h⟩:=DL h;have c5:=A7c (list.getD Bv.toNat default) e4;rcases iS h with⟨e6,h⟩|⟨e6,h⟩
   ·have c7:=Zl (list.getD Bv.toNat default) (0:Int) (IntKind.i64.wrap (labels-1)) e4;rcases iS h with⟨e8,h⟩|⟨e8,h⟩
    ·rcases iS h with⟨e9,h⟩|⟨e9,h⟩
     ·obtain⟨e10,e11,h⟩:=Fy h;have c12:=A7g (list.getD ((IntKind.i64.wrap (Bv-1)).toNat) default) (list.getD Bv.toNat default) e11 e4;rcases iS h with⟨e13,h⟩|⟨e13,h⟩
      ·cases h;simp only [↓AB,AC,↓reduceIte,Nat.reduceEqDiff,Nat.reduceLT,m0,m1,m2,m3,m4,m5,e1,e2.1,e2.2,decide_eq_true e3,c5,e6,c7,e8,e9,e10.1,e10.2,c12,e13,Jj,MJ,Tz]
      ·cases h;simp only [↓AB,AC,↓reduceIte,Nat.reduceEqDiff,Nat.reduceLT,m0,m1,m2,m3,m4,m5,e1,e2.1,e2.2,decide_eq_true e3,c5,e6,c7,e8,e9,e10.1,e10.2,c12,e13,Jj,Dw]
     ·cases h;simp only [↓AB,AC,↓reduceIte,Nat.reduceEqDiff,Nat.reduceLT,m0,m1,m2,m3,m4,m5,e1,e2.1,e2.2,decide_eq_true e3,c5,e6,c7,e8,e9,Jj,Dw]
    ·have e8f:(P6 (list.getD Bv.toNat default) (0:Int) (IntKind.i64.wrap (labels-1)))=false:=Gf.mpr e8;cases h;simp only [↓AB,AC,↓reduceIte,Nat.reduceEqDiff,Nat.reduceLT,m1,m2,m3,m4,m5,e1,e2.1,e2.2,decide_eq_true e3,c5,e6,c7,e8f,Jj,MJ,Tz]
   ·have e6f:(JW (list.getD Bv.toNat default))=false:=Gf.mpr e6;cases h;simp only [↓AB,AC,↓reduceIte,Nat.reduceEqDiff,Nat.reduceLT,m1,m3,m4,m5,e1,e2.1,e2.2,decide_eq_true e3,c5,e6f,Jj,MJ,Tz]
  ·cases h;simp only [↓AB,AC,↓reduceIte,Nat.reduceEqDiff,Nat.reduceLT,m1,m3,m4,m5,e1,e2.1,e2.2,e3,Jj,MJ,Tz]
 ·cases h;simp only [↓AB,AC,↓reduceIte,Nat.reduceLT,m4,m5,e1,Jj,MJ,Ir]
theorem A0d(list:AL)(size labels:Int){r:Bool}(h:iCO list size labels=some r):Y.call 39 [D.sl 27 (AJ Ac list),D.int .i64 size,D.int .i64 labels] []=some (D.bool r,[]):=by
 refine c39 ?_ rfl;unfold k39;unfold iCO at h;obtain⟨A8,hl2,h⟩:=AQ h;try dsimp only at h
 simp only [↓AB,AC,↓reduceIte,Nat.reduceEqDiff,Nat.reduceLT];refine AZ (xV list size labels hl2 ?_) ?_
 ·simp only [BC,Ce,↓reduceIte,Nat.reduceEqDiff,Nat.reduceLT,Jj]
 ·intro ex2 s2 hX2;rcases A8 with q1000_|q1000_
  ·unfold MJ at hX2;dsimp only at hX2 h;obtain⟨rfl,n2_0⟩:=hX2;cases h;simp only [↓AB,AC,↓reduceIte,n2_0]
  ·unfold MJ at hX2;dsimp only at hX2 h
   obtain rfl:=hX2
   cases h;simp only [↓AB,AC,↓reduceIte,Nat.reduceEqDiff,Nat.reduceLT]
theorem A7k(l:AL)(size labels:Int)(h:Ah l)(hl:1≤labels∧labels≤8):iCO l size labels=some (MI l size labels):=by
 have h1:=h.1;unfold iCO jJ;have key:=Pi (fun v=>Qj l size labels v) (fun i=>(i:Int)) l.length (RO l size labels) (.inl ()) (.inr ()) ?_ ?_
 ·simp only [Jb]at key;rw [key];unfold MI
  cases (List.range l.length).all (RO l size labels)<;>rfl
 ·intro i hi;simp only [Qj];rw [if_pos (BZ hi),Ao (Gj hi),H5,H9 i (by omega),Db (labels-1) (by omega)]
  have hs:=h.getD i;have hs1:=h.getD (i-1);rw [Ao hs];unfold RO;generalize l.getD i default=x at*;by_cases q1:(x.length:Int)=size
  ·rw [if_pos q1]
   cases q2:JW x with
   |false=>simp
   |true=>
    rw [if_pos rfl]
    cases q3:P6 x 0 (labels-1)with
    |false=>simp
    |true=>
     rw [if_pos rfl];by_cases q4:i=0
     ·simp [q1,q4]
     ·rw [if_pos (by omega),Db _ (by omega),Ao (by omega),show((i:Int)-1).toNat=i-1 by omega,Ao hs1]
      generalize l.getD (i-1) default=y at*;by_cases q5:0≤cmpL y x
      ·rw [if_pos q5,if_neg (by simp;intro _;exact⟨q4,q5⟩)]
      ·rw [if_neg q5,if_pos (by simp [q1,q4];omega)]
  ·have e:=decide_eq_false q1;rw [if_neg q1,if_neg (by rw [e];simp)]
 ·simp only [Qj];rw [if_neg (Ae _)]
theorem A0e(list:AL)(size labels:Int)(h0:Ah list)(h1:1≤labels∧labels≤8):Y.call 39 [D.sl 27 (AJ Ac list),D.int .i64 size,D.int .i64 labels] []=some (D.bool (MI list size labels),[]):=A0d list size labels (A7k list size labels h0 h1)
noncomputable def PG(l:AL)(size labels CZ k:Int):Option ((Int)⊕(Unit⊕Unit)):= if k<size then ck (0≤IntKind.i64.wrap (k-1)∧(IntKind.i64.wrap (k-1)).toNat<(l.getD CZ.toNat default).length)<| ck (0≤k∧k.toNat<(l.getD CZ.toNat default).length)<| if((l.getD CZ.toNat default).getD k.toNat default)<((l.getD CZ.toNat default).getD ((IntKind.i64.wrap (k-1)).toNat) default)then some (Sum.inr (Sum.inl ())) else some (Sum.inl (IntKind.i64.wrap (k+1))) else some (Sum.inr (Sum.inr ()))
noncomputable def Wz(l:AL)(size labels CZ v:Int):Option (Unit⊕Unit):=Fv (fun v=>PG l size labels CZ v) v
noncomputable def Qk(l:AL)(size labels CZ:Int):Option ((Int)⊕(Unit⊕Unit)):=
 if CZ<(l.length:Int)then
  ck (0≤CZ∧CZ.toNat<l.length)<|
  if((l.getD CZ.toNat default).length:Int)=size then
   ck ((l.getD CZ.toNat default).length<1099511627776)<|
   if(P6 (l.getD CZ.toNat default) (0:Int) (IntKind.i64.wrap (labels-1)))=true then
    if 0<CZ then
     ck (0≤IntKind.i64.wrap (CZ-1)∧(IntKind.i64.wrap (CZ-1)).toNat<l.length)<|
     ck ((l.getD ((IntKind.i64.wrap (CZ-1)).toNat) default).length<1099511627776)<|
     ck ((l.getD ((IntKind.i64.wrap (CZ-1)).toNat) default).length=(l.getD CZ.toNat default).length)<|
     ck (Ib (l.getD ((IntKind.i64.wrap (CZ-1)).toNat) default)=true)<|
     ck (Ib (l.getD CZ.toNat default)=true)<|
     if 0≤(cmpL (l.getD ((IntKind.i64.wrap (CZ-1)).toNat) default) (l.getD CZ.toNat default))then
      some (Sum.inr (Sum.inl ()))
     else
      (Wz l size labels CZ 1).bind fun A8=>
      match A8 with
      | .inl q1000_=>
       some (Sum.inr (Sum.inl ()))
      | .inr q1000_=>
       some (Sum.inl (IntKind.i64.wrap (CZ+1)))
    else
     (Wz l size labels CZ 1).bind fun A8=>
     match A8 with
     | .inl q1000_=>
      some (Sum.inr (Sum.inl ()))
     | .inr q1000_=>
      some (Sum.inl (IntKind.i64.wrap (CZ+1)))
   else
    some (Sum.inr (Sum.inl ()))
  else
   some (Sum.inr (Sum.inl ()))
 else
  some (Sum.inr (Sum.inr ()))
noncomputable def jL(l:AL)(size labels v:Int):Option (Unit⊕Unit):=Fv (fun v=>Qk l size labels v) v
noncomputable def sPL(l:AL)(size labels:Int):Option (Bool):=
 (jL l size labels 0).bind fun Ad=>
 match Ad with
 | .inl q1001_=>
  some false
 | .inr q1001_=>
  some true
abbrev qd7:List Nat:=[47,48,49,50,51,52,53,54,55,56]
def jM:SC:= .seq (.seq (.ops [oM 42 9 3,oM 43 1 3,oB 44 .lss 3 (tK 42) (tK 43) 3 4]) (.cond (tK 44) .skip (.exit 2))) (.seq (.block 3 (.seq (.draws [(⟨[47,8,8],qd7,[47]⟩,oM 47 8 27),(⟨[48,9,9],qd7,[48]⟩,oM 48 9 3),(⟨[49,48,9],qd7,[49]⟩,oB 49 .sub 3 (tK 48) (iK 1) 3 3),(⟨[50,47,49,8,49],qd7,[50]⟩,oI 50 27 47 49),(⟨[51,50,8],qd7,[51]⟩,oL 51 3 50 3),(⟨[52,8,8],qd7,[52]⟩,oM 52 8 27),(⟨[53,9,9],qd7,[53]⟩,oM 53 9 3),(⟨[54,52,53,8,9],qd7,[54]⟩,oI 54 27 52 53),(⟨[55,54,8],qd7,[55]⟩,oL 55 3 54 3),(⟨[56,51,55,8,8],qd7,[56]⟩,oB 56 .gtr 3 (tK 51) (tK 55) 3 4)]) (.cond (tK 56) (.seq (.ops [oX 6 BX 4]) .ret) .skip))) (.ops [oM 45 9 3,oB 46 .add 3 (tK 45) (iK 1) 3 3,oA 9 46 3]))
def A0f:SC:= .loop jM
def jO:SC:= .seq (.ops [oB 13 .lss 3 (tK 12) (tK 11) 3 0]) (.seq (.cond (tK 13) .skip (.exit 0)) (.seq (.block 1 (.seq (.ops [oM 14 12 3,oI 15 22 10 12,oL 16 27 15 27,oA 7 14 3,oA 8 16 27]) (.seq (.seq (.ops [oM 17 8 27,oN 18 17 27,oM 19 1 3,oB 20 .neq 3 (tK 18) (tK 19) 3 4,oM 21 20 4,⟨some 22,.move (tK 8),27,(some (some 21,false))⟩,⟨some 23,.move (tK 2),3,(some (some 21,false))⟩,⟨some 24,.binOp .sub 3 (tK 23) (iK 1) 3,3,(some (some 21,false))⟩,⟨some 25,.call ⟨(.value (.func 54)), #[(tK 22),(iK 0),(tK 24)], #[27,3,3]⟩,4,(some (some 21,false))⟩,⟨some 26,.unOp .not 4 (tK 25),4,(some (some 21,false))⟩,oX 27 (.pick (tK 21) Gx (tK 26)) 4,oM 28 27 4,⟨some 29,.move (tK 7),3,(some (some 28,false))⟩,⟨some 30,.binOp .gtr 3 (tK 29) (iK 0) 3,4,(some (some 28,false))⟩,⟨some 31,.move (tK 30),4,(some (some 28,false))⟩,⟨some 32,.move (tK 0),22,(some (some 31,true))⟩,⟨some 33,.move (tK 7),3,(some (some 31,true))⟩,⟨some 34,.binOp .sub 3 (tK 33) (iK 1) 3,3,(some (some 31,true))⟩,⟨some 35,.indexAddr 22 (tK 32) (tK 34),0,(some (some 31,true))⟩,⟨some 36,.load 27 (tK 35),27,(some (some 31,true))⟩,⟨some 37,.move (tK 8),27,(some (some 31,true))⟩,⟨some 38,.call ⟨(.value (.func 55)), #[(tK 36),(tK 37)], #[27,27]⟩,3,(some (some 31,true))⟩,
 ⟨some 39,.binOp .geq 3 (tK 38) (iK 0) 3,4,(some (some 31,true))⟩,⟨some 40,.pick (tK 31) (tK 39) Mq,4,(some (some 28,false))⟩,oX 41 (.pick (tK 28) Gx (tK 40)) 4]) (.cond (tK 41) (.seq (.ops [oX 6 BX 4]) .ret) .skip)) (.seq (.ops [oX 9 (.assign (iK 1)) 3]) (.block 2 A0f))))) (.ops [oB 57 .add 3 (tK 12) (iK 1) 3 3,oM 12 57 3])))
def A0g:SC:= .loop jO
def k34:SC:= .seq (.ops [oX 6 BX 4]) (.seq (.seq (.ops [oM 10 0 22,oN 11 10 22,oX 12 (.move (iK 0)) 3]) (.block 0 A0g)) (.seq (.ops [oX 6 (.assign Gx) 4]) .ret))
theorem A7l:Tryz.f34.body.map (BI lends)=some k34:=by kernel_rfl
theorem AKN:BR Tryz.f34 3=true:=by kernel_rfl
theorem c34{a l:List D}{r:D×List D}(h:BU Y.env k34 (Du Ab l.length [ResultVar.tmp 6] r) (entry a l))(ha:a.length=3):Y.call 34 a l=some r:=
 AP (Y:=Y) rfl Tryz.func34 (ha▸AKN) A7l h
def Ni(l:AL)(size labels CZ k:Int)(s:St):Prop:=s.v 0=D.sl 27 (AJ Ac l)∧s.v 1=D.int .i64 size∧s.v 2=D.int .i64 labels∧s.v 8=D.sl 3 (AJ (D.int .i64) (l.getD CZ.toNat default))∧s.v 9=D.int .i64 k∧s.v 10=D.sl 27 (AJ Ac l)∧s.v 11=D.int .i64 (l.length:Int)∧s.v 12=D.int .i64 CZ
def Nj(l:AL)(size labels CZ:Int)(r:Unit⊕Unit)(ex:Ex)(s:St):Prop:=match r with
 | .inl q=>ex= .ret∧s.v 6=D.bool false
 | .inr q=>ex= .exit 2∧s.v 0=D.sl 27 (AJ Ac l)∧s.v 1=D.int .i64 size∧s.v 2=D.int .i64 labels∧s.v 10=D.sl 27 (AJ Ac l)∧s.v 11=D.int .i64 (l.length:Int)∧s.v 12=D.int .i64 CZ
theorem fB(l:AL)(size labels CZ:Int){v:Int}{s:St}{r:Unit⊕Unit}(h:Wz l size labels CZ v=some r)(hM:Ni l size labels CZ v s):BU Y.env A0f (Nj l size labels CZ r) s:=by
 unfold Wz at h;refine Ap (c:=jM) (fun v=>PG l size labels CZ v) (fun v s=>Ni l size labels CZ v s) (Nj l size labels CZ) ?_ h hM;clear h hM s v r;intro k s o hM h;unfold PG at h;unfold Ni at hM;obtain⟨m0,m1,m2,m3,m4,m5,m6,m7⟩:=hM;unfold jM;rcases iS h with⟨e15,h⟩|⟨e15,h⟩
 ·obtain⟨e16,e17,h⟩:=Fy h;rcases iS h with⟨e18,h⟩|⟨e18,h⟩
  ·cases h;simp only [↓AB,AC,↓reduceIte,Nat.reduceEqDiff,Nat.reduceLT,m1,m3,m4,e15,e16.1,e16.2,e17.1,e17.2,e18,Ni,Nj,Tz]
  ·cases h;simp only [↓AB,AC,↓reduceIte,Nat.reduceEqDiff,Nat.reduceLT,m0,m1,m2,m3,m4,m5,m6,m7,e15,e16.1,e16.2,e17.1,e17.2,e18,Ni,Dw]
 ·cases h;simp only [↓AB,AC,↓reduceIte,Nat.reduceEqDiff,Nat.reduceLT,m0,m1,m2,m4,m5,m6,m7,e15,Ni,Nj,Ir]
def Iu(l:AL)(size labels CZ:Int)(s:St):Prop:=s.v 0=D.sl 27 (AJ Ac l)∧s.v 1=D.int .i64 size∧s.v 2=D.int .i64 labels∧s.v 10=D.sl 27 (AJ Ac l)∧s.v 11=D.int .i64 (l.length:Int)∧s.v 12=D.int .i64 CZ
def Kn(l:AL)(size labels:Int)(r:Unit⊕Unit)(ex:Ex)(s:St):Prop:=match r with
 | .inl q=>ex= .ret∧s.v 6=D.bool false
 | .inr q=>ex= .exit 0
theorem xW(l:AL)(size labels:Int){v:Int}{s:St}{r:Unit⊕Unit}(h:jL l size labels v=some r)(hM:Iu l size labels v s):BU Y.env A0g (Kn l size labels r) s:=by
 unfold jL at h;refine Ap (c:=jO) (fun v=>Qk l size labels v) (fun v s=>Iu l size labels v s) (Kn l size labels) ?_ h hM;clear h hM s v r;intro CZ s o hM h;unfold Qk at h;unfold Iu at hM;obtain⟨m0,m1,m2,m3,m4,m5⟩:=hM;unfold jO;rcases iS h with⟨e1,h⟩|⟨e1,h⟩
 ·obtain⟨e2,h⟩:=DL h;rcases iS h with⟨e3,h⟩|⟨e3,h⟩
  ·obtain⟨e4,h⟩:=DL h;have c5:=tO (l.getD CZ.toNat default) (0:Int) (IntKind.i64.wrap (labels-1)) e4;rcases iS h with⟨e6,h⟩|⟨e6,h⟩
   ·rcases iS h with⟨e7,h⟩|⟨e7,h⟩
    ·obtain⟨e8,e9,e10,e11,h⟩:=bY h;obtain⟨e12,h⟩:=DL h;have c13:=Vi (l.getD ((IntKind.i64.wrap (CZ-1)).toNat) default) (l.getD CZ.toNat default) e9 e10 e11 e12;rcases iS h with⟨e14,h⟩|⟨e14,h⟩
     ·cases h;simp only [↓AB,AC,↓reduceIte,Nat.reduceEqDiff,Nat.reduceLT,m0,m1,m2,m3,m4,m5,e1,e2.1,e2.2,decide_eq_true e3,c5,e6,e7,e8.1,e8.2,c13,e14,Iu,Kn,Tz]
     ·obtain⟨A8,hl16,h⟩:=AQ h;try dsimp only at h
      simp only [↓AB,AC,↓reduceIte,Nat.reduceEqDiff,Nat.reduceLT,m0,m1,m2,m3,m4,m5,e1,e2.1,e2.2,decide_eq_true e3,c5,e6,e7,e8.1,e8.2,c13,e14];refine AZ (fB l size labels CZ hl16 ?_) ?_
      ·simp only [BC,↓reduceIte,Nat.reduceEqDiff,m0,m1,m2,m3,m4,m5,Ni]
      ·intro ex16 s16 hX16;rcases A8 with q1000_|q1000_
       ·unfold Nj at hX16;dsimp only at hX16 h;obtain⟨rfl,n16_0⟩:=hX16;cases h;simp only [↓AB,AC,n16_0,Iu,Kn,Tz]
       ·unfold Nj at hX16;dsimp only at hX16 h;obtain⟨rfl,n16_0,n16_1,n16_2,n16_3,n16_4,n16_5⟩:=hX16;cases h;simp only [↓AB,AC,↓reduceIte,Nat.reduceEqDiff,Nat.reduceLT,n16_0,n16_1,n16_2,n16_3,n16_4,n16_5,Iu,Dw]
    ·obtain⟨A8,hl9,h⟩:=AQ h;try dsimp only at h
     simp only [↓AB,AC,↓reduceIte,Nat.reduceEqDiff,Nat.reduceLT,m1,m2,m3,m4,m5,e1,e2.1,e2.2,decide_eq_true e3,c5,e6,e7];refine AZ (fB l size labels CZ hl9 ?_) ?_
     ·simp only [BC,↓reduceIte,Nat.reduceEqDiff,m0,m1,m2,m3,m4,m5,Ni]
     ·intro ex9 s9 hX9;rcases A8 with q1000_|q1000_
      ·unfold Nj at hX9;dsimp only at hX9 h;obtain⟨rfl,n9_0⟩:=hX9;cases h;simp only [↓AB,AC,n9_0,Iu,Kn,Tz]
      ·unfold Nj at hX9;dsimp only at hX9 h;obtain⟨rfl,n9_0,n9_1,n9_2,n9_3,n9_4,n9_5⟩:=hX9;cases h;simp only [↓AB,AC,↓reduceIte,Nat.reduceEqDiff,Nat.reduceLT,n9_0,n9_1,n9_2,n9_3,n9_4,n9_5,Iu,Dw]
   ·have e6f:(P6 (l.getD CZ.toNat default) (0:Int) (IntKind.i64.wrap (labels-1)))=false:=Gf.mpr e6;cases h;simp only [↓AB,AC,↓reduceIte,Nat.reduceEqDiff,Nat.reduceLT,m1,m2,m3,m4,m5,e1,e2.1,e2.2,decide_eq_true e3,c5,e6f,Iu,Kn,Tz]
  ·cases h;simp only [↓AB,AC,↓reduceIte,Nat.reduceEqDiff,Nat.reduceLT,m1,m3,m4,m5,e1,e2.1,e2.2,e3,Iu,Kn,Tz]
 ·cases h;simp only [↓AB,AC,↓reduceIte,Nat.reduceLT,m4,m5,e1,Iu,Kn,Ir]
theorem A0h(l:AL)(size labels:Int){r:Bool}(h:sPL l size labels=some r):Y.call 34 [D.sl 27 (AJ Ac l),D.int .i64 size,D.int .i64 labels] []=some (D.bool r,[]):=by
 refine c34 ?_ rfl;unfold k34;unfold sPL at h;obtain⟨Ad,hl2,h⟩:=AQ h;try dsimp only at h
 simp only [↓AB,AC,↓reduceIte,Nat.reduceEqDiff,Nat.reduceLT];refine AZ (xW l size labels hl2 ?_) ?_
 ·simp only [BC,Ce,↓reduceIte,Nat.reduceEqDiff,Nat.reduceLT,Iu]
 ·intro ex2 s2 hX2;rcases Ad with q1001_|q1001_
  ·unfold Kn at hX2;dsimp only at hX2 h;obtain⟨rfl,n2_0⟩:=hX2;cases h;simp only [↓AB,AC,↓reduceIte,n2_0]
  ·unfold Kn at hX2;dsimp only at hX2 h
   obtain rfl:=hX2
   cases h;simp only [↓AB,AC,↓reduceIte,Nat.reduceEqDiff,Nat.reduceLT]
theorem cz(l:AL)(size labels t:Int)(x:AA)(hx:l.getD t.toNat default=x)(hs:(x.length:Int)=size)(hb:x.length<1099511627776):
  Wz l size labels t 1=some (if JW x=true then .inr ()else .inl ()):=by
 unfold Wz;rcases Nat.eq_zero_or_pos x.length with h0|h0
 ·rw [Fp (r:=Sum.inr ())]
  ·simp [JW,h0]
  ·simp only [PG];rw [if_neg (by omega)]
 ·have key:=Pi (fun v=>PG l size labels t v) (fun j=>(j:Int)+1) (x.length-1) (fun i=>decide (x.getD i default≤x.getD (i+1) default)) (.inl ()) (.inr ()) ?_ ?_
  ·simp only [Jb,Int.zero_add]at key;rw [key];rfl
  ·intro i hi;simp only [PG];rw [hx,if_pos (by omega),Db _ (by omega),Db _ (by omega),Ao (by omega),Ao (by omega),show((i:Int)+1).toNat=i+1 by omega,show((i:Int)+1-1).toNat=i by omega]
   simp only [decide_eq_true_eq];by_cases hq:x.getD (i+1) default<x.getD i default
   ·rw [if_pos hq,if_neg (by omega)]
   ·rw [if_neg hq,if_pos (by omega)];rfl
  ·simp only [PG];rw [if_neg (by omega)]
theorem A7m(l:AL)(size labels:Int)(h:Ah l)(hl:1≤labels∧labels≤8):sPL l size labels=some (MI l size labels):=by
 have h1:=h.1;unfold sPL jL;have key:=ng (fun v=>Qk l size labels v) (fun i=>(i:Int)) l.length (RO l size labels) (.inl ()) (.inr ()) ?_ ?_
 ·simp only [Jb]at key;rw [key];unfold MI
  cases (List.range l.length).all (RO l size labels)<;>rfl
 ·intro i hi hp;simp only [Qk];rw [if_pos (BZ hi),Ao (Gj hi),H9 i (by omega),Db (labels-1) (by omega)]
  have hs:=h.getD i;have hs1:=h.getD (i-1);rw [H5,Ao hs];by_cases q1:((l.getD i default).length:Int)=size
  ·rw [if_pos q1];have inner:=cz l size labels (i:Int) (l.getD i default) (by rw [H5]) q1 hs
   rw [inner];have hprev:=hp (i-1);unfold RO at hprev ⊢;generalize l.getD i default=x at*
   cases q3:P6 x 0 (labels-1)with
   |false=>simp
   |true=>
    rw [if_pos rfl];by_cases q4:i=0
    ·rw [if_neg (by omega)]
     cases q2:JW x<;>simp [q1,q4]
    ·rw [if_pos (by omega),Db _ (by omega),Ao (by omega),show((i:Int)-1).toNat=i-1 by omega,Ao hs1]
     have hprev:=hprev (by omega)
     generalize l.getD (i-1) default=y at*;simp only [Ju,decide_eq_true_eq]at hprev;rw [Ao (by omega),Ao (fA hprev.1.2 (by omega) (by omega)),Ao (fA q3 (by omega) (by omega))]
     by_cases q5:0≤cmpL y x
     ·rw [if_pos q5,if_neg (by simp;intro _ _;exact⟨q4,q5⟩)]
     ·rw [if_neg q5];have q6:cmpL y x<0:=by omega
      cases q2:JW x<;>simp [q1,q6]
  ·have e:=decide_eq_false q1;unfold RO;rw [if_neg q1,if_neg (by rw [e];simp)]
 ·intro _;simp only [Qk];rw [if_neg (Ae _)]
theorem A0i(l:AL)(size labels:Int)(h0:Ah l)(h1:1≤labels∧labels≤8):Y.call 34 [D.sl 27 (AJ Ac l),D.int .i64 size,D.int .i64 labels] []=some (D.bool (MI l size labels),[]):=A0h l size labels (A7m l size labels h0 h1)
noncomputable def Px(pL pD:Int)(pN pE:AL):Option (Bool):= if(OQ pL (1:Int) (8:Int))=true then if(OQ pD (1:Int) (4:Int))=true then ck (Ah pN)<| ck (1≤pL∧pL≤8)<| if(MI pN pD pL)=true then ck (Ah pE)<| some (MI pE (2:Int) pL) else some false else some false else some false
def k24:SC:= .seq (.ops [oX 1 (.box 26 (tK 0)) 0,oX 2 BX 4]) (.seq (.ops [oF 3 26 1 0,oL 4 3 3 3,oC 5 38 [(tK 4),(iK 1),(iK 8)] [3,3,3] 4,oM 6 5 4,⟨some 7,.fieldAddr 26 (tK 1) 1,0,(some (some 6,true))⟩,⟨some 8,.load 3 (tK 7),3,(some (some 6,true))⟩,⟨some 9,.call ⟨(.value (.func 38)), #[(tK 8),(iK 1),(iK 4)], #[3,3,3]⟩,4,(some (some 6,true))⟩,oX 10 (.pick (tK 6) (tK 9) Mq) 4,oM 11 10 4,⟨some 12,.fieldAddr 26 (tK 1) 2,0,(some (some 11,true))⟩,⟨some 13,.load 22 (tK 12),22,(some (some 11,true))⟩,⟨some 14,.fieldAddr 26 (tK 1) 1,0,(some (some 11,true))⟩,⟨some 15,.load 3 (tK 14),3,(some (some 11,true))⟩,⟨some 16,.fieldAddr 26 (tK 1) 0,0,(some (some 11,true))⟩,⟨some 17,.load 3 (tK 16),3,(some (some 11,true))⟩,⟨some 18,.call ⟨(.value (.func 39)), #[(tK 13),(tK 15),(tK 17)], #[22,3,3]⟩,4,(some (some 11,true))⟩,oX 19 (.pick (tK 11) (tK 18) Mq) 4,oM 20 19 4,⟨some 21,.fieldAddr 26 (tK 1) 3,0,(some (some 20,true))⟩,⟨some 22,.load 22 (tK 21),22,(some (some 20,true))⟩,⟨some 23,.fieldAddr 26 (tK 1) 0,0,(some (some 20,true))⟩,⟨some 24,.load 3 (tK 23),3,(some (some 20,true))⟩,⟨some 25,.call ⟨(.value (.func 39)), #[(tK 22),(iK 2),(tK 24)], #[22,3,3]⟩,4,(some (some 20,true))⟩,
 oX 26 (.pick (tK 20) (tK 25) Mq) 4,oA 2 26 4]) .ret)
theorem A7n:Tryz.f24.body.map (BI lends)=some k24:=by kernel_rfl
theorem AKP:BR Tryz.f24 1=true:=by kernel_rfl
theorem oP{a l:List D}{r:D×List D}(h:BU Y.env k24 (Du Ab l.length [ResultVar.tmp 2] r) (entry a l))(ha:a.length=1):Y.call 24 a l=some r:=
 AP (Y:=Y) rfl Tryz.func24 (ha▸AKP) A7n h
theorem X0(pL pD:Int)(pN pE:AL){r:Bool}(h:Px pL pD pN pE=some r):Y.call 24 [D.agg [D.int .i64 pL,D.int .i64 pD,D.sl 27 (AJ Ac pN),D.sl 27 (AJ Ac pE)]] []=some (D.bool r,[]):=by
 refine oP ?_ rfl;unfold k24;unfold Px at h;have c1:=Ld pL (1:Int) (8:Int);rcases iS h with⟨e2,h⟩|⟨e2,h⟩
 ·have c3:=Ld pD (1:Int) (4:Int);rcases iS h with⟨e4,h⟩|⟨e4,h⟩
  ·obtain⟨e5,e6,h⟩:=Fy h;have c7:=A0e pN pD pL e5 e6;rcases iS h with⟨e8,h⟩|⟨e8,h⟩
   ·obtain⟨e9,h⟩:=DL h;have lL:=A0e pE (2:Int) pL e9 e6;cases h;simp only [↓AB,AC,↓reduceIte,Nat.reduceEqDiff,Nat.reduceLT,c1,e2,c3,e4,c7,e8,lL]
   ·have e8f:(MI pN pD pL)=false:=Gf.mpr e8;cases h;simp only [↓AB,AC,↓reduceIte,Nat.reduceEqDiff,Nat.reduceLT,c1,e2,c3,e4,c7,e8f]
  ·have e4f:(OQ pD (1:Int) (4:Int))=false:=Gf.mpr e4;cases h;simp only [↓AB,AC,↓reduceIte,Nat.reduceEqDiff,Nat.reduceLT,c1,e2,c3,e4f]
 ·have e2f:(OQ pL (1:Int) (8:Int))=false:=Gf.mpr e2;cases h;simp only [↓AB,AC,↓reduceIte,Nat.reduceEqDiff,Nat.reduceLT,c1,e2f]
noncomputable def Vj(pL pD:Int)(pN pE:AL):Option (Bool):= if(OQ pL (1:Int) (8:Int))=true then if(OQ pD (1:Int) (4:Int))=true then ck (Ah pN)<| ck (1≤pL∧pL≤8)<| if(MI pN pD pL)=true then ck (Ah pE)<| some (MI pE (2:Int) pL) else some false else some false else some false
def k21:SC:= .seq (.ops [oX 1 (.box 26 (tK 0)) 0,oX 2 BX 4]) (.seq (.ops [oF 3 26 1 0,oL 4 3 3 3,oC 5 33 [(tK 4),(iK 1),(iK 8)] [3,3,3] 4,oM 6 5 4,⟨some 7,.fieldAddr 26 (tK 1) 1,0,(some (some 6,true))⟩,⟨some 8,.load 3 (tK 7),3,(some (some 6,true))⟩,⟨some 9,.call ⟨(.value (.func 33)), #[(tK 8),(iK 1),(iK 4)], #[3,3,3]⟩,4,(some (some 6,true))⟩,oX 10 (.pick (tK 6) (tK 9) Mq) 4,oM 11 10 4,⟨some 12,.fieldAddr 26 (tK 1) 2,0,(some (some 11,true))⟩,⟨some 13,.load 22 (tK 12),22,(some (some 11,true))⟩,⟨some 14,.fieldAddr 26 (tK 1) 1,0,(some (some 11,true))⟩,⟨some 15,.load 3 (tK 14),3,(some (some 11,true))⟩,⟨some 16,.fieldAddr 26 (tK 1) 0,0,(some (some 11,true))⟩,⟨some 17,.load 3 (tK 16),3,(some (some 11,true))⟩,⟨some 18,.call ⟨(.value (.func 34)), #[(tK 13),(tK 15),(tK 17)], #[22,3,3]⟩,4,(some (some 11,true))⟩,oX 19 (.pick (tK 11) (tK 18) Mq) 4,oM 20 19 4,⟨some 21,.fieldAddr 26 (tK 1) 3,0,(some (some 20,true))⟩,⟨some 22,.load 22 (tK 21),22,(some (some 20,true))⟩,⟨some 23,.fieldAddr 26 (tK 1) 0,0,(some (some 20,true))⟩,⟨some 24,.load 3 (tK 23),3,(some (some 20,true))⟩,⟨some 25,.call ⟨(.value (.func 34)), #[(tK 22),(iK 2),(tK 24)], #[22,3,3]⟩,4,(some (some 20,true))⟩,
 oX 26 (.pick (tK 20) (tK 25) Mq) 4,oA 2 26 4]) .ret)
theorem A7o:Tryz.f21.body.map (BI lends)=some k21:=by kernel_rfl
theorem AKR:BR Tryz.f21 1=true:=by kernel_rfl
theorem c21{a l:List D}{r:D×List D}(h:BU Y.env k21 (Du Ab l.length [ResultVar.tmp 2] r) (entry a l))(ha:a.length=1):Y.call 21 a l=some r:=
 AP (Y:=Y) rfl Tryz.func21 (ha▸AKR) A7o h
theorem d9(pL pD:Int)(pN pE:AL){r:Bool}(h:Vj pL pD pN pE=some r):Y.call 21 [D.agg [D.int .i64 pL,D.int .i64 pD,D.sl 27 (AJ Ac pN),D.sl 27 (AJ Ac pE)]] []=some (D.bool r,[]):=by
 refine c21 ?_ rfl;unfold k21;unfold Vj at h;have c1:=Td pL (1:Int) (8:Int);rcases iS h with⟨e2,h⟩|⟨e2,h⟩
 ·have c3:=Td pD (1:Int) (4:Int);rcases iS h with⟨e4,h⟩|⟨e4,h⟩
  ·obtain⟨e5,e6,h⟩:=Fy h;have c7:=A0i pN pD pL e5 e6;rcases iS h with⟨e8,h⟩|⟨e8,h⟩
   ·obtain⟨e9,h⟩:=DL h;have lL:=A0i pE (2:Int) pL e9 e6;cases h;simp only [↓AB,AC,↓reduceIte,Nat.reduceEqDiff,Nat.reduceLT,c1,e2,c3,e4,c7,e8,lL]
   ·have e8f:(MI pN pD pL)=false:=Gf.mpr e8;cases h;simp only [↓AB,AC,↓reduceIte,Nat.reduceEqDiff,Nat.reduceLT,c1,e2,c3,e4,c7,e8f]
  ·have e4f:(OQ pD (1:Int) (4:Int))=false:=Gf.mpr e4;cases h;simp only [↓AB,AC,↓reduceIte,Nat.reduceEqDiff,Nat.reduceLT,c1,e2,c3,e4f]
 ·have e2f:(OQ pL (1:Int) (8:Int))=false:=Gf.mpr e2;cases h;simp only [↓AB,AC,↓reduceIte,Nat.reduceEqDiff,Nat.reduceLT,c1,e2f]
theorem Zo(a b:Int)(n e:AL)(hn:Ah n)(he:Ah e):Px a b n e=some (LM a b n e):=by
 unfold Px LM;by_cases h1:OQ a 1 8=true
 ·have h1':=MG.1 h1;by_cases h2:OQ b 1 4=true
  ·rw [if_pos h1,if_pos h2,Ao hn,Ao h1',Ao he]
   cases h3:MI n b a<;>simp [h1,h2]
  ·rw [if_pos h1,if_neg h2];simp [h2]
 ·rw [if_neg h1];simp [h1]
theorem oQ(a b:Int)(n e:AL)(hn:Ah n)(he:Ah e):Vj a b n e=some (LM a b n e):=by
 unfold Vj LM;by_cases h1:OQ a 1 8=true
 ·have h1':=MG.1 h1;by_cases h2:OQ b 1 4=true
  ·rw [if_pos h1,if_pos h2,Ao hn,Ao h1',Ao he]
   cases h3:MI n b a<;>simp [h1,h2]
  ·rw [if_pos h1,if_neg h2];simp [h2]
 ·rw [if_neg h1];simp [h1]
theorem Zp(pL pD:Int)(pN pE:AL)(h0:Ah pN)(h1:Ah pE):Y.call 24 [D.agg [D.int .i64 pL,D.int .i64 pD,D.sl 27 (AJ Ac pN),D.sl 27 (AJ Ac pE)]] []=some (D.bool (LM pL pD pN pE),[]):=X0 pL pD pN pE (Zo pL pD pN pE h0 h1)
theorem oU(pL pD:Int)(pN pE:AL)(h0:Ah pN)(h1:Ah pE):Y.call 21 [D.agg [D.int .i64 pL,D.int .i64 pD,D.sl 27 (AJ Ac pN),D.sl 27 (AJ Ac pE)]] []=some (D.bool (LM pL pD pN pE),[]):=d9 pL pD pN pE (oQ pL pD pN pE h0 h1)
end Go.Proofs.YtjhjkfoabhplfaaGreat
