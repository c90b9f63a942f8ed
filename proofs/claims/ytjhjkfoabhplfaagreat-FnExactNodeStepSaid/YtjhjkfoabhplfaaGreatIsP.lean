/- When lists are a problem, as plain functions. Conditions: the lists are short. -/
import Derived.Test.YtjhjkfoabhplfaaGreatL6
import Derived.Test.YtjhjkfoabhplfaaGreatPB
namespace Go.Proofs.YtjhjkfoabhplfaaGreat
open Go Dv
set_option linter.unusedSimpArgs false
set_option linter.unusedVariables false
set_option maxRecDepth 100000
set_option maxHeartbeats 4000000
def PL(n lo hi:Int):Bool:=decide (lo≤n∧n≤hi)
theorem NR{n lo hi:Int}:PL n lo hi=true↔lo≤n∧n≤hi:=by simp [PL]
noncomputable def VB(n_:Int)(low:Int)(high:Int):Option (Bool):= if low≤n_ then some (decide (n_≤high)) else some false
def k38:SC:= .seq (.ops [oX 6 Cr 4]) (.seq (.ops [oM 7 1 3,oM 8 0 3,oB 9 .leq 3 (tK 7) (tK 8) 3 4,oM 10 9 4,⟨(some 11),(.move (tK 0)),3,(some (some 10,true))⟩,⟨(some 12),(.move (tK 2)),3,(some (some 10,true))⟩,⟨(some 13),(.binOp .leq 3 (tK 11) (tK 12) 3),4,(some (some 10,true))⟩,oX 14 (.pick (tK 10) (tK 13) OL) 4,oA 6 14 4]) .ret)
theorem A5e:Tryz.f38.body.map (Bw lends)=some k38:=by kernel_rfl
theorem AHk:CP Tryz.f38 3=true:=by kernel_rfl
theorem c38{a l:List D}{r:D×List D}(h:CG Y.env k38 (FX Ah l.length [ResultVar.tmp 6] r) (entry a l))(ha:a.length=3):Y.call 38 a l=some r:=
 AZ (Y:=Y) rfl Tryz.func38 (ha▸AHk) A5e h
theorem aR(n_:Int)(low:Int)(high:Int){r:Bool}(h:VB n_ low high=some r):Y.call 38 [D.int .i64 n_,D.int .i64 low,D.int .i64 high] []=some (D.bool r,[]):=by
 refine c38 ?_ rfl;unfold k38;unfold VB at h;rcases iS h with⟨e1,h⟩|⟨e1,h⟩
 ·obtain rfl:=Option.some.inj h
  simp only [↓AR,AU,↓reduceIte,Nat.reduceEqDiff,Nat.reduceLT,e1]
 ·obtain rfl:=Option.some.inj h
  simp only [↓AR,AU,↓reduceIte,Nat.reduceEqDiff,Nat.reduceLT,e1]
noncomputable def fw(n_:Int)(lo:Int)(hi:Int):Option (Bool):= if lo≤n_ then some (decide (n_≤hi)) else some false
def k33:SC:= .seq (.ops [oX 6 Cr 4]) (.seq (.ops [oM 7 0 3,oM 8 1 3,oB 9 .geq 3 (tK 7) (tK 8) 3 4,oM 10 9 4,⟨(some 11),(.move (tK 0)),3,(some (some 10,true))⟩,⟨(some 12),(.move (tK 2)),3,(some (some 10,true))⟩,⟨(some 13),(.binOp .leq 3 (tK 11) (tK 12) 3),4,(some (some 10,true))⟩,oX 14 (.pick (tK 10) (tK 13) OL) 4,oA 6 14 4]) .ret)
theorem A5f:Tryz.f33.body.map (Bw lends)=some k33:=by kernel_rfl
theorem AHm:CP Tryz.f33 3=true:=by kernel_rfl
theorem c33{a l:List D}{r:D×List D}(h:CG Y.env k33 (FX Ah l.length [ResultVar.tmp 6] r) (entry a l))(ha:a.length=3):Y.call 33 a l=some r:=
 AZ (Y:=Y) rfl Tryz.func33 (ha▸AHm) A5f h
theorem lW(n_:Int)(lo:Int)(hi:Int){r:Bool}(h:fw n_ lo hi=some r):Y.call 33 [D.int .i64 n_,D.int .i64 lo,D.int .i64 hi] []=some (D.bool r,[]):=by
 refine c33 ?_ rfl;unfold k33;unfold fw at h;rcases iS h with⟨e1,h⟩|⟨e1,h⟩
 ·obtain rfl:=Option.some.inj h
  simp only [↓AR,AU,↓reduceIte,Nat.reduceEqDiff,Nat.reduceLT,e1]
 ·obtain rfl:=Option.some.inj h
  simp only [↓AR,AU,↓reduceIte,Nat.reduceEqDiff,Nat.reduceLT,e1]
theorem lX(n lo hi:Int):VB n lo hi=some (PL n lo hi):=by unfold VB PL;by_cases h1:lo≤n<;>by_cases h2:n≤hi<;>simp [h1,h2]
theorem uo(n lo hi:Int):fw n lo hi=some (PL n lo hi):=by unfold fw PL;by_cases h1:lo≤n<;>by_cases h2:n≤hi<;>simp [h1,h2]
theorem Nn(n_:Int)(low:Int)(high:Int):Y.call 38 [D.int .i64 n_,D.int .i64 low,D.int .i64 high] []=some (D.bool (PL n_ low high),[]):=aR n_ low high (lX n_ low high)
theorem Sz(n_:Int)(lo:Int)(hi:Int):Y.call 33 [D.int .i64 n_,D.int .i64 lo,D.int .i64 hi] []=some (D.bool (PL n_ lo hi),[]):=lW n_ lo hi (uo n_ lo hi)
noncomputable def KT(l:AL)(lo:Int)(hi:Int)(Ca:Int):Option ((Int)⊕(Unit⊕Unit)):= if Ca<(l.length:Int)then ck (0≤Ca∧Ca.toNat<l.length)<| if(PL (l.getD Ca.toNat default) lo hi)=true then some (Sum.inl (IntKind.i64.wrap (Ca+1))) else some (Sum.inr (Sum.inl ())) else some (Sum.inr (Sum.inr ()))
noncomputable def Qv(l:AL)(lo:Int)(hi:Int)(v:Int):Option (Unit⊕Unit):=Hu (fun v=>KT l lo hi v) v
noncomputable def Xg(l:AL)(lo:Int)(hi:Int):Option (Bool):=
 (Qv l lo hi 0).bind fun AC=>
 match AC with
 | .inl q1000_=>
  some false
 | .inr q1000_=>
  some true
def gD:SC:= .seq (.ops [oB 12 .lss 3 (tK 11) (tK 10) 3 0]) (.seq (.cond (tK 12) .skip (.exit 0)) (.seq (.block 1 (.seq (.ops [oI 13 27 9 11,oL 14 3 13 3,oA 8 14 3]) (.seq (.ops [oM 15 8 3,oM 16 1 3,oM 17 2 3,oC 18 33 [(tK 15),(tK 16),(tK 17)] [3,3,3] 4,oX 19 (.unOp .not 4 (tK 18)) 4]) (.cond (tK 19) (.seq (.ops [oX 6 Cr 4]) .ret) .skip)))) (.ops [oB 20 .add 3 (tK 11) (iK 1) 3 3,oM 11 20 3])))
def yU:SC:= .loop gD
def k54:SC:= .seq (.ops [oX 6 Cr 4]) (.seq (.seq (.ops [oM 9 0 27,oN 10 9 27,oX 11 (.move (iK 0)) 3]) (.block 0 yU)) (.seq (.ops [oX 6 (.assign Kv) 4]) .ret))
theorem A5g:Tryz.f54.body.map (Bw lends)=some k54:=by kernel_rfl
theorem AHo:CP Tryz.f54 3=true:=by kernel_rfl
theorem c54{a l:List D}{r:D×List D}(h:CG Y.env k54 (FX Ah l.length [ResultVar.tmp 6] r) (entry a l))(ha:a.length=3):Y.call 54 a l=some r:=
 AZ (Y:=Y) rfl Tryz.func54 (ha▸AHo) A5g h
def Iy(l:AL)(lo:Int)(hi:Int)(Ca:Int)(s:St):Prop:=s.v 1=D.int .i64 lo∧s.v 2=D.int .i64 hi∧s.v 9=D.sl 3 (AV (D.int .i64) l)∧s.v 10=D.int .i64 (l.length:Int)∧s.v 11=D.int .i64 Ca
def KU(l:AL)(lo:Int)(hi:Int)(r:Unit⊕Unit)(ex:Ex)(s:St):Prop:=match r with
 | .inl q=>ex= .ret∧s.v 6=D.bool false
 | .inr q=>ex= .exit 0
theorem aS(l:AL)(lo:Int)(hi:Int){v:Int}{s:St}{r:Unit⊕Unit}(h:Qv l lo hi v=some r)(hM:Iy l lo hi v s):CG Y.env yU (KU l lo hi r) s:=by
 unfold Qv at h;refine BD (c:=gD) (fun v=>KT l lo hi v) (fun v s=>Iy l lo hi v s) (KU l lo hi) ?_ h hM;clear h hM s v r;intro Ca s o hM h;unfold KT at h;unfold Iy at hM;obtain⟨m0,m1,m2,m3,m4⟩:=hM;unfold gD;rcases iS h with⟨e1,h⟩|⟨e1,h⟩
 ·obtain⟨e2,h⟩:=EQ h;have c3:=Sz (l.getD Ca.toNat default) lo hi;rcases iS h with⟨e4,h⟩|⟨e4,h⟩
  ·obtain rfl:=Option.some.inj h
   simp only [↓AR,AU,↓reduceIte,Nat.reduceEqDiff,Nat.reduceLT,m0,m1,m2,m3,m4,e1,e2.1,e2.2,c3,e4,Iy,FV]
  ·have e4f:(PL (l.getD Ca.toNat default) lo hi)=false:=Ju.mpr e4
   obtain rfl:=Option.some.inj h
   simp only [↓AR,AU,↓reduceIte,Nat.reduceEqDiff,Nat.reduceLT,m0,m1,m2,m3,m4,e1,e2.1,e2.2,c3,e4f,Iy,KU,U2]
 ·obtain rfl:=Option.some.inj h
  simp only [↓AR,AU,↓reduceIte,Nat.reduceLT,m3,m4,e1,Iy,KU,KF]
theorem gF(l:AL)(lo:Int)(hi:Int){r:Bool}(h:Xg l lo hi=some r):Y.call 54 [D.sl 3 (AV (D.int .i64) l),D.int .i64 lo,D.int .i64 hi] []=some (D.bool r,[]):=by
 refine c54 ?_ rfl;unfold k54;unfold Xg at h;obtain⟨AC,hl2,h⟩:=Aa h;try dsimp only at h
 simp only [↓AR,AU,↓reduceIte,Nat.reduceEqDiff,Nat.reduceLT];refine Ai (aS l lo hi hl2 ?_) ?_
 ·simp only [Bd,Da,↓reduceIte,Nat.reduceEqDiff,Nat.reduceLT,Iy]
 ·intro ex2 s2 hX2;rcases AC with q1000_|q1000_
  ·unfold KU at hX2;dsimp only at hX2 h;obtain⟨rfl,n2_0⟩:=hX2
   obtain rfl:=Option.some.inj h
   simp only [↓AR,AU,↓reduceIte,n2_0]
  ·unfold KU at hX2;dsimp only at hX2 h
   obtain rfl:=hX2
   obtain rfl:=Option.some.inj h
   simp only [↓AR,AU,↓reduceIte,Nat.reduceEqDiff,Nat.reduceLT]
def Ox(l:AL)(lo hi:Int):Bool:=l.all fun x=>PL x lo hi
theorem pz(l:AL)(lo hi:Int)(h:l.length<1099511627776):Xg l lo hi=some (Ox l lo hi):=by
 unfold Xg Qv;have key:=PW (fun v=>KT l lo hi v) (fun i=>(i:Int)) l.length (fun i=>PL (l.getD i default) lo hi) (.inl ()) (.inr ()) ?_ ?_
 ·simp only [Kr]at key;rw [key,lH (fun x=>PL x lo hi)];unfold Ox
  cases l.all (fun x=>PL x lo hi)<;>rfl
 ·intro i hi;simp only [KT];rw [if_pos (CV hi),BF (Iu hi),JD,JS i (by omega)]
 ·simp only [KT];rw [if_neg (Au _)]
theorem qA(l:AL)(lo:Int)(hi:Int)(h0:l.length<1099511627776):Y.call 54 [D.sl 3 (AV (D.int .i64) l),D.int .i64 lo,D.int .i64 hi] []=some (D.bool (Ox l lo hi),[]):=gF l lo hi (pz l lo hi h0)
noncomputable def Ay(s_:AL)(f:Int→Option Bool)(O8:Int):Option ((Int)⊕(Int⊕Unit)):= if O8<(s_.length:Int)then ck (0≤O8∧O8.toNat<s_.length)<| (f (s_.getD O8.toNat default)).bind fun aT=> if aT=true then some (Sum.inr (Sum.inl O8)) else some (Sum.inl (IntKind.i64.wrap (O8+1))) else some (Sum.inr (Sum.inr ()))
noncomputable def DV(s_:AL)(f:Int→Option Bool)(v:Int):Option (Int⊕Unit):=Hu (fun v=>Ay s_ f v) v
noncomputable def D6(s_:AL)(f:Int→Option Bool):Option (Int):=
 (DV s_ f 0).bind fun AC=>
 match AC with
 | .inl q1000_=>
  some q1000_
 | .inr q1000_=>
  some (-1)
def Yy:SC:= .seq (.ops [oB 9 .lss 3 (tK 8) (tK 7) 3 0]) (.seq (.cond (tK 9) .skip (.exit 0)) (.seq (.block 1 (.seq (.ops [oM 10 8 3,oA 5 10 3]) (.seq (.ops [oM 11 1 87,oM 12 0 27,oM 13 5 3,oI 14 27 12 13,oL 15 3 14 3,oX 16 (.call ⟨(.value (tK 11)), #[(tK 15)], #[3]⟩) 4]) (.cond (tK 16) (.seq (.ops [oM 17 5 3,oA 4 17 3]) .ret) .skip)))) (.ops [oB 18 .add 3 (tK 8) (iK 1) 3 3,oM 8 18 3])))
def rF:SC:= .loop Yy
def A5h:SC:= .seq (.ops [oX 4 (.assign (iK 0)) 3]) (.seq (.seq (.ops [oM 6 0 27,oN 7 6 27,oX 8 (.move (iK 0)) 3]) (.block 0 rF)) (.seq (.ops [oX 4 U6 3]) .ret))
theorem A1H:Tryz.f112.body.map (Bw lends)=some A5h:=by kernel_rfl
theorem ACy:CP Tryz.f112 2=true:=by kernel_rfl
theorem AHp{a l:List D}{r:D×List D}(h:CG Y.env A5h (FX Ah l.length [ResultVar.tmp 4] r) (entry a l))(ha:a.length=2):Y.call 112 a l=some r:=
 AZ (Y:=Y) rfl Tryz.func112 (ha▸ACy) A1H h
def BR(s_:AL)(f:Int→Option Bool)(f_f:FuncId)(f_c:List D)(O8:Int)(s:St):Prop:=s.v 0=D.sl 3 (AV (D.int .i64) s_)∧s.v 1=D.clo f_f f_c∧s.v 7=D.int .i64 (s_.length:Int)∧s.v 8=D.int .i64 O8
def Bq(s_:AL)(f:Int→Option Bool)(f_f:FuncId)(f_c:List D)(r:Int⊕Unit)(ex:Ex)(s:St):Prop:=match r with
 | .inl q=>ex= .ret∧s.v 4=D.int .i64 q
 | .inr q=>ex= .exit 0
theorem M6(s_:AL)(f:Int→Option Bool)(f_f:FuncId)(f_c:List D)(f_h: ∀(a0:Int) (r:Bool),f a0=some r→Y.call f_f (D.int .i64 a0::f_c) []=some (D.bool r,[]))(f_l:lends f_f=false){v:Int}{s:St}{r:Int⊕Unit}(h:DV s_ f v=some r)(hM:BR s_ f f_f f_c v s):CG Y.env rF (Bq s_ f f_f f_c r) s:=by
 unfold DV at h;refine BD (c:=Yy) (fun v=>Ay s_ f v) (fun v s=>BR s_ f f_f f_c v s) (Bq s_ f f_f f_c) ?_ h hM;clear h hM s v r;intro O8 s o hM h;unfold Ay at h;unfold BR at hM;obtain⟨m0,m1,m2,m3⟩:=hM;unfold Yy;rcases iS h with⟨e1,h⟩|⟨e1,h⟩
 ·obtain⟨e2,h⟩:=EQ h;obtain⟨aT,hl3,h⟩:=Aa h;have c3:=f_h _ _ hl3;rcases iS h with⟨e4,h⟩|⟨e4,h⟩
  ·obtain rfl:=Option.some.inj h
   simp only [↓AR,AU,↓reduceIte,Nat.reduceEqDiff,Nat.reduceLT,m0,m1,m2,m3,f_l,e1,e2.1,e2.2,c3,e4,BR,Bq,U2]
  ·have e4f:aT=false:=Ju.mpr e4
   obtain rfl:=Option.some.inj h
   simp only [↓AR,AU,↓reduceIte,Nat.reduceEqDiff,Nat.reduceLT,m0,m1,m2,m3,f_l,e1,e2.1,e2.2,c3,e4f,BR,FV]
 ·obtain rfl:=Option.some.inj h
  simp only [↓AR,AU,↓reduceIte,Nat.reduceLT,m2,m3,e1,BR,Bq,KF]
theorem MO(s_:AL)(f:Int→Option Bool)(f_f:FuncId)(f_c:List D)(f_h: ∀(a0:Int) (r:Bool),f a0=some r→Y.call f_f (D.int .i64 a0::f_c) []=some (D.bool r,[]))(f_l:lends f_f=false){r:Int}(h:D6 s_ f=some r):Y.call 112 [D.sl 3 (AV (D.int .i64) s_),D.clo f_f f_c] []=some (D.int .i64 r,[]):=by
 refine AHp ?_ rfl;unfold A5h;unfold D6 at h;obtain⟨AC,hl2,h⟩:=Aa h;try dsimp only at h
 simp only [↓AR,AU,↓reduceIte,Nat.reduceEqDiff,Nat.reduceLT,Int.reduceNeg];refine Ai (M6 s_ f f_f f_c f_h f_l hl2 ?_) ?_
 ·simp only [Bd,Da,↓reduceIte,Nat.reduceEqDiff,Nat.reduceLT,BR]
 ·intro ex2 s2 hX2;rcases AC with q1000_|q1000_
  ·unfold Bq at hX2;dsimp only at hX2 h;obtain⟨rfl,n2_0⟩:=hX2
   obtain rfl:=Option.some.inj h
   simp only [↓AR,AU,↓reduceIte,n2_0]
  ·unfold Bq at hX2;dsimp only at hX2 h
   obtain rfl:=hX2
   obtain rfl:=Option.some.inj h
   simp only [↓AR,AU,↓reduceIte,Nat.reduceEqDiff,Nat.reduceLT,Int.reduceNeg]
noncomputable def Cb(s_:AL)(f:Int→Option Bool):Option (Bool):= (D6 s_ f).bind fun r7_=> some (decide (0≤r7_))
def k94:SC:= .seq (.ops [oX 4 Cr 4]) (.seq (.ops [oM 5 0 27,oM 6 1 87,oC 7 112 [(tK 5),(tK 6)] [27,87] 3,oB 8 .geq 3 (tK 7) (iK 0) 3 4,oA 4 8 4]) .ret)
theorem A5i:Tryz.f94.body.map (Bw lends)=some k94:=by kernel_rfl
theorem AHr:CP Tryz.f94 2=true:=by kernel_rfl
theorem c94{a l:List D}{r:D×List D}(h:CG Y.env k94 (FX Ah l.length [ResultVar.tmp 4] r) (entry a l))(ha:a.length=2):Y.call 94 a l=some r:=
 AZ (Y:=Y) rfl Tryz.func94 (ha▸AHr) A5i h
theorem LC(s_:AL)(f:Int→Option Bool)(f_f:FuncId)(f_c:List D)(f_h: ∀(a0:Int) (r:Bool),f a0=some r→Y.call f_f (D.int .i64 a0::f_c) []=some (D.bool r,[]))(f_l:lends f_f=false){r:Bool}(h:Cb s_ f=some r):Y.call 94 [D.sl 3 (AV (D.int .i64) s_),D.clo f_f f_c] []=some (D.bool r,[]):=by
 refine c94 ?_ rfl;unfold k94;unfold Cb at h;obtain⟨r7_,hl1,h⟩:=Aa h;try dsimp only at h
 have c1:=MO s_ f f_f f_c f_h f_l hl1
 obtain rfl:=Option.some.inj h
 simp only [↓AR,AU,↓reduceIte,Nat.reduceEqDiff,Nat.reduceLT,c1]
noncomputable def LD(n_:Int)(c0_:Int)(c1_:Int):Option (Bool):= some (!(PL n_ c0_ c1_))
def k95:SC:= .seq (.ops [oX 4 Cr 4]) (.seq (.ops [oM 5 0 3,oL 6 3 1 3,oL 7 3 2 3,oC 8 38 [(tK 5),(tK 6),(tK 7)] [3,3,3] 4,oX 9 (.unOp .not 4 (tK 8)) 4,oA 4 9 4]) .ret)
theorem A5j:Tryz.f95.body.map (Bw lends)=some k95:=by kernel_rfl
theorem AHt:CP Tryz.f95 3=true:=by kernel_rfl
theorem c95{a l:List D}{r:D×List D}(h:CG Y.env k95 (FX Ah l.length [ResultVar.tmp 4] r) (entry a l))(ha:a.length=3):Y.call 95 a l=some r:=
 AZ (Y:=Y) rfl Tryz.func95 (ha▸AHt) A5j h
theorem UB(n_:Int)(c0_:Int)(c1_:Int){r:Bool}(h:LD n_ c0_ c1_=some r):Y.call 95 [D.int .i64 n_,D.cptr [D.int .i64 c0_],D.cptr [D.int .i64 c1_]] []=some (D.bool r,[]):=by
 refine c95 ?_ rfl;unfold k95;unfold LD at h;have c1:=Nn n_ c0_ c1_
 obtain rfl:=Option.some.inj h
 simp only [↓AR,AU,↓reduceIte,Nat.reduceEqDiff,Nat.reduceLT,c1]
noncomputable def Pi(list:AL)(low:Int)(high:Int):Option (Bool):= (Cb list (fun a0=>LD a0 low high)).bind fun r9_=> some (!r9_)
def k63:SC:= .seq (.ops [oX 4 (.box 3 (tK 1)) 0,oX 5 (.box 3 (tK 2)) 0,oX 6 Cr 4]) (.seq (.ops [oM 7 0 27,oX 8 (.makeFunc (Fn.func 95) #[] #[(tK 4),(tK 5)]) 87,oC 9 94 [(tK 7),(tK 8)] [27,87] 4,oX 10 (.unOp .not 4 (tK 9)) 4,oA 6 10 4]) .ret)
theorem A5k:Tryz.f63.body.map (Bw lends)=some k63:=by kernel_rfl
theorem AHv:CP Tryz.f63 3=true:=by kernel_rfl
theorem c63{a l:List D}{r:D×List D}(h:CG Y.env k63 (FX Ah l.length [ResultVar.tmp 6] r) (entry a l))(ha:a.length=3):Y.call 63 a l=some r:=
 AZ (Y:=Y) rfl Tryz.func63 (ha▸AHv) A5k h
theorem WC(list:AL)(low:Int)(high:Int){r:Bool}(h:Pi list low high=some r):Y.call 63 [D.sl 3 (AV (D.int .i64) list),D.int .i64 low,D.int .i64 high] []=some (D.bool r,[]):=by
 refine c63 ?_ rfl;unfold k63;unfold Pi at h;obtain⟨r9_,hl1,h⟩:=Aa h;try dsimp only at h
 have c1:=LC list (fun a0=>LD a0 low high) 95 [D.cptr [D.int .i64 low],D.cptr [D.int .i64 high]] (fun a0 _ hh=>UB a0 low high hh) A5P hl1
 obtain rfl:=Option.some.inj h
 simp only [↓AR,AU,↓reduceIte,Nat.reduceEqDiff,Nat.reduceLT,c1]
theorem gG(l:AL)(f:Int→Option Bool)(p:Int→Bool)(h:l.length<1099511627776)(hf: ∀x∈l,f x=some (p x)):
  ∃r,D6 l f=some r∧(0≤r↔l.any p=true):=by
 unfold D6 DV;by_cases ha: ∀i,i<l.length→(!p (l.getD i default))=true
 ·have key:=Bv (fun v=>Ay l f v) (fun i=>(i:Int)) l.length (.inr ()) ?_ ?_
  ·simp only [Kr]at key;rw [key]
   refine⟨-1,rfl,by simp,fun hc=> ?_⟩
   obtain⟨x,hx,hpx⟩:=List.any_eq_true.1 hc;obtain⟨i,hi,rfl⟩:=Tt hx;have:=ha i hi
   rw [Af _ _ hi,hpx]at this;cases this
  ·intro i hi;simp only [Ay];have e:=ha i hi;rw [Af _ _ hi]at e;rw [if_pos (CV hi),BF (Iu hi),MH _ _ hi,hf _ (GG hi),Cs,if_neg (by cases hp:p l[i]<;>simp_all),JS i (by omega)]
  ·simp only [Ay];rw [if_neg (Au _)]
 ·obtain⟨m,h1,h2,h3⟩:=U3 (P:=fun i=> !p (l.getD i default)) ha;have key:=Bv (fun v=>Ay l f v) (fun i=>(i:Int)) m (.inl (m:Int)) ?_ ?_
  ·simp only [Kr]at key;rw [key]
   refine⟨(m:Int),rfl,fun _=> ?_,fun _=>by omega⟩
   have h2':p l[m]=true:=by rw [Af _ _ h1]at h2;simpa using h2
   exact List.any_eq_true.2 ⟨_,GG h1,h2'⟩
  ·intro i hi;simp only [Ay];have e:=h3 i hi;rw [Af _ _ (by omega)]at e
   rw [if_pos (CV (by omega)),BF (Iu (by omega)),MH _ _ (by omega),hf _ (GG _),Cs,if_neg (by cases hp:p l[i]<;>simp_all),JS i (by omega)]
  ·simp only [Ay];have h2':p l[m]=true:=by rw [Af _ _ h1]at h2;simpa using h2
   rw [if_pos (CV h1),BF (Iu h1),MH _ _ h1,hf _ (GG _),Cs,if_pos h2']
theorem XM(l:AL)(f:Int→Option Bool)(p:Int→Bool)(h:l.length<1099511627776)(hf: ∀x∈l,f x=some (p x)):Cb l f=some (l.any p):=by
 obtain⟨r,h1,h2⟩:=gG l f p h hf;unfold Cb;rw [h1,Cs]
 congr 1
 rw [Bool.eq_iff_iff];simpa using h2
theorem Yz(l:AL)(lo hi:Int)(h:l.length<1099511627776):Pi l lo hi=some (Ox l lo hi):=by
 unfold Pi;rw [XM l (fun a0=>LD a0 lo hi) (fun x=> !PL x lo hi) h (fun x _=>rfl),Cs];unfold Ox;rw [List.all_eq_not_any_not]
theorem Z4(list:AL)(low:Int)(high:Int)(h0:list.length<1099511627776):Y.call 63 [D.sl 3 (AV (D.int .i64) list),D.int .i64 low,D.int .i64 high] []=some (D.bool (Ox list low high),[]):=WC list low high (Yz list low high h0)
noncomputable def DT(x_:Int):Option (Bool):= some false
def A5l:SC:= .seq (.ops [oX 2 Cr 4]) (.seq (.ops [oM 3 0 3,oM 4 0 3,oB 5 .neq 3 (tK 3) (tK 4) 3 4,oA 2 5 4]) .ret)
theorem A1I:Tryz.f111.body.map (Bw lends)=some A5l:=by kernel_rfl
theorem ACz:CP Tryz.f111 1=true:=by kernel_rfl
theorem AHw{a l:List D}{r:D×List D}(h:CG Y.env A5l (FX Ah l.length [ResultVar.tmp 2] r) (entry a l))(ha:a.length=1):Y.call 111 a l=some r:=
 AZ (Y:=Y) rfl Tryz.func111 (ha▸ACz) A1I h
theorem Gz(x_:Int){r:Bool}(h:DT x_=some r):Y.call 111 [D.int .i64 x_] []=some (D.bool r,[]):=by
 refine AHw ?_ rfl;unfold A5l;unfold DT at h
 obtain rfl:=Option.some.inj h
 simp only [↓AR,AU,↓reduceIte,Nat.reduceEqDiff,Nat.reduceLT]
noncomputable def F7(x_:Int)(y:Int):Option (Bool):= (DT x_).bind fun r6_=> if r6_=true then (DT y).bind fun r9_=> if r9_=true then some (decide (x_<y)) else some true else some (decide (x_<y))
def k93:SC:= .seq (.ops [oX 4 Cr 4]) (.seq (.ops [oM 5 0 3,oC 6 111 [(tK 5)] [3] 4,oM 7 6 4,⟨(some 8),(.move (tK 1)),3,(some (some 7,true))⟩,⟨(some 9),(.call ⟨(.value (.func 111)), #[(tK 8)], #[3]⟩),4,(some (some 7,true))⟩,⟨(some 10),(.unOp .not 4 (tK 9)),4,(some (some 7,true))⟩,oX 11 (.pick (tK 7) (tK 10) OL) 4,oM 12 11 4,⟨(some 13),(.move (tK 0)),3,(some (some 12,false))⟩,⟨(some 14),(.move (tK 1)),3,(some (some 12,false))⟩,⟨(some 15),(.binOp .lss 3 (tK 13) (tK 14) 3),4,(some (some 12,false))⟩,oX 16 (.pick (tK 12) Kv (tK 15)) 4,oA 4 16 4]) .ret)
theorem A5m:Tryz.f93.body.map (Bw lends)=some k93:=by kernel_rfl
theorem AHy:CP Tryz.f93 2=true:=by kernel_rfl
theorem c93{a l:List D}{r:D×List D}(h:CG Y.env k93 (FX Ah l.length [ResultVar.tmp 4] r) (entry a l))(ha:a.length=2):Y.call 93 a l=some r:=
 AZ (Y:=Y) rfl Tryz.func93 (ha▸AHy) A5m h
theorem OD(x_:Int)(y:Int){r:Bool}(h:F7 x_ y=some r):Y.call 93 [D.int .i64 x_,D.int .i64 y] []=some (D.bool r,[]):=by
 refine c93 ?_ rfl;unfold k93;unfold F7 at h;obtain⟨r6_,hl1,h⟩:=Aa h;have c1:=Gz x_ hl1;rcases iS h with⟨e2,h⟩|⟨e2,h⟩
 ·obtain⟨r9_,hl3,h⟩:=Aa h;have c3:=Gz y hl3;rcases iS h with⟨e4,h⟩|⟨e4,h⟩
  ·obtain rfl:=Option.some.inj h
   simp only [↓AR,AU,↓reduceIte,Nat.reduceEqDiff,Nat.reduceLT,c1,e2,c3,e4]
  ·have e4f:r9_=false:=Ju.mpr e4
   obtain rfl:=Option.some.inj h
   simp only [↓AR,AU,↓reduceIte,Nat.reduceEqDiff,Nat.reduceLT,c1,e2,c3,e4f]
 ·have e2f:r6_=false:=Ju.mpr e2
  obtain rfl:=Option.some.inj h
  simp only [↓AR,AU,↓reduceIte,Nat.reduceEqDiff,Nat.reduceLT,c1,e2f]
noncomputable def BZ(x_:AL)(i:Int):Option ((Int)⊕(Unit⊕Unit)):= if 0<i then ck (0≤i∧i.toNat<x_.length)<| ck (0≤IntKind.i64.wrap (i-1)∧(IntKind.i64.wrap (i-1)).toNat<x_.length)<| (F7 (x_.getD i.toNat default) (x_.getD ((IntKind.i64.wrap (i-1)).toNat) default)).bind fun Z5=> if Z5=true then some (Sum.inr (Sum.inl ())) else some (Sum.inl (IntKind.i64.wrap (i-1))) else some (Sum.inr (Sum.inr ()))
noncomputable def Dj(x_:AL)(v:Int):Option (Unit⊕Unit):=Hu (fun v=>BZ x_ v) v
noncomputable def EH(x_:AL):Option (Bool):=
 (Dj x_ (IntKind.i64.wrap ((x_.length:Int)-1))).bind fun AC=>
 match AC with
 | .inl q1000_=>
  some false
 | .inr q1000_=>
  some true
abbrev qd6:List Nat:=[11,12,13,14,15,16,17,18,19,20]
def gH:SC:= .seq (.seq (.ops [oM 7 3 3,oB 8 .gtr 3 (tK 7) (iK 0) 3 4]) (.cond (tK 8) .skip (.exit 0))) (.seq (.block 1 (.seq (.draws [(⟨[11,0,0],qd6,[11]⟩,oM 11 0 27),(⟨[12,3,3],qd6,[12]⟩,oM 12 3 3),(⟨[13,11,12,0,3],qd6,[13]⟩,oI 13 27 11 12),(⟨[14,13,0],qd6,[14]⟩,oL 14 3 13 3),(⟨[15,0,0],qd6,[15]⟩,oM 15 0 27),(⟨[16,3,3],qd6,[16]⟩,oM 16 3 3),(⟨[17,16,3],qd6,[17]⟩,oB 17 .sub 3 (tK 16) (iK 1) 3 3),(⟨[18,15,17,0,17],qd6,[18]⟩,oI 18 27 15 17),(⟨[19,18,0],qd6,[19]⟩,oL 19 3 18 3),(⟨[20,14,19,0,0],qd6,[20]⟩,oC 20 93 [(tK 14),(tK 19)] [3,3] 4)]) (.cond (tK 20) (.seq (.ops [oX 2 Cr 4]) .ret) .skip))) (.ops [oM 9 3 3,oB 10 .sub 3 (tK 9) (iK 1) 3 3,oA 3 10 3]))
def yV:SC:= .loop gH
def k62:SC:= .seq (.ops [oX 2 Cr 4]) (.seq (.seq (.ops [oM 4 0 27,oN 5 4 27,oB 6 .sub 3 (tK 5) (iK 1) 3 3,oA 3 6 3]) (.block 0 yV)) (.seq (.ops [oX 2 (.assign Kv) 4]) .ret))
theorem A5n:Tryz.f62.body.map (Bw lends)=some k62:=by kernel_rfl
theorem AI0:CP Tryz.f62 1=true:=by kernel_rfl
theorem c62{a l:List D}{r:D×List D}(h:CG Y.env k62 (FX Ah l.length [ResultVar.tmp 2] r) (entry a l))(ha:a.length=1):Y.call 62 a l=some r:=
 AZ (Y:=Y) rfl Tryz.func62 (ha▸AI0) A5n h
def Ba(x_:AL)(i:Int)(s:St):Prop:=s.v 0=D.sl 3 (AV (D.int .i64) x_)∧s.v 3=D.int .i64 i
def C8(x_:AL)(r:Unit⊕Unit)(ex:Ex)(s:St):Prop:=match r with
 | .inl q=>ex= .ret∧s.v 2=D.bool false
 | .inr q=>ex= .exit 0
theorem MP(x_:AL){v:Int}{s:St}{r:Unit⊕Unit}(h:Dj x_ v=some r)(hM:Ba x_ v s):CG Y.env yV (C8 x_ r) s:=by
 unfold Dj at h;refine BD (c:=gH) (fun v=>BZ x_ v) (fun v s=>Ba x_ v s) (C8 x_) ?_ h hM;clear h hM s v r;intro i s o hM h;unfold BZ at h;unfold Ba at hM;obtain⟨m0,m1⟩:=hM;unfold gH;rcases iS h with⟨e1,h⟩|⟨e1,h⟩
 ·obtain⟨e2,e3,h⟩:=Hw h;obtain⟨Z5,hl4,h⟩:=Aa h;have c4:=OD (x_.getD i.toNat default) (x_.getD ((IntKind.i64.wrap (i-1)).toNat) default) hl4;rcases iS h with⟨e5,h⟩|⟨e5,h⟩
  ·obtain rfl:=Option.some.inj h
   simp only [↓AR,AU,↓reduceIte,Nat.reduceEqDiff,Nat.reduceLT,m0,m1,e1,e2.1,e2.2,e3.1,e3.2,c4,e5,Ba,C8,U2]
  ·have e5f:Z5=false:=Ju.mpr e5
   obtain rfl:=Option.some.inj h
   simp only [↓AR,AU,↓reduceIte,Nat.reduceEqDiff,Nat.reduceLT,m0,m1,e1,e2.1,e2.2,e3.1,e3.2,c4,e5f,Ba,FV]
 ·obtain rfl:=Option.some.inj h
  simp only [↓AR,AU,↓reduceIte,Nat.reduceLT,m1,e1,Ba,C8,KF]
theorem Mf(x_:AL){r:Bool}(h:EH x_=some r):Y.call 62 [D.sl 3 (AV (D.int .i64) x_)] []=some (D.bool r,[]):=by
 refine c62 ?_ rfl;unfold k62;unfold EH at h;obtain⟨AC,hl2,h⟩:=Aa h;try dsimp only at h
 simp only [↓AR,AU,↓reduceIte,Nat.reduceEqDiff,Nat.reduceLT];refine Ai (MP x_ hl2 ?_) ?_
 ·simp only [Bd,Da,↓reduceIte,Nat.reduceEqDiff,Nat.reduceLT,Ba]
 ·intro ex2 s2 hX2;rcases AC with q1000_|q1000_
  ·unfold C8 at hX2;dsimp only at hX2 h;obtain⟨rfl,n2_0⟩:=hX2
   obtain rfl:=Option.some.inj h
   simp only [↓AR,AU,↓reduceIte,n2_0]
  ·unfold C8 at hX2;dsimp only at hX2 h
   obtain rfl:=hX2
   obtain rfl:=Option.some.inj h
   simp only [↓AR,AU,↓reduceIte,Nat.reduceEqDiff,Nat.reduceLT]
def Jl(l:AL):Bool:=(List.range (l.length-1)).all fun i=>decide (l.getD i default≤l.getD (i+1) default)
theorem Np(l:AL)(h:l.length<1099511627776):EH l=some (Jl l):=by
 unfold EH Dj;rw [Ec _ (by omega)]
 rcases Nat.eq_zero_or_pos l.length with h0|h0
 ·rw [GV (r:=Sum.inr ())]
  ·simp [Jl,h0]
  ·simp only [BZ];rw [if_neg (by omega)]
 ·have key:=PW (fun v=>BZ l v) (fun j=>(l.length:Int)-1-j) (l.length-1) (fun j=>decide (l.getD (l.length-1-j-1) default≤l.getD (l.length-1-j) default)) (.inl ()) (.inr ()) ?_ ?_
  ·simp only [Kr,Int.sub_zero]at key;rw [key]
   have e:(List.range (l.length-1)).all (fun j=>decide (l.getD (l.length-1-j-1) default≤l.getD (l.length-1-j) default))=Jl l:=by
    unfold Jl;rw [Bool.eq_iff_iff,KO,KO]
    constructor
    ·intro hh i hi;have:=hh (l.length-1-i-1) (by omega)
     rwa [show l.length-1-(l.length-1-i-1)=i+1 by omega,Nat.add_sub_cancel]at this
    ·intro hh i hi;have:=hh (l.length-1-i-1) (by omega)
     rwa [show l.length-1-i-1+1=l.length-1-i by omega]at this
   rw [e]
   cases Jl l<;>rfl
  ·intro i hi;simp only [BZ];rw [if_pos (by omega),Ec _ (by omega)]
   rw [BF (by omega),BF (by omega),show((l.length:Int)-1-i).toNat=l.length-1-i by omega,show((l.length:Int)-1-i-1).toNat=l.length-1-i-1 by omega]
   have e:F7 (l.getD (l.length-1-i) default) (l.getD (l.length-1-i-1) default)=some (decide (l.getD (l.length-1-i) default<l.getD (l.length-1-i-1) default)):=by
    unfold F7 DT;by_cases hq:l.getD (l.length-1-i) default<l.getD (l.length-1-i-1) default<;>simp [hq]
   rw [e,Cs];simp only [decide_eq_true_eq];by_cases hq:l.getD (l.length-1-i) default<l.getD (l.length-1-i-1) default
   ·rw [if_pos hq,if_neg (by omega)]
   ·rw [if_neg hq,if_pos (by omega),show(l.length:Int)-1-i-1=(l.length:Int)-1-((i+1:Nat):Int) by omega]
  ·simp only [BZ];rw [if_neg (by omega)]
theorem Nq(x_:AL)(h0:x_.length<1099511627776):Y.call 62 [D.sl 3 (AV (D.int .i64) x_)] []=some (D.bool (Jl x_),[]):=Mf x_ (Np x_ h0)
def cmpL:AL→AL→Int
 | [],[]=>0
 | [],_::_=> -1
 |_::_,[]=>1
 |x::a,y::b=>if x=y then cmpL a b else if x<y then-1 else 1
noncomputable def H5(x_:Int)(y:Int):Option (Int):= (DT x_).bind fun Ov=> (DT y).bind fun Mg=> if Ov=true then if Mg=true then some 0 else some (-1) else if Mg=true then some 1 else if x_<y then some (-1) else if y<x_ then some 1 else some 0
def k96:SC:= .seq (.ops [oX 4 (.assign (iK 0)) 3]) (.seq (.ops [oM 7 0 3,oC 8 111 [(tK 7)] [3] 4,oA 5 8 4]) (.seq (.ops [oM 9 1 3,oC 10 111 [(tK 9)] [3] 4,oA 6 10 4]) (.seq (.seq (.ops [oM 11 5 4]) (.cond (tK 11) (.seq (.seq (.ops [oM 12 6 4]) (.cond (tK 12) (.seq (.ops [oX 4 (.assign (iK 0)) 3]) .ret) .skip)) (.seq (.ops [oX 4 U6 3]) .ret)) .skip)) (.seq (.seq (.ops [oM 13 6 4]) (.cond (tK 13) (.seq (.ops [oX 4 (.assign (iK 1)) 3]) .ret) .skip)) (.seq (.seq (.ops [oM 14 0 3,oM 15 1 3,oB 16 .lss 3 (tK 14) (tK 15) 3 4]) (.cond (tK 16) (.seq (.ops [oX 4 U6 3]) .ret) .skip)) (.seq (.seq (.ops [oM 17 0 3,oM 18 1 3,oB 19 .gtr 3 (tK 17) (tK 18) 3 4]) (.cond (tK 19) (.seq (.ops [oX 4 (.assign (iK 1)) 3]) .ret) .skip)) (.seq (.ops [oX 4 (.assign (iK 0)) 3]) .ret)))))))
theorem A5o:Tryz.f96.body.map (Bw lends)=some k96:=by kernel_rfl
theorem AI2:CP Tryz.f96 2=true:=by kernel_rfl
theorem c96{a l:List D}{r:D×List D}(h:CG Y.env k96 (FX Ah l.length [ResultVar.tmp 4] r) (entry a l))(ha:a.length=2):Y.call 96 a l=some r:=
 AZ (Y:=Y) rfl Tryz.func96 (ha▸AI2) A5o h
theorem Qw(x_:Int)(y:Int){r:Int}(h:H5 x_ y=some r):Y.call 96 [D.int .i64 x_,D.int .i64 y] []=some (D.int .i64 r,[]):=by
 refine c96 ?_ rfl;unfold k96;unfold H5 at h;obtain⟨Ov,hl1,h⟩:=Aa h;have c1:=Gz x_ hl1;obtain⟨Mg,hl2,h⟩:=Aa h;have c2:=Gz y hl2;rcases iS h with⟨e3,h⟩|⟨e3,h⟩
 ·rcases iS h with⟨e4,h⟩|⟨e4,h⟩
  ·obtain rfl:=Option.some.inj h
   simp only [↓AR,AU,↓reduceIte,Nat.reduceEqDiff,Nat.reduceLT,c1,c2,e3,e4]
  ·have e4f:Mg=false:=Ju.mpr e4
   obtain rfl:=Option.some.inj h
   simp only [↓AR,AU,↓reduceIte,Nat.reduceEqDiff,Nat.reduceLT,c1,c2,e3,e4f]
 ·have e3f:Ov=false:=Ju.mpr e3;rcases iS h with⟨e4,h⟩|⟨e4,h⟩
  ·obtain rfl:=Option.some.inj h
   simp only [↓AR,AU,↓reduceIte,Nat.reduceEqDiff,Nat.reduceLT,c1,c2,e3f,e4]
  ·have e4f:Mg=false:=Ju.mpr e4;rcases iS h with⟨e5,h⟩|⟨e5,h⟩
   ·obtain rfl:=Option.some.inj h
    simp only [↓AR,AU,↓reduceIte,Nat.reduceEqDiff,Nat.reduceLT,c1,c2,e3f,e4f,e5]
   ·rcases iS h with⟨e6,h⟩|⟨e6,h⟩
    ·obtain rfl:=Option.some.inj h
     simp only [↓AR,AU,↓reduceIte,Nat.reduceEqDiff,Nat.reduceLT,c1,c2,e3f,e4f,e5,e6]
    ·obtain rfl:=Option.some.inj h
     simp only [↓AR,AU,↓reduceIte,Nat.reduceEqDiff,Nat.reduceLT,c1,c2,e3f,e4f,e5,e6]
noncomputable def Be(s1_:AL)(s2_:AL)(Ca:Int):Option ((Int)⊕(Int⊕Unit)):= if Ca<(s1_.length:Int)then ck (0≤Ca∧Ca.toNat<s1_.length)<| if(s2_.length:Int)≤Ca then some (Sum.inr (Sum.inl 1)) else ck (0≤Ca∧Ca.toNat<s2_.length)<| (H5 (s1_.getD Ca.toNat default) (s2_.getD Ca.toNat default)).bind fun WE=> if WE=0 then some (Sum.inl (IntKind.i64.wrap (Ca+1))) else some (Sum.inr (Sum.inl WE)) else some (Sum.inr (Sum.inr ()))
noncomputable def BU(s1_:AL)(s2_:AL)(v:Int):Option (Int⊕Unit):=Hu (fun v=>Be s1_ s2_ v) v
noncomputable def CR(s1_:AL)(s2_:AL):Option (Int):=
 (BU s1_ s2_ 0).bind fun AC=>
 match AC with
 | .inl q1000_=>
  some q1000_
 | .inr q1000_=>
  if(s1_.length:Int)<(s2_.length:Int)then
   some (-1)
  else
   some 0
def gI:SC:= .seq (.ops [oB 12 .lss 3 (tK 11) (tK 10) 3 0]) (.seq (.cond (tK 12) .skip (.exit 0)) (.seq (.block 1 (.seq (.ops [oM 13 11 3,oI 14 27 9 11,oL 15 3 14 3,oA 5 13 3,oA 6 15 3]) (.seq (.seq (.ops [oM 16 5 3,oM 17 1 27,oN 18 17 27,oB 19 .geq 3 (tK 16) (tK 18) 3 4]) (.cond (tK 19) (.seq (.ops [oX 4 (.assign (iK 1)) 3]) .ret) .skip)) (.seq (.ops [oM 20 1 27,oM 21 5 3,oI 22 27 20 21,oL 23 3 22 3,oA 7 23 3]) (.seq (.ops [oM 24 6 3,oM 25 7 3,oC 26 96 [(tK 24),(tK 25)] [3,3] 3,oA 8 26 3]) (.seq (.ops [oM 27 8 3,oB 28 .neq 3 (tK 27) (iK 0) 3 4]) (.cond (tK 28) (.seq (.ops [oM 29 8 3,oA 4 29 3]) .ret) .skip))))))) (.ops [oB 30 .add 3 (tK 11) (iK 1) 3 3,oM 11 30 3])))
def yX:SC:= .loop gI
def k64:SC:= .seq (.ops [oX 4 (.assign (iK 0)) 3]) (.seq (.seq (.ops [oM 9 0 27,oN 10 9 27,oX 11 (.move (iK 0)) 3]) (.block 0 yX)) (.seq (.seq (.ops [oM 31 0 27,oN 32 31 27,oM 33 1 27,oN 34 33 27,oB 35 .lss 3 (tK 32) (tK 34) 3 4]) (.cond (tK 35) (.seq (.ops [oX 4 U6 3]) .ret) .skip)) (.seq (.ops [oX 4 (.assign (iK 0)) 3]) .ret)))
theorem A5p:Tryz.f64.body.map (Bw lends)=some k64:=by kernel_rfl
theorem AI4:CP Tryz.f64 2=true:=by kernel_rfl
theorem c64{a l:List D}{r:D×List D}(h:CG Y.env k64 (FX Ah l.length [ResultVar.tmp 4] r) (entry a l))(ha:a.length=2):Y.call 64 a l=some r:=
 AZ (Y:=Y) rfl Tryz.func64 (ha▸AI4) A5p h
def BM(s1_:AL)(s2_:AL)(Ca:Int)(s:St):Prop:=s.v 0=D.sl 3 (AV (D.int .i64) s1_)∧s.v 1=D.sl 3 (AV (D.int .i64) s2_)∧s.v 9=D.sl 3 (AV (D.int .i64) s1_)∧s.v 10=D.int .i64 (s1_.length:Int)∧s.v 11=D.int .i64 Ca
def Bf(s1_:AL)(s2_:AL)(r:Int⊕Unit)(ex:Ex)(s:St):Prop:=match r with
 | .inl q=>ex= .ret∧s.v 4=D.int .i64 q
 | .inr q=>ex= .exit 0∧s.v 0=D.sl 3 (AV (D.int .i64) s1_)∧s.v 1=D.sl 3 (AV (D.int .i64) s2_)
theorem Mh(s1_:AL)(s2_:AL){v:Int}{s:St}{r:Int⊕Unit}(h:BU s1_ s2_ v=some r)(hM:BM s1_ s2_ v s):CG Y.env yX (Bf s1_ s2_ r) s:=by
 unfold BU at h;refine BD (c:=gI) (fun v=>Be s1_ s2_ v) (fun v s=>BM s1_ s2_ v s) (Bf s1_ s2_) ?_ h hM;clear h hM s v r;intro Ca s o hM h;unfold Be at h;unfold BM at hM;obtain⟨m0,m1,m2,m3,m4⟩:=hM;unfold gI;rcases iS h with⟨e1,h⟩|⟨e1,h⟩
 ·obtain⟨e2,h⟩:=EQ h;rcases iS h with⟨e3,h⟩|⟨e3,h⟩
  ·obtain rfl:=Option.some.inj h
   simp only [↓AR,AU,↓reduceIte,Nat.reduceEqDiff,Nat.reduceLT,m1,m2,m3,m4,e1,e2.1,e2.2,e3,BM,Bf,U2]
  ·obtain⟨e4,h⟩:=EQ h;obtain⟨WE,hl5,h⟩:=Aa h;have c5:=Qw (s1_.getD Ca.toNat default) (s2_.getD Ca.toNat default) hl5;rcases iS h with⟨e6,h⟩|⟨e6,h⟩
   ·obtain rfl:=Option.some.inj h
    simp only [↓AR,AU,↓reduceIte,Nat.reduceEqDiff,Nat.reduceLT,m0,m1,m2,m3,m4,e1,e2.1,e2.2,e3,e4.2,c5,decide_eq_true e6,BM,FV]
   ·obtain rfl:=Option.some.inj h
    simp only [↓AR,AU,↓reduceIte,Nat.reduceEqDiff,Nat.reduceLT,m1,m2,m3,m4,e1,e2.1,e2.2,e3,e4.2,c5,e6,BM,Bf,U2]
 ·obtain rfl:=Option.some.inj h
  simp only [↓AR,AU,↓reduceIte,Nat.reduceEqDiff,Nat.reduceLT,m0,m1,m3,m4,e1,BM,Bf,KF]
theorem IL(s1_:AL)(s2_:AL){r:Int}(h:CR s1_ s2_=some r):Y.call 64 [D.sl 3 (AV (D.int .i64) s1_),D.sl 3 (AV (D.int .i64) s2_)] []=some (D.int .i64 r,[]):=by
 refine c64 ?_ rfl;unfold k64;unfold CR at h;obtain⟨AC,hl2,h⟩:=Aa h;try dsimp only at h
 simp only [↓AR,AU,↓reduceIte,Nat.reduceEqDiff,Nat.reduceLT,Int.reduceNeg];refine Ai (Mh s1_ s2_ hl2 ?_) ?_
 ·simp only [Bd,Da,↓reduceIte,Nat.reduceEqDiff,Nat.reduceLT,BM]
 ·intro ex2 s2 hX2;rcases AC with q1000_|q1000_
  ·unfold Bf at hX2;dsimp only at hX2 h;obtain⟨rfl,n2_0⟩:=hX2
   obtain rfl:=Option.some.inj h
   simp only [↓AR,AU,↓reduceIte,n2_0]
  ·unfold Bf at hX2;dsimp only at hX2 h;obtain⟨rfl,n2_0,n2_1⟩:=hX2;rcases iS h with⟨e3,h⟩|⟨e3,h⟩
   ·obtain rfl:=Option.some.inj h
    simp only [↓AR,AU,↓reduceIte,Nat.reduceEqDiff,Nat.reduceLT,n2_0,n2_1,e3]
   ·obtain rfl:=Option.some.inj h
    simp only [↓AR,AU,↓reduceIte,Nat.reduceEqDiff,Nat.reduceLT,n2_0,n2_1,e3]
theorem WF(x y:Int):H5 x y=some (if x<y then-1 else if y<x then 1 else 0):=by
 unfold H5 DT;by_cases h1:x<y<;>by_cases h2:y<x<;>simp [h1,h2]
theorem aU: ∀(a b p q:AL),p.length=q.length→p.length+a.length<1099511627776→q.length+b.length<1099511627776→
  (BU (p++a) (q++b) (p.length:Int)).bind (fun r=>match r with| .inl q2=>some q2| .inr _=>if((p++a).length:Int)<((q++b).length:Int)then some (-1)else some 0)=some (cmpL a b):=by
 intro a
 induction a with
 |nil=>
  intro b p q hpq ha hb;unfold BU;rw [GV (r:=Sum.inr ())]
  ·simp only [Cs,Pv,Ko,hpq]
   cases b with
   |nil=>rw [if_neg (by simp)];rfl
   |cons y b=>rw [if_pos (by simp;omega)];rfl
  ·simp only [Be];rw [if_neg (V5 _)]
 |cons x a ih=>
  intro b p q hpq ha hb;simp only [Ji]at ha hb;have ex:(p++x::a).getD (p.length:Int).toNat default=x:=by rw [JD];exact EG p (x::a) p.length rfl (by simp)
  cases b with
  |nil=>
   unfold BU;rw [GV (r:=Sum.inl 1)]
   ·rfl
   ·simp only [Be];rw [if_pos (U7 ..),BF (U8 ..),if_pos (by simp;omega)]
  |cons y b=>
   simp only [Ji]at hb;have ey:(q++y::b).getD (p.length:Int).toNat default=y:=by rw [JD,hpq];exact EG q (y::b) q.length rfl (by simp)
   have step:Be (p++x::a) (q++y::b) (p.length:Int)=if x=y then some (.inl (((p++[x]).length:Nat):Int))else some (.inr (.inl (if x<y then-1 else 1))):=by
    unfold Be;rw [if_pos (U7 ..),BF (U8 ..),if_neg (by simp;omega),BF (by simp;omega),ex,ey,WF,Cs,JS _ (by omega)]
    by_cases h1:x=y
    ·subst h1;simp
    ·rw [if_neg h1];by_cases h2:x<y
     ·simp [h2]
     ·have h3:y<x:=by omega
      simp [h2,h3]
   unfold cmpL;by_cases h1:x=y
   ·rw [if_pos h1];rw [if_pos h1]at step;have:=ih b (p++[x]) (q++[y]) (by simp [hpq]) (by simp;omega) (by simp;omega)
    unfold BU at this ⊢;rw [NM step];simpa using this
   ·rw [if_neg h1];rw [if_neg h1]at step;unfold BU;rw [GV step];rfl
theorem JH(a b:AL)(ha:a.length<1099511627776)(hb:b.length<1099511627776):CR a b=some (cmpL a b):=by
 have:=aU a b [] [] rfl (by simpa using ha) (by simpa using hb)
 unfold CR;simp only [RP,Re,Kr]at this;exact this
theorem O9(s1_:AL)(s2_:AL)(h0:s1_.length<1099511627776)(h1:s2_.length<1099511627776):Y.call 64 [D.sl 3 (AV (D.int .i64) s1_),D.sl 3 (AV (D.int .i64) s2_)] []=some (D.int .i64 (cmpL s1_ s2_),[]):=IL s1_ s2_ (JH s1_ s2_ h0 h1)
noncomputable def SL(n_:Int):Option (Int):= if 0<n_ then some 1 else if n_<0 then some (-1) else some 0
def k84:SC:= .seq (.ops [oX 2 (.assign (iK 0)) 3]) (.seq (.block 0 (.seq (.ops [oM 4 0 3,oB 5 .gtr 3 (tK 4) (iK 0) 3 4,oA 3 5 4]) (.cond (tK 3) (.seq (.ops [oX 2 (.assign (iK 1)) 3]) .ret) (.seq (.ops [oM 7 0 3,oB 8 .lss 3 (tK 7) (iK 0) 3 4,oA 6 8 4]) (.cond (tK 6) (.seq (.ops [oX 2 U6 3]) .ret) .skip))))) (.seq (.ops [oX 2 (.assign (iK 0)) 3]) .ret))
theorem A5q:Tryz.f84.body.map (Bw lends)=some k84:=by kernel_rfl
theorem AI6:CP Tryz.f84 1=true:=by kernel_rfl
theorem c84{a l:List D}{r:D×List D}(h:CG Y.env k84 (FX Ah l.length [ResultVar.tmp 2] r) (entry a l))(ha:a.length=1):Y.call 84 a l=some r:=
 AZ (Y:=Y) rfl Tryz.func84 (ha▸AI6) A5q h
theorem aV(n_:Int){r:Int}(h:SL n_=some r):Y.call 84 [D.int .i64 n_] []=some (D.int .i64 r,[]):=by
 refine c84 ?_ rfl;unfold k84;unfold SL at h;rcases iS h with⟨e1,h⟩|⟨e1,h⟩
 ·obtain rfl:=Option.some.inj h
  simp only [↓AR,AU,↓reduceIte,Nat.reduceEqDiff,Nat.reduceLT,e1]
 ·rcases iS h with⟨e2,h⟩|⟨e2,h⟩
  ·obtain rfl:=Option.some.inj h
   simp only [↓AR,AU,↓reduceIte,Nat.reduceEqDiff,Nat.reduceLT,e1,e2]
  ·obtain rfl:=Option.some.inj h
   simp only [↓AR,AU,↓reduceIte,Nat.reduceEqDiff,Nat.reduceLT,e1,e2]
noncomputable def IM(a:AL)(b:AL)(PM:Int):Option ((Int)⊕(Int⊕Unit)):= if PM<(a.length:Int)then ck (0≤PM∧PM.toNat<a.length)<| ck (0≤PM∧PM.toNat<b.length)<| if(a.getD PM.toNat default)=(b.getD PM.toNat default)then some (Sum.inl (IntKind.i64.wrap (PM+1))) else (SL (IntKind.i64.wrap ((a.getD PM.toNat default)-(b.getD PM.toNat default)))).bind fun WE=> some (Sum.inr (Sum.inl WE)) else some (Sum.inr (Sum.inr ()))
noncomputable def Iz(a:AL)(b:AL)(v:Int):Option (Int⊕Unit):=Hu (fun v=>IM a b v) v
noncomputable def T9(a:AL)(b:AL):Option (Int):=
 (Iz a b 0).bind fun AC=>
 match AC with
 | .inl q1000_=>
  some q1000_
 | .inr q1000_=>
  some 0
def gJ:SC:= .seq (.ops [oB 10 .lss 3 (tK 9) (tK 8) 3 0]) (.seq (.cond (tK 10) .skip (.exit 0)) (.seq (.block 1 (.seq (.ops [oM 11 9 3,oI 12 27 7 9,oL 13 3 12 3,oA 5 11 3,oA 6 13 3]) (.seq (.ops [oM 14 6 3,oM 15 1 27,oM 16 5 3,oI 17 27 15 16,oL 18 3 17 3,oB 19 .neq 3 (tK 14) (tK 18) 3 4]) (.cond (tK 19) (.seq (.ops [oM 20 6 3,oM 21 1 27,oM 22 5 3,oI 23 27 21 22,oL 24 3 23 3,oB 25 .sub 3 (tK 20) (tK 24) 3 3,oC 26 84 [(tK 25)] [3] 3,oA 4 26 3]) .ret) .skip)))) (.ops [oB 27 .add 3 (tK 9) (iK 1) 3 3,oM 9 27 3])))
def yY:SC:= .loop gJ
def k55:SC:= .seq (.ops [oX 4 (.assign (iK 0)) 3]) (.seq (.seq (.ops [oM 7 0 27,oN 8 7 27,oX 9 (.move (iK 0)) 3]) (.block 0 yY)) (.seq (.ops [oX 4 (.assign (iK 0)) 3]) .ret))
theorem A5r:Tryz.f55.body.map (Bw lends)=some k55:=by kernel_rfl
theorem AI8:CP Tryz.f55 2=true:=by kernel_rfl
theorem c55{a l:List D}{r:D×List D}(h:CG Y.env k55 (FX Ah l.length [ResultVar.tmp 4] r) (entry a l))(ha:a.length=2):Y.call 55 a l=some r:=
 AZ (Y:=Y) rfl Tryz.func55 (ha▸AI8) A5r h
def GN(a:AL)(b:AL)(PM:Int)(s:St):Prop:=s.v 1=D.sl 3 (AV (D.int .i64) b)∧s.v 7=D.sl 3 (AV (D.int .i64) a)∧s.v 8=D.int .i64 (a.length:Int)∧s.v 9=D.int .i64 PM
def IP(a:AL)(b:AL)(r:Int⊕Unit)(ex:Ex)(s:St):Prop:=match r with
 | .inl q=>ex= .ret∧s.v 4=D.int .i64 q
 | .inr q=>ex= .exit 0
theorem XN(a:AL)(b:AL){v:Int}{s:St}{r:Int⊕Unit}(h:Iz a b v=some r)(hM:GN a b v s):CG Y.env yY (IP a b r) s:=by
 unfold Iz at h;refine BD (c:=gJ) (fun v=>IM a b v) (fun v s=>GN a b v s) (IP a b) ?_ h hM;clear h hM s v r;intro PM s o hM h;unfold IM at h;unfold GN at hM;obtain⟨m0,m1,m2,m3⟩:=hM;unfold gJ;rcases iS h with⟨e1,h⟩|⟨e1,h⟩
 ·obtain⟨e2,e3,h⟩:=Hw h;rcases iS h with⟨e4,h⟩|⟨e4,h⟩
  ·obtain rfl:=Option.some.inj h
   simp only [↓AR,AU,↓reduceIte,Nat.reduceEqDiff,Nat.reduceLT,m0,m1,m2,m3,e1,e2.1,e2.2,e3.2,decide_eq_true e4,GN,FV]
  ·obtain⟨WE,hl5,h⟩:=Aa h;try dsimp only at h
   have c5:=aV (IntKind.i64.wrap ((a.getD PM.toNat default)-(b.getD PM.toNat default))) hl5
   obtain rfl:=Option.some.inj h
   simp only [↓AR,AU,↓reduceIte,Nat.reduceEqDiff,Nat.reduceLT,m0,m1,m2,m3,e1,e2.1,e2.2,e3.2,e4,c5,GN,IP,U2]
 ·obtain rfl:=Option.some.inj h
  simp only [↓AR,AU,↓reduceIte,Nat.reduceLT,m2,m3,e1,GN,IP,KF]
theorem Z6(a:AL)(b:AL){r:Int}(h:T9 a b=some r):Y.call 55 [D.sl 3 (AV (D.int .i64) a),D.sl 3 (AV (D.int .i64) b)] []=some (D.int .i64 r,[]):=by
 refine c55 ?_ rfl;unfold k55;unfold T9 at h;obtain⟨AC,hl2,h⟩:=Aa h;try dsimp only at h
 simp only [↓AR,AU,↓reduceIte,Nat.reduceEqDiff,Nat.reduceLT];refine Ai (XN a b hl2 ?_) ?_
 ·simp only [Bd,Da,↓reduceIte,Nat.reduceEqDiff,Nat.reduceLT,GN]
 ·intro ex2 s2 hX2;rcases AC with q1000_|q1000_
  ·unfold IP at hX2;dsimp only at hX2 h;obtain⟨rfl,n2_0⟩:=hX2
   obtain rfl:=Option.some.inj h
   simp only [↓AR,AU,↓reduceIte,n2_0]
  ·unfold IP at hX2;dsimp only at hX2 h
   obtain rfl:=hX2
   obtain rfl:=Option.some.inj h
   simp only [↓AR,AU,↓reduceIte,Nat.reduceEqDiff,Nat.reduceLT]
def J2(l:AL):Bool:=Ox l (-1099511627776) 1099511627776
theorem Z7{l:AL}(h:J2 l=true){x:Int}(hx:x∈l): -1099511627776≤x∧x≤1099511627776:=by
 have:=Jr.1 h x hx;exact NR.1 this
theorem bu{l:AL}{lo hi:Int}(h:Ox l lo hi=true)(h1: -1099511627776≤lo)(h2:hi≤1099511627776):J2 l=true:=by
 refine Jr.2 fun x hx=> ?_;have:=NR.1 (Jr.1 h x hx)
 exact NR.2 ⟨by omega,by omega⟩
theorem lY(n:Int):SL n=some (if n<0 then-1 else if 0<n then 1 else 0):=by
 unfold SL;by_cases h1:n<0<;>by_cases h2:0<n<;>simp [h1,h2]<;>omega
theorem lZ: ∀(a b p q:AL),p.length=q.length→a.length=b.length→p.length+a.length<1099511627776→J2 a=true→J2 b=true→
  (Iz (p++a) (q++b) (p.length:Int)).bind (fun r=>match r with| .inl q2=>some q2| .inr _=>some 0)=some (cmpL a b):=by
 intro a
 induction a with
 |nil=>
  intro b p q hpq hab ha h1 h2;have:b=[]:=by cases b with|nil=>rfl|cons _ _=>simp at hab
  subst this;unfold Iz;rw [GV (r:=Sum.inr ())]
  ·rfl
  ·simp only [IM];rw [if_neg (V5 _)]
 |cons x a ih=>
  intro b p q hpq hab ha h1 h2
  cases b with
  |nil=>simp at hab
  |cons y b=>
   simp only [Ji]at ha hab;have sx1:=Z7 h1 (Jq ..);have sy1:=Z7 h2 (Jq ..);have ex:(p++x::a).getD (p.length:Int).toNat default=x:=by rw [JD];exact EG p (x::a) p.length rfl (by simp)
   have ey:(q++y::b).getD (p.length:Int).toNat default=y:=by rw [JD,hpq];exact EG q (y::b) q.length rfl (by simp)
   have step:IM (p++x::a) (q++y::b) (p.length:Int)=if x=y then some (.inl (((p++[x]).length:Nat):Int))else some (.inr (.inl (if x<y then-1 else 1))):=by
    unfold IM;rw [if_pos (U7 ..),BF (U8 ..),BF (by simp;omega),ex,ey,JS _ (by omega),Ec _ (by omega),lY,Cs]
    by_cases h1:x=y
    ·subst h1;simp
    ·rw [if_neg h1,if_neg h1];by_cases h2:x<y
     ·rw [if_pos (by omega),if_pos h2]
     ·rw [if_neg (by omega),if_pos (by omega),if_neg h2]
   have s1:J2 a=true:=Jr.2 fun z hz=>Jr.1 h1 z (Kn _ hz);have s2:J2 b=true:=Jr.2 fun z hz=>Jr.1 h2 z (Kn _ hz);unfold cmpL;by_cases h1:x=y
   ·rw [if_pos h1];rw [if_pos h1]at step;have:=ih b (p++[x]) (q++[y]) (by simp [hpq]) (by omega) (by simp;omega) s1 s2
    unfold Iz at this ⊢;rw [NM step];simpa using this
   ·rw [if_neg h1];rw [if_neg h1]at step;unfold Iz;rw [GV step];rfl
theorem gK(a b:AL)(ha:a.length<1099511627776)(hab:a.length=b.length)(h1:J2 a=true)(h2:J2 b=true):T9 a b=some (cmpL a b):=by
 have:=lZ a b [] [] rfl hab (by simpa using ha) h1 h2
 unfold T9;simp only [RP,Re,Kr]at this;exact this
theorem VC(a:AL)(b:AL)(h0:a.length<1099511627776)(h1:a.length=b.length)(h2:J2 a=true)(h3:J2 b=true):Y.call 55 [D.sl 3 (AV (D.int .i64) a),D.sl 3 (AV (D.int .i64) b)] []=some (D.int .i64 (cmpL a b),[]):=Z6 a b (gK a b h0 h1 h2 h3)
def Qx(l:AO)(size labels:Int)(i:Nat):Bool:=
 ((decide (((l.getD i default).length:Int)=size)&&Jl (l.getD i default))&&Ox (l.getD i default) 0 (labels-1))&&(decide (i=0)||decide (cmpL (l.getD (i-1) default) (l.getD i default)<0))
def MQ(l:AO)(size labels:Int):Bool:=(List.range l.length).all (Qx l size labels)
def N8(labels degree:Int)(ns es:AO):Bool:=((PL labels 1 8&&PL degree 1 4)&&MQ ns degree labels)&&MQ es 2 labels
theorem BB.getD{l:AO}(h:BB l)(i:Nat):(l.getD i default).length<1099511627776:=by
 rcases Nat.lt_or_ge i l.length with hi|hi
 ·rw [Af _ _ hi];exact h.at i hi
 ·rw [M8,List.getElem?_eq_none hi];decide
noncomputable def DD(list:AO)(size:Int)(labels:Int)(Ca:Int):Option ((Int)⊕(Unit⊕Unit)):= if Ca<(list.length:Int)then ck (0≤Ca∧Ca.toNat<list.length)<| if((list.getD Ca.toNat default).length:Int)=size then ck ((list.getD Ca.toNat default).length<1099511627776)<| if(Jl (list.getD Ca.toNat default))=true then if(Ox (list.getD Ca.toNat default) (0:Int) (IntKind.i64.wrap (labels-1)))=true then if 0<Ca then ck (0≤IntKind.i64.wrap (Ca-1)∧(IntKind.i64.wrap (Ca-1)).toNat<list.length)<| ck ((list.getD ((IntKind.i64.wrap (Ca-1)).toNat) default).length<1099511627776)<| if 0≤(cmpL (list.getD ((IntKind.i64.wrap (Ca-1)).toNat) default) (list.getD Ca.toNat default))then some (Sum.inr (Sum.inl ())) else some (Sum.inl (IntKind.i64.wrap (Ca+1))) else some (Sum.inl (IntKind.i64.wrap (Ca+1))) else some (Sum.inr (Sum.inl ())) else some (Sum.inr (Sum.inl ())) else some (Sum.inr (Sum.inl ())) else some (Sum.inr (Sum.inr ()))
noncomputable def GX(list:AO)(size:Int)(labels:Int)(v:Int):Option (Unit⊕Unit):=Hu (fun v=>DD list size labels v) v
noncomputable def J3(list:AO)(size:Int)(labels:Int):Option (Bool):=
 (GX list size labels 0).bind fun AC=>
 match AC with
 | .inl q1000_=>
  some false
 | .inr q1000_=>
  some true
def gL:SC:= .seq (.ops [oB 12 .lss 3 (tK 11) (tK 10) 3 0]) (.seq (.cond (tK 12) .skip (.exit 0)) (.seq (.block 1 (.seq (.ops [oM 13 11 3,oI 14 22 9 11,oL 15 27 14 27,oA 7 13 3,oA 8 15 27]) (.seq (.ops [oM 16 8 27,oN 17 16 27,oM 18 1 3,oB 19 .neq 3 (tK 17) (tK 18) 3 4,oM 20 19 4,⟨(some 21),(.move (tK 8)),27,(some (some 20,false))⟩,⟨(some 22),(.call ⟨(.value (.func 62)), #[(tK 21)], #[27]⟩),4,(some (some 20,false))⟩,⟨(some 23),(.unOp .not 4 (tK 22)),4,(some (some 20,false))⟩,oX 24 (.pick (tK 20) Kv (tK 23)) 4,oM 25 24 4,⟨(some 26),(.move (tK 8)),27,(some (some 25,false))⟩,⟨(some 27),(.move (tK 2)),3,(some (some 25,false))⟩,⟨(some 28),(.binOp .sub 3 (tK 27) (iK 1) 3),3,(some (some 25,false))⟩,⟨(some 29),(.call ⟨(.value (.func 63)), #[(tK 26),(iK 0),(tK 28)], #[27,3,3]⟩),4,(some (some 25,false))⟩,⟨(some 30),(.unOp .not 4 (tK 29)),4,(some (some 25,false))⟩,oX 31 (.pick (tK 25) Kv (tK 30)) 4,oM 32 31 4,⟨(some 33),(.move (tK 7)),3,(some (some 32,false))⟩,⟨(some 34),(.binOp .gtr 3 (tK 33) (iK 0) 3),4,(some (some 32,false))⟩,⟨(some 35),(.move (tK 34)),4,(some (some 32,false))⟩,⟨(some 36),(.move (tK 0)),22,(some (some 35,true))⟩,⟨(some 37),(.move (tK 7)),3,(some (some 35,true))⟩,
 ⟨(some 38),(.binOp .sub 3 (tK 37) (iK 1) 3),3,(some (some 35,true))⟩,⟨(some 39),(.indexAddr 22 (tK 36) (tK 38)),0,(some (some 35,true))⟩,⟨(some 40),(.load 27 (tK 39)),27,(some (some 35,true))⟩,⟨(some 41),(.move (tK 8)),27,(some (some 35,true))⟩,⟨(some 42),(.call ⟨(.value (.func 64)), #[(tK 40),(tK 41)], #[27,27]⟩),3,(some (some 35,true))⟩,⟨(some 43),(.binOp .geq 3 (tK 42) (iK 0) 3),4,(some (some 35,true))⟩,⟨(some 44),(.pick (tK 35) (tK 43) OL),4,(some (some 32,false))⟩,oX 45 (.pick (tK 32) Kv (tK 44)) 4]) (.cond (tK 45) (.seq (.ops [oX 6 Cr 4]) .ret) .skip)))) (.ops [oB 46 .add 3 (tK 11) (iK 1) 3 3,oM 11 46 3])))
def yZ:SC:= .loop gL
def k39:SC:= .seq (.ops [oX 6 Cr 4]) (.seq (.seq (.ops [oM 9 0 22,oN 10 9 22,oX 11 (.move (iK 0)) 3]) (.block 0 yZ)) (.seq (.ops [oX 6 (.assign Kv) 4]) .ret))
theorem A5s:Tryz.f39.body.map (Bw lends)=some k39:=by kernel_rfl
theorem AIA:CP Tryz.f39 3=true:=by kernel_rfl
theorem c39{a l:List D}{r:D×List D}(h:CG Y.env k39 (FX Ah l.length [ResultVar.tmp 6] r) (entry a l))(ha:a.length=3):Y.call 39 a l=some r:=
 AZ (Y:=Y) rfl Tryz.func39 (ha▸AIA) A5s h
def BN(list:AO)(size:Int)(labels:Int)(Ca:Int)(s:St):Prop:=s.v 0=D.sl 27 (AV Aw list)∧s.v 1=D.int .i64 size∧s.v 2=D.int .i64 labels∧s.v 9=D.sl 27 (AV Aw list)∧s.v 10=D.int .i64 (list.length:Int)∧s.v 11=D.int .i64 Ca
def Br(list:AO)(size:Int)(labels:Int)(r:Unit⊕Unit)(ex:Ex)(s:St):Prop:=match r with
 | .inl q=>ex= .ret∧s.v 6=D.bool false
 | .inr q=>ex= .exit 0
theorem Q4(list:AO)(size:Int)(labels:Int){v:Int}{s:St}{r:Unit⊕Unit}(h:GX list size labels v=some r)(hM:BN list size labels v s):CG Y.env yZ (Br list size labels r) s:=by
 unfold GX at h;refine BD (c:=gL) (fun v=>DD list size labels v) (fun v s=>BN list size labels v s) (Br list size labels) ?_ h hM;clear h hM s v r;intro Ca s o hM h;unfold DD at h;unfold BN at hM;obtain⟨m0,m1,m2,m3,m4,m5⟩:=hM;unfold gL;rcases iS h with⟨e1,h⟩|⟨e1,h⟩
 ·obtain⟨e2,h⟩:=EQ h;rcases iS h with⟨e3,h⟩|⟨e3,h⟩
  ·obtain⟨e4,h⟩:=EQ h;have c5:=Nq (list.getD Ca.toNat default) e4;rcases iS h with⟨e6,h⟩|⟨e6,h⟩
   ·have c7:=Z4 (list.getD Ca.toNat default) (0:Int) (IntKind.i64.wrap (labels-1)) e4;rcases iS h with⟨e8,h⟩|⟨e8,h⟩
    ·rcases iS h with⟨e9,h⟩|⟨e9,h⟩
     ·obtain⟨e10,e11,h⟩:=Hw h;have c12:=O9 (list.getD ((IntKind.i64.wrap (Ca-1)).toNat) default) (list.getD Ca.toNat default) e11 e4;rcases iS h with⟨e13,h⟩|⟨e13,h⟩
      ·obtain rfl:=Option.some.inj h
       simp only [↓AR,AU,↓reduceIte,Nat.reduceEqDiff,Nat.reduceLT,m0,m1,m2,m3,m4,m5,e1,e2.1,e2.2,decide_eq_true e3,c5,e6,c7,e8,e9,e10.1,e10.2,c12,e13,BN,Br,U2]
      ·obtain rfl:=Option.some.inj h
       simp only [↓AR,AU,↓reduceIte,Nat.reduceEqDiff,Nat.reduceLT,m0,m1,m2,m3,m4,m5,e1,e2.1,e2.2,decide_eq_true e3,c5,e6,c7,e8,e9,e10.1,e10.2,c12,e13,BN,FV]
     ·obtain rfl:=Option.some.inj h
      simp only [↓AR,AU,↓reduceIte,Nat.reduceEqDiff,Nat.reduceLT,m0,m1,m2,m3,m4,m5,e1,e2.1,e2.2,decide_eq_true e3,c5,e6,c7,e8,e9,BN,FV]
    ·have e8f:(Ox (list.getD Ca.toNat default) (0:Int) (IntKind.i64.wrap (labels-1)))=false:=Ju.mpr e8
     obtain rfl:=Option.some.inj h
     simp only [↓AR,AU,↓reduceIte,Nat.reduceEqDiff,Nat.reduceLT,m1,m2,m3,m4,m5,e1,e2.1,e2.2,decide_eq_true e3,c5,e6,c7,e8f,BN,Br,U2]
   ·have e6f:(Jl (list.getD Ca.toNat default))=false:=Ju.mpr e6
    obtain rfl:=Option.some.inj h
    simp only [↓AR,AU,↓reduceIte,Nat.reduceEqDiff,Nat.reduceLT,m1,m3,m4,m5,e1,e2.1,e2.2,decide_eq_true e3,c5,e6f,BN,Br,U2]
  ·obtain rfl:=Option.some.inj h
   simp only [↓AR,AU,↓reduceIte,Nat.reduceEqDiff,Nat.reduceLT,m1,m3,m4,m5,e1,e2.1,e2.2,e3,BN,Br,U2]
 ·obtain rfl:=Option.some.inj h
  simp only [↓AR,AU,↓reduceIte,Nat.reduceLT,m4,m5,e1,BN,Br,KF]
theorem QW(list:AO)(size:Int)(labels:Int){r:Bool}(h:J3 list size labels=some r):Y.call 39 [D.sl 27 (AV Aw list),D.int .i64 size,D.int .i64 labels] []=some (D.bool r,[]):=by
 refine c39 ?_ rfl;unfold k39;unfold J3 at h;obtain⟨AC,hl2,h⟩:=Aa h;try dsimp only at h
 simp only [↓AR,AU,↓reduceIte,Nat.reduceEqDiff,Nat.reduceLT];refine Ai (Q4 list size labels hl2 ?_) ?_
 ·simp only [Bd,Da,↓reduceIte,Nat.reduceEqDiff,Nat.reduceLT,BN]
 ·intro ex2 s2 hX2;rcases AC with q1000_|q1000_
  ·unfold Br at hX2;dsimp only at hX2 h;obtain⟨rfl,n2_0⟩:=hX2
   obtain rfl:=Option.some.inj h
   simp only [↓AR,AU,↓reduceIte,n2_0]
  ·unfold Br at hX2;dsimp only at hX2 h
   obtain rfl:=hX2
   obtain rfl:=Option.some.inj h
   simp only [↓AR,AU,↓reduceIte,Nat.reduceEqDiff,Nat.reduceLT]
theorem RU(l:AO)(size labels:Int)(h:BB l)(hl:1≤labels∧labels≤8):J3 l size labels=some (MQ l size labels):=by
 have h1:=h.1;unfold J3 GX;have key:=PW (fun v=>DD l size labels v) (fun i=>(i:Int)) l.length (Qx l size labels) (.inl ()) (.inr ()) ?_ ?_
 ·simp only [Kr]at key;rw [key];unfold MQ
  cases (List.range l.length).all (Qx l size labels)<;>rfl
 ·intro i hi;simp only [DD];rw [if_pos (CV hi),BF (Iu hi),JD,JS i (by omega),Ec (labels-1) (by omega)]
  have hs:=h.getD i;have hs1:=h.getD (i-1);rw [BF hs];unfold Qx;generalize l.getD i default=x at*;by_cases q1:(x.length:Int)=size
  ·rw [if_pos q1]
   cases q2:Jl x with
   |false=>simp
   |true=>
    rw [if_pos rfl]
    cases q3:Ox x 0 (labels-1)with
    |false=>simp
    |true=>
     rw [if_pos rfl];by_cases q4:i=0
     ·simp [q1,q4]
     ·rw [if_pos (by omega),Ec _ (by omega),BF (by omega),show((i:Int)-1).toNat=i-1 by omega,BF hs1]
      generalize l.getD (i-1) default=y at*;by_cases q5:0≤cmpL y x
      ·rw [if_pos q5,if_neg (by simp;intro _;exact⟨q4,q5⟩)]
      ·rw [if_neg q5,if_pos (by simp [q1,q4];omega)]
  ·have e:=decide_eq_false q1;rw [if_neg q1,if_neg (by rw [e];simp)]
 ·simp only [DD];rw [if_neg (Au _)]
theorem Mq(list:AO)(size:Int)(labels:Int)(h0:BB list)(h1:1≤labels∧labels≤8):Y.call 39 [D.sl 27 (AV Aw list),D.int .i64 size,D.int .i64 labels] []=some (D.bool (MQ list size labels),[]):=QW list size labels (RU list size labels h0 h1)
noncomputable def GQ(l:AO)(size:Int)(labels:Int)(D7:Int)(k:Int):Option ((Int)⊕(Unit⊕Unit)):= if k<size then ck (0≤IntKind.i64.wrap (k-1)∧(IntKind.i64.wrap (k-1)).toNat<(l.getD D7.toNat default).length)<| ck (0≤k∧k.toNat<(l.getD D7.toNat default).length)<| if((l.getD D7.toNat default).getD k.toNat default)<((l.getD D7.toNat default).getD ((IntKind.i64.wrap (k-1)).toNat) default)then some (Sum.inr (Sum.inl ())) else some (Sum.inl (IntKind.i64.wrap (k+1))) else some (Sum.inr (Sum.inr ()))
noncomputable def KV(l:AO)(size:Int)(labels:Int)(D7:Int)(v:Int):Option (Unit⊕Unit):=Hu (fun v=>GQ l size labels D7 v) v
noncomputable def IQ(l:AO)(size:Int)(labels:Int)(D7:Int):Option ((Int)⊕(Unit⊕Unit)):=
 if D7<(l.length:Int)then
  ck (0≤D7∧D7.toNat<l.length)<|
  if((l.getD D7.toNat default).length:Int)=size then
   ck ((l.getD D7.toNat default).length<1099511627776)<|
   if(Ox (l.getD D7.toNat default) (0:Int) (IntKind.i64.wrap (labels-1)))=true then
    if 0<D7 then
     ck (0≤IntKind.i64.wrap (D7-1)∧(IntKind.i64.wrap (D7-1)).toNat<l.length)<|
     ck ((l.getD ((IntKind.i64.wrap (D7-1)).toNat) default).length<1099511627776)<|
     ck ((l.getD ((IntKind.i64.wrap (D7-1)).toNat) default).length=(l.getD D7.toNat default).length)<|
     ck (J2 (l.getD ((IntKind.i64.wrap (D7-1)).toNat) default)=true)<|
     ck (J2 (l.getD D7.toNat default)=true)<|
     if 0≤(cmpL (l.getD ((IntKind.i64.wrap (D7-1)).toNat) default) (l.getD D7.toNat default))then
      some (Sum.inr (Sum.inl ()))
     else
      (KV l size labels D7 1).bind fun AC=>
      match AC with
      | .inl q1000_=>
       some (Sum.inr (Sum.inl ()))
      | .inr q1000_=>
       some (Sum.inl (IntKind.i64.wrap (D7+1)))
    else
     (KV l size labels D7 1).bind fun AC=>
     match AC with
     | .inl q1000_=>
      some (Sum.inr (Sum.inl ()))
     | .inr q1000_=>
      some (Sum.inl (IntKind.i64.wrap (D7+1)))
   else
    some (Sum.inr (Sum.inl ()))
  else
   some (Sum.inr (Sum.inl ()))
 else
  some (Sum.inr (Sum.inr ()))
noncomputable def OP(l:AO)(size:Int)(labels:Int)(v:Int):Option (Unit⊕Unit):=Hu (fun v=>IQ l size labels v) v
noncomputable def TA(l:AO)(size:Int)(labels:Int):Option (Bool):=
 (OP l size labels 0).bind fun Ao=>
 match Ao with
 | .inl q1001_=>
  some false
 | .inr q1001_=>
  some true
abbrev qd7:List Nat:=[47,48,49,50,51,52,53,54,55,56]
def gM:SC:= .seq (.seq (.ops [oM 42 9 3,oM 43 1 3,oB 44 .lss 3 (tK 42) (tK 43) 3 4]) (.cond (tK 44) .skip (.exit 2))) (.seq (.block 3 (.seq (.draws [(⟨[47,8,8],qd7,[47]⟩,oM 47 8 27),(⟨[48,9,9],qd7,[48]⟩,oM 48 9 3),(⟨[49,48,9],qd7,[49]⟩,oB 49 .sub 3 (tK 48) (iK 1) 3 3),(⟨[50,47,49,8,49],qd7,[50]⟩,oI 50 27 47 49),(⟨[51,50,8],qd7,[51]⟩,oL 51 3 50 3),(⟨[52,8,8],qd7,[52]⟩,oM 52 8 27),(⟨[53,9,9],qd7,[53]⟩,oM 53 9 3),(⟨[54,52,53,8,9],qd7,[54]⟩,oI 54 27 52 53),(⟨[55,54,8],qd7,[55]⟩,oL 55 3 54 3),(⟨[56,51,55,8,8],qd7,[56]⟩,oB 56 .gtr 3 (tK 51) (tK 55) 3 4)]) (.cond (tK 56) (.seq (.ops [oX 6 Cr 4]) .ret) .skip))) (.ops [oM 45 9 3,oB 46 .add 3 (tK 45) (iK 1) 3 3,oA 9 46 3]))
def yc:SC:= .loop gM
def gN:SC:= .seq (.ops [oB 13 .lss 3 (tK 12) (tK 11) 3 0]) (.seq (.cond (tK 13) .skip (.exit 0)) (.seq (.block 1 (.seq (.ops [oM 14 12 3,oI 15 22 10 12,oL 16 27 15 27,oA 7 14 3,oA 8 16 27]) (.seq (.seq (.ops [oM 17 8 27,oN 18 17 27,oM 19 1 3,oB 20 .neq 3 (tK 18) (tK 19) 3 4,oM 21 20 4,⟨(some 22),(.move (tK 8)),27,(some (some 21,false))⟩,⟨(some 23),(.move (tK 2)),3,(some (some 21,false))⟩,⟨(some 24),(.binOp .sub 3 (tK 23) (iK 1) 3),3,(some (some 21,false))⟩,⟨(some 25),(.call ⟨(.value (.func 54)), #[(tK 22),(iK 0),(tK 24)], #[27,3,3]⟩),4,(some (some 21,false))⟩,⟨(some 26),(.unOp .not 4 (tK 25)),4,(some (some 21,false))⟩,oX 27 (.pick (tK 21) Kv (tK 26)) 4,oM 28 27 4,⟨(some 29),(.move (tK 7)),3,(some (some 28,false))⟩,⟨(some 30),(.binOp .gtr 3 (tK 29) (iK 0) 3),4,(some (some 28,false))⟩,⟨(some 31),(.move (tK 30)),4,(some (some 28,false))⟩,⟨(some 32),(.move (tK 0)),22,(some (some 31,true))⟩,⟨(some 33),(.move (tK 7)),3,(some (some 31,true))⟩,⟨(some 34),(.binOp .sub 3 (tK 33) (iK 1) 3),3,(some (some 31,true))⟩,⟨(some 35),(.indexAddr 22 (tK 32) (tK 34)),0,(some (some 31,true))⟩,⟨(some 36),(.load 27 (tK 35)),27,(some (some 31,true))⟩,⟨(some 37),(.move (tK 8)),27,(some (some 31,true))⟩,
 ⟨(some 38),(.call ⟨(.value (.func 55)), #[(tK 36),(tK 37)], #[27,27]⟩),3,(some (some 31,true))⟩,⟨(some 39),(.binOp .geq 3 (tK 38) (iK 0) 3),4,(some (some 31,true))⟩,⟨(some 40),(.pick (tK 31) (tK 39) OL),4,(some (some 28,false))⟩,oX 41 (.pick (tK 28) Kv (tK 40)) 4]) (.cond (tK 41) (.seq (.ops [oX 6 Cr 4]) .ret) .skip)) (.seq (.ops [oX 9 (.assign (iK 1)) 3]) (.block 2 yc))))) (.ops [oB 57 .add 3 (tK 12) (iK 1) 3 3,oM 12 57 3])))
def yf:SC:= .loop gN
def k34:SC:= .seq (.ops [oX 6 Cr 4]) (.seq (.seq (.ops [oM 10 0 22,oN 11 10 22,oX 12 (.move (iK 0)) 3]) (.block 0 yf)) (.seq (.ops [oX 6 (.assign Kv) 4]) .ret))
theorem A5t:Tryz.f34.body.map (Bw lends)=some k34:=by kernel_rfl
theorem AID:CP Tryz.f34 3=true:=by kernel_rfl
theorem c34{a l:List D}{r:D×List D}(h:CG Y.env k34 (FX Ah l.length [ResultVar.tmp 6] r) (entry a l))(ha:a.length=3):Y.call 34 a l=some r:=
 AZ (Y:=Y) rfl Tryz.func34 (ha▸AID) A5t h
def F8(l:AO)(size:Int)(labels:Int)(D7:Int)(k:Int)(s:St):Prop:=s.v 0=D.sl 27 (AV Aw l)∧s.v 1=D.int .i64 size∧s.v 2=D.int .i64 labels∧s.v 8=D.sl 3 (AV (D.int .i64) (l.getD D7.toNat default))∧s.v 9=D.int .i64 k∧s.v 10=D.sl 27 (AV Aw l)∧s.v 11=D.int .i64 (l.length:Int)∧s.v 12=D.int .i64 D7
def F9(l:AO)(size:Int)(labels:Int)(D7:Int)(r:Unit⊕Unit)(ex:Ex)(s:St):Prop:=match r with
 | .inl q=>ex= .ret∧s.v 6=D.bool false
 | .inr q=>ex= .exit 2∧s.v 0=D.sl 27 (AV Aw l)∧s.v 1=D.int .i64 size∧s.v 2=D.int .i64 labels∧s.v 10=D.sl 27 (AV Aw l)∧s.v 11=D.int .i64 (l.length:Int)∧s.v 12=D.int .i64 D7
theorem RI(l:AO)(size:Int)(labels:Int)(D7:Int){v:Int}{s:St}{r:Unit⊕Unit}(h:KV l size labels D7 v=some r)(hM:F8 l size labels D7 v s):CG Y.env yc (F9 l size labels D7 r) s:=by
 unfold KV at h;refine BD (c:=gM) (fun v=>GQ l size labels D7 v) (fun v s=>F8 l size labels D7 v s) (F9 l size labels D7) ?_ h hM;clear h hM s v r;intro k s o hM h;unfold GQ at h;unfold F8 at hM;obtain⟨m0,m1,m2,m3,m4,m5,m6,m7⟩:=hM;unfold gM;rcases iS h with⟨e15,h⟩|⟨e15,h⟩
 ·obtain⟨e16,e17,h⟩:=Hw h;rcases iS h with⟨e18,h⟩|⟨e18,h⟩
  ·obtain rfl:=Option.some.inj h
   simp only [↓AR,AU,↓reduceIte,Nat.reduceEqDiff,Nat.reduceLT,m1,m3,m4,e15,e16.1,e16.2,e17.1,e17.2,e18,F8,F9,U2]
  ·obtain rfl:=Option.some.inj h
   simp only [↓AR,AU,↓reduceIte,Nat.reduceEqDiff,Nat.reduceLT,m0,m1,m2,m3,m4,m5,m6,m7,e15,e16.1,e16.2,e17.1,e17.2,e18,F8,FV]
 ·obtain rfl:=Option.some.inj h
  simp only [↓AR,AU,↓reduceIte,Nat.reduceEqDiff,Nat.reduceLT,m0,m1,m2,m4,m5,m6,m7,e15,F8,F9,KF]
def Cw(l:AO)(size:Int)(labels:Int)(D7:Int)(s:St):Prop:=s.v 0=D.sl 27 (AV Aw l)∧s.v 1=D.int .i64 size∧s.v 2=D.int .i64 labels∧s.v 10=D.sl 27 (AV Aw l)∧s.v 11=D.int .i64 (l.length:Int)∧s.v 12=D.int .i64 D7
def Dp(l:AO)(size:Int)(labels:Int)(r:Unit⊕Unit)(ex:Ex)(s:St):Prop:=match r with
 | .inl q=>ex= .ret∧s.v 6=D.bool false
 | .inr q=>ex= .exit 0
theorem XO(l:AO)(size:Int)(labels:Int){v:Int}{s:St}{r:Unit⊕Unit}(h:OP l size labels v=some r)(hM:Cw l size labels v s):CG Y.env yf (Dp l size labels r) s:=by
 unfold OP at h;refine BD (c:=gN) (fun v=>IQ l size labels v) (fun v s=>Cw l size labels v s) (Dp l size labels) ?_ h hM;clear h hM s v r;intro D7 s o hM h;unfold IQ at h;unfold Cw at hM;obtain⟨m0,m1,m2,m3,m4,m5⟩:=hM;unfold gN;rcases iS h with⟨e1,h⟩|⟨e1,h⟩
 ·obtain⟨e2,h⟩:=EQ h;rcases iS h with⟨e3,h⟩|⟨e3,h⟩
  ·obtain⟨e4,h⟩:=EQ h;have c5:=qA (l.getD D7.toNat default) (0:Int) (IntKind.i64.wrap (labels-1)) e4;rcases iS h with⟨e6,h⟩|⟨e6,h⟩
   ·rcases iS h with⟨e7,h⟩|⟨e7,h⟩
    ·obtain⟨e8,e9,e10,e11,h⟩:=aH h;obtain⟨e12,h⟩:=EQ h;have c13:=VC (l.getD ((IntKind.i64.wrap (D7-1)).toNat) default) (l.getD D7.toNat default) e9 e10 e11 e12;rcases iS h with⟨e14,h⟩|⟨e14,h⟩
     ·obtain rfl:=Option.some.inj h
      simp only [↓AR,AU,↓reduceIte,Nat.reduceEqDiff,Nat.reduceLT,m0,m1,m2,m3,m4,m5,e1,e2.1,e2.2,decide_eq_true e3,c5,e6,e7,e8.1,e8.2,c13,e14,Cw,Dp,U2]
     ·obtain⟨AC,hl16,h⟩:=Aa h;try dsimp only at h
      simp only [↓AR,AU,↓reduceIte,Nat.reduceEqDiff,Nat.reduceLT,m0,m1,m2,m3,m4,m5,e1,e2.1,e2.2,decide_eq_true e3,c5,e6,e7,e8.1,e8.2,c13,e14];refine Ai (RI l size labels D7 hl16 ?_) ?_
      ·simp only [Bd,↓reduceIte,Nat.reduceEqDiff,m0,m1,m2,m3,m4,m5,F8]
      ·intro ex16 s16 hX16;rcases AC with q1000_|q1000_
       ·unfold F9 at hX16;dsimp only at hX16 h;obtain⟨rfl,n16_0⟩:=hX16
        obtain rfl:=Option.some.inj h
        simp only [↓AR,AU,n16_0,Cw,Dp,U2]
       ·unfold F9 at hX16;dsimp only at hX16 h;obtain⟨rfl,n16_0,n16_1,n16_2,n16_3,n16_4,n16_5⟩:=hX16
        obtain rfl:=Option.some.inj h
        simp only [↓AR,AU,↓reduceIte,Nat.reduceEqDiff,Nat.reduceLT,n16_0,n16_1,n16_2,n16_3,n16_4,n16_5,Cw,FV]
    ·obtain⟨AC,hl9,h⟩:=Aa h;try dsimp only at h
     simp only [↓AR,AU,↓reduceIte,Nat.reduceEqDiff,Nat.reduceLT,m1,m2,m3,m4,m5,e1,e2.1,e2.2,decide_eq_true e3,c5,e6,e7];refine Ai (RI l size labels D7 hl9 ?_) ?_
     ·simp only [Bd,↓reduceIte,Nat.reduceEqDiff,m0,m1,m2,m3,m4,m5,F8]
     ·intro ex9 s9 hX9;rcases AC with q1000_|q1000_
      ·unfold F9 at hX9;dsimp only at hX9 h;obtain⟨rfl,n9_0⟩:=hX9
       obtain rfl:=Option.some.inj h
       simp only [↓AR,AU,n9_0,Cw,Dp,U2]
      ·unfold F9 at hX9;dsimp only at hX9 h;obtain⟨rfl,n9_0,n9_1,n9_2,n9_3,n9_4,n9_5⟩:=hX9
       obtain rfl:=Option.some.inj h
       simp only [↓AR,AU,↓reduceIte,Nat.reduceEqDiff,Nat.reduceLT,n9_0,n9_1,n9_2,n9_3,n9_4,n9_5,Cw,FV]
   ·have e6f:(Ox (l.getD D7.toNat default) (0:Int) (IntKind.i64.wrap (labels-1)))=false:=Ju.mpr e6
    obtain rfl:=Option.some.inj h
    simp only [↓AR,AU,↓reduceIte,Nat.reduceEqDiff,Nat.reduceLT,m1,m2,m3,m4,m5,e1,e2.1,e2.2,decide_eq_true e3,c5,e6f,Cw,Dp,U2]
  ·obtain rfl:=Option.some.inj h
   simp only [↓AR,AU,↓reduceIte,Nat.reduceEqDiff,Nat.reduceLT,m1,m3,m4,m5,e1,e2.1,e2.2,e3,Cw,Dp,U2]
 ·obtain rfl:=Option.some.inj h
  simp only [↓AR,AU,↓reduceIte,Nat.reduceLT,m4,m5,e1,Cw,Dp,KF]
theorem Z8(l:AO)(size:Int)(labels:Int){r:Bool}(h:TA l size labels=some r):Y.call 34 [D.sl 27 (AV Aw l),D.int .i64 size,D.int .i64 labels] []=some (D.bool r,[]):=by
 refine c34 ?_ rfl;unfold k34;unfold TA at h;obtain⟨Ao,hl2,h⟩:=Aa h;try dsimp only at h
 simp only [↓AR,AU,↓reduceIte,Nat.reduceEqDiff,Nat.reduceLT];refine Ai (XO l size labels hl2 ?_) ?_
 ·simp only [Bd,Da,↓reduceIte,Nat.reduceEqDiff,Nat.reduceLT,Cw]
 ·intro ex2 s2 hX2;rcases Ao with q1001_|q1001_
  ·unfold Dp at hX2;dsimp only at hX2 h;obtain⟨rfl,n2_0⟩:=hX2
   obtain rfl:=Option.some.inj h
   simp only [↓AR,AU,↓reduceIte,n2_0]
  ·unfold Dp at hX2;dsimp only at hX2 h
   obtain rfl:=hX2
   obtain rfl:=Option.some.inj h
   simp only [↓AR,AU,↓reduceIte,Nat.reduceEqDiff,Nat.reduceLT]
theorem aW(l:AO)(size labels t:Int)(x:AL)(hx:l.getD t.toNat default=x)(hs:(x.length:Int)=size)(hb:x.length<1099511627776):
  KV l size labels t 1=some (if Jl x=true then .inr ()else .inl ()):=by
 unfold KV;rcases Nat.eq_zero_or_pos x.length with h0|h0
 ·rw [GV (r:=Sum.inr ())]
  ·simp [Jl,h0]
  ·simp only [GQ];rw [if_neg (by omega)]
 ·have key:=PW (fun v=>GQ l size labels t v) (fun j=>(j:Int)+1) (x.length-1) (fun i=>decide (x.getD i default≤x.getD (i+1) default)) (.inl ()) (.inr ()) ?_ ?_
  ·simp only [Kr,Int.zero_add]at key;rw [key];rfl
  ·intro i hi;simp only [GQ];rw [hx,if_pos (by omega),Ec _ (by omega),Ec _ (by omega),BF (by omega),BF (by omega),show((i:Int)+1).toNat=i+1 by omega,show((i:Int)+1-1).toNat=i by omega]
   simp only [decide_eq_true_eq];by_cases hq:x.getD (i+1) default<x.getD i default
   ·rw [if_pos hq,if_neg (by omega)]
   ·rw [if_neg hq,if_pos (by omega)];rfl
  ·simp only [GQ];rw [if_neg (by omega)]
theorem gP(l:AO)(size labels:Int)(h:BB l)(hl:1≤labels∧labels≤8):TA l size labels=some (MQ l size labels):=by
 have h1:=h.1;unfold TA OP;have key:=lG (fun v=>IQ l size labels v) (fun i=>(i:Int)) l.length (Qx l size labels) (.inl ()) (.inr ()) ?_ ?_
 ·simp only [Kr]at key;rw [key];unfold MQ
  cases (List.range l.length).all (Qx l size labels)<;>rfl
 ·intro i hi hp;simp only [IQ];rw [if_pos (CV hi),BF (Iu hi),JS i (by omega),Ec (labels-1) (by omega)]
  have hs:=h.getD i;have hs1:=h.getD (i-1);rw [JD,BF hs];by_cases q1:((l.getD i default).length:Int)=size
  ·rw [if_pos q1];have inner:=aW l size labels (i:Int) (l.getD i default) (by rw [JD]) q1 hs
   rw [inner];have hprev:=hp (i-1);unfold Qx at hprev ⊢;generalize l.getD i default=x at*
   cases q3:Ox x 0 (labels-1)with
   |false=>simp
   |true=>
    rw [if_pos rfl];by_cases q4:i=0
    ·rw [if_neg (by omega)]
     cases q2:Jl x<;>simp [q1,q4]
    ·rw [if_pos (by omega),Ec _ (by omega),BF (by omega),show((i:Int)-1).toNat=i-1 by omega,BF hs1]
     have hprev:=hprev (by omega)
     generalize l.getD (i-1) default=y at*;simp only [KG,decide_eq_true_eq]at hprev;rw [BF (by omega),BF (bu hprev.1.2 (by omega) (by omega)),BF (bu q3 (by omega) (by omega))]
     by_cases q5:0≤cmpL y x
     ·rw [if_pos q5,if_neg (by simp;intro _ _;exact⟨q4,q5⟩)]
     ·rw [if_neg q5];have q6:cmpL y x<0:=by omega
      cases q2:Jl x<;>simp [q1,q6]
  ·have e:=decide_eq_false q1;unfold Qx;rw [if_neg q1,if_neg (by rw [e];simp)]
 ·intro _;simp only [IQ];rw [if_neg (Au _)]
theorem VD(l:AO)(size:Int)(labels:Int)(h0:BB l)(h1:1≤labels∧labels≤8):Y.call 34 [D.sl 27 (AV Aw l),D.int .i64 size,D.int .i64 labels] []=some (D.bool (MQ l size labels),[]):=Z8 l size labels (gP l size labels h0 h1)
noncomputable def Pj(AP:Int)(AQ:Int)(AX:AO)(AY:AO):Option (Bool):= if(PL AP (1:Int) (8:Int))=true then if(PL AQ (1:Int) (4:Int))=true then ck (BB AX)<| ck (1≤AP∧AP≤8)<| if(MQ AX AQ AP)=true then ck (BB AY)<| some (MQ AY (2:Int) AP) else some false else some false else some false
def k24:SC:= .seq (.ops [oX 1 (.box 26 (tK 0)) 0,oX 2 Cr 4]) (.seq (.ops [oF 3 26 1 0,oL 4 3 3 3,oC 5 38 [(tK 4),(iK 1),(iK 8)] [3,3,3] 4,oM 6 5 4,⟨(some 7),(.fieldAddr 26 (tK 1) 1),0,(some (some 6,true))⟩,⟨(some 8),(.load 3 (tK 7)),3,(some (some 6,true))⟩,⟨(some 9),(.call ⟨(.value (.func 38)), #[(tK 8),(iK 1),(iK 4)], #[3,3,3]⟩),4,(some (some 6,true))⟩,oX 10 (.pick (tK 6) (tK 9) OL) 4,oM 11 10 4,⟨(some 12),(.fieldAddr 26 (tK 1) 2),0,(some (some 11,true))⟩,⟨(some 13),(.load 22 (tK 12)),22,(some (some 11,true))⟩,⟨(some 14),(.fieldAddr 26 (tK 1) 1),0,(some (some 11,true))⟩,⟨(some 15),(.load 3 (tK 14)),3,(some (some 11,true))⟩,⟨(some 16),um,0,(some (some 11,true))⟩,⟨(some 17),(.load 3 (tK 16)),3,(some (some 11,true))⟩,⟨(some 18),(.call ⟨(.value (.func 39)), #[(tK 13),(tK 15),(tK 17)], #[22,3,3]⟩),4,(some (some 11,true))⟩,oX 19 (.pick (tK 11) (tK 18) OL) 4,oM 20 19 4,⟨(some 21),(.fieldAddr 26 (tK 1) 3),0,(some (some 20,true))⟩,⟨(some 22),(.load 22 (tK 21)),22,(some (some 20,true))⟩,⟨(some 23),um,0,(some (some 20,true))⟩,⟨(some 24),(.load 3 (tK 23)),3,(some (some 20,true))⟩,⟨(some 25),(.call ⟨(.value (.func 39)), #[(tK 22),(iK 2),(tK 24)], #[22,3,3]⟩),4,(some (some 20,true))⟩,
 oX 26 (.pick (tK 20) (tK 25) OL) 4,oA 2 26 4]) .ret)
theorem A5u:Tryz.f24.body.map (Bw lends)=some k24:=by kernel_rfl
theorem AIF:CP Tryz.f24 1=true:=by kernel_rfl
theorem uq{a l:List D}{r:D×List D}(h:CG Y.env k24 (FX Ah l.length [ResultVar.tmp 2] r) (entry a l))(ha:a.length=1):Y.call 24 a l=some r:=
 AZ (Y:=Y) rfl Tryz.func24 (ha▸AIF) A5u h
theorem WG(AP:Int)(AQ:Int)(AX:AO)(AY:AO){r:Bool}(h:Pj AP AQ AX AY=some r):Y.call 24 [D.agg [D.int .i64 AP,D.int .i64 AQ,D.sl 27 (AV Aw AX),D.sl 27 (AV Aw AY)]] []=some (D.bool r,[]):=by
 refine uq ?_ rfl;unfold k24;unfold Pj at h;have c1:=Nn AP (1:Int) (8:Int);rcases iS h with⟨e2,h⟩|⟨e2,h⟩
 ·have c3:=Nn AQ (1:Int) (4:Int);rcases iS h with⟨e4,h⟩|⟨e4,h⟩
  ·obtain⟨e5,e6,h⟩:=Hw h;have c7:=Mq AX AQ AP e5 e6;rcases iS h with⟨e8,h⟩|⟨e8,h⟩
   ·obtain⟨e9,h⟩:=EQ h;have jO:=Mq AY (2:Int) AP e9 e6
    obtain rfl:=Option.some.inj h
    simp only [↓AR,AU,↓reduceIte,Nat.reduceEqDiff,Nat.reduceLT,c1,e2,c3,e4,c7,e8,jO]
   ·have e8f:(MQ AX AQ AP)=false:=Ju.mpr e8
    obtain rfl:=Option.some.inj h
    simp only [↓AR,AU,↓reduceIte,Nat.reduceEqDiff,Nat.reduceLT,c1,e2,c3,e4,c7,e8f]
  ·have e4f:(PL AQ (1:Int) (4:Int))=false:=Ju.mpr e4
   obtain rfl:=Option.some.inj h
   simp only [↓AR,AU,↓reduceIte,Nat.reduceEqDiff,Nat.reduceLT,c1,e2,c3,e4f]
 ·have e2f:(PL AP (1:Int) (8:Int))=false:=Ju.mpr e2
  obtain rfl:=Option.some.inj h
  simp only [↓AR,AU,↓reduceIte,Nat.reduceEqDiff,Nat.reduceLT,c1,e2f]
noncomputable def VE(AP:Int)(AQ:Int)(AX:AO)(AY:AO):Option (Bool):= if(PL AP (1:Int) (8:Int))=true then if(PL AQ (1:Int) (4:Int))=true then ck (BB AX)<| ck (1≤AP∧AP≤8)<| if(MQ AX AQ AP)=true then ck (BB AY)<| some (MQ AY (2:Int) AP) else some false else some false else some false
def k21:SC:= .seq (.ops [oX 1 (.box 26 (tK 0)) 0,oX 2 Cr 4]) (.seq (.ops [oF 3 26 1 0,oL 4 3 3 3,oC 5 33 [(tK 4),(iK 1),(iK 8)] [3,3,3] 4,oM 6 5 4,⟨(some 7),(.fieldAddr 26 (tK 1) 1),0,(some (some 6,true))⟩,⟨(some 8),(.load 3 (tK 7)),3,(some (some 6,true))⟩,⟨(some 9),(.call ⟨(.value (.func 33)), #[(tK 8),(iK 1),(iK 4)], #[3,3,3]⟩),4,(some (some 6,true))⟩,oX 10 (.pick (tK 6) (tK 9) OL) 4,oM 11 10 4,⟨(some 12),(.fieldAddr 26 (tK 1) 2),0,(some (some 11,true))⟩,⟨(some 13),(.load 22 (tK 12)),22,(some (some 11,true))⟩,⟨(some 14),(.fieldAddr 26 (tK 1) 1),0,(some (some 11,true))⟩,⟨(some 15),(.load 3 (tK 14)),3,(some (some 11,true))⟩,⟨(some 16),um,0,(some (some 11,true))⟩,⟨(some 17),(.load 3 (tK 16)),3,(some (some 11,true))⟩,⟨(some 18),(.call ⟨(.value (.func 34)), #[(tK 13),(tK 15),(tK 17)], #[22,3,3]⟩),4,(some (some 11,true))⟩,oX 19 (.pick (tK 11) (tK 18) OL) 4,oM 20 19 4,⟨(some 21),(.fieldAddr 26 (tK 1) 3),0,(some (some 20,true))⟩,⟨(some 22),(.load 22 (tK 21)),22,(some (some 20,true))⟩,⟨(some 23),um,0,(some (some 20,true))⟩,⟨(some 24),(.load 3 (tK 23)),3,(some (some 20,true))⟩,⟨(some 25),(.call ⟨(.value (.func 34)), #[(tK 22),(iK 2),(tK 24)], #[22,3,3]⟩),4,(some (some 20,true))⟩,
 oX 26 (.pick (tK 20) (tK 25) OL) 4,oA 2 26 4]) .ret)
theorem A5v:Tryz.f21.body.map (Bw lends)=some k21:=by kernel_rfl
theorem AIH:CP Tryz.f21 1=true:=by kernel_rfl
theorem qB{a l:List D}{r:D×List D}(h:CG Y.env k21 (FX Ah l.length [ResultVar.tmp 2] r) (entry a l))(ha:a.length=1):Y.call 21 a l=some r:=
 AZ (Y:=Y) rfl Tryz.func21 (ha▸AIH) A5v h
theorem aX(AP:Int)(AQ:Int)(AX:AO)(AY:AO){r:Bool}(h:VE AP AQ AX AY=some r):Y.call 21 [D.agg [D.int .i64 AP,D.int .i64 AQ,D.sl 27 (AV Aw AX),D.sl 27 (AV Aw AY)]] []=some (D.bool r,[]):=by
 refine qB ?_ rfl;unfold k21;unfold VE at h;have c1:=Sz AP (1:Int) (8:Int);rcases iS h with⟨e2,h⟩|⟨e2,h⟩
 ·have c3:=Sz AQ (1:Int) (4:Int);rcases iS h with⟨e4,h⟩|⟨e4,h⟩
  ·obtain⟨e5,e6,h⟩:=Hw h;have c7:=VD AX AQ AP e5 e6;rcases iS h with⟨e8,h⟩|⟨e8,h⟩
   ·obtain⟨e9,h⟩:=EQ h;have jO:=VD AY (2:Int) AP e9 e6
    obtain rfl:=Option.some.inj h
    simp only [↓AR,AU,↓reduceIte,Nat.reduceEqDiff,Nat.reduceLT,c1,e2,c3,e4,c7,e8,jO]
   ·have e8f:(MQ AX AQ AP)=false:=Ju.mpr e8
    obtain rfl:=Option.some.inj h
    simp only [↓AR,AU,↓reduceIte,Nat.reduceEqDiff,Nat.reduceLT,c1,e2,c3,e4,c7,e8f]
  ·have e4f:(PL AQ (1:Int) (4:Int))=false:=Ju.mpr e4
   obtain rfl:=Option.some.inj h
   simp only [↓AR,AU,↓reduceIte,Nat.reduceEqDiff,Nat.reduceLT,c1,e2,c3,e4f]
 ·have e2f:(PL AP (1:Int) (8:Int))=false:=Ju.mpr e2
  obtain rfl:=Option.some.inj h
  simp only [↓AR,AU,↓reduceIte,Nat.reduceEqDiff,Nat.reduceLT,c1,e2f]
theorem Z9(a b:Int)(n e:AO)(hn:BB n)(he:BB e):Pj a b n e=some (N8 a b n e):=by
 unfold Pj N8;by_cases h1:PL a 1 8=true
 ·have h1':=NR.1 h1;by_cases h2:PL b 1 4=true
  ·rw [if_pos h1,if_pos h2,BF hn,BF h1',BF he]
   cases h3:MQ n b a<;>simp [h1,h2]
  ·rw [if_pos h1,if_neg h2];simp [h2]
 ·rw [if_neg h1];simp [h1]
theorem lg(a b:Int)(n e:AO)(hn:BB n)(he:BB e):VE a b n e=some (N8 a b n e):=by
 unfold VE N8;by_cases h1:PL a 1 8=true
 ·have h1':=NR.1 h1;by_cases h2:PL b 1 4=true
  ·rw [if_pos h1,if_pos h2,BF hn,BF h1',BF he]
   cases h3:MQ n b a<;>simp [h1,h2]
  ·rw [if_pos h1,if_neg h2];simp [h2]
 ·rw [if_neg h1];simp [h1]
theorem ZA(AP:Int)(AQ:Int)(AX:AO)(AY:AO)(h0:BB AX)(h1:BB AY):Y.call 24 [D.agg [D.int .i64 AP,D.int .i64 AQ,D.sl 27 (AV Aw AX),D.sl 27 (AV Aw AY)]] []=some (D.bool (N8 AP AQ AX AY),[]):=WG AP AQ AX AY (Z9 AP AQ AX AY h0 h1)
theorem lh(AP:Int)(AQ:Int)(AX:AO)(AY:AO)(h0:BB AX)(h1:BB AY):Y.call 21 [D.agg [D.int .i64 AP,D.int .i64 AQ,D.sl 27 (AV Aw AX),D.sl 27 (AV Aw AY)]] []=some (D.bool (N8 AP AQ AX AY),[]):=aX AP AQ AX AY (lg AP AQ AX AY h0 h1)
end Go.Proofs.YtjhjkfoabhplfaaGreat
