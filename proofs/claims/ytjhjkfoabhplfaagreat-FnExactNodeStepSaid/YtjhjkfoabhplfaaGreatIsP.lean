/- When lists are a problem, as plain functions. Conditions: the lists are short. -/
import Derived.Test.YtjhjkfoabhplfaaGreatL6
import Derived.Test.YtjhjkfoabhplfaaGreatPB
namespace Go.Proofs.YtjhjkfoabhplfaaGreat
open Go Dv
set_option linter.unusedSimpArgs false
set_option linter.unusedVariables false
set_option maxRecDepth 100000
set_option maxHeartbeats 4000000
def MH(n lo hi:Int):Bool:=decide (lo≤n∧n≤hi)
theorem MI{n lo hi:Int}:MH n lo hi=true↔lo≤n∧n≤hi:=by simp [MH]
noncomputable def UH(n_ low high:Int):Option (Bool):= if low≤n_ then some (decide (n_≤high)) else some false
def k38:SC:= .seq (.ops [oX 6 (.assign (.const (.bool false))) 4]) (.seq (.ops [oM 7 1 3,oM 8 0 3,oB 9 .leq 3 (tK 7) (tK 8) 3 4,oM 10 9 4,⟨some 11,.move (tK 0),3,(some (some 10,true))⟩,⟨some 12,.move (tK 2),3,(some (some 10,true))⟩,⟨some 13,.binOp .leq 3 (tK 11) (tK 12) 3,4,(some (some 10,true))⟩,oX 14 (.pick (tK 10) (tK 13) (.const (.bool false))) 4,oA 6 14 4]) .ret)
theorem A4s:Tryz.f38.body.map (BP lends)=some k38:=by kernel_rfl
theorem AH5:Be Tryz.f38 3=true:=by kernel_rfl
theorem c38{a l:List D}{r:D×List D}(h:BZ Y.env k38 (Eh AX l.length [ResultVar.tmp 6] r) (entry a l))(ha:a.length=3):Y.call 38 a l=some r:=
 AJ (Y:=Y) rfl Tryz.func38 (ha▸AH5) A4s h
theorem ZI(n_ low high:Int){r:Bool}(h:UH n_ low high=some r):Y.call 38 [D.int .i64 n_,D.int .i64 low,D.int .i64 high] []=some (D.bool r,[]):=by
 refine c38 ?_ rfl;unfold k38;unfold UH at h;by_cases e1:low≤n_
 ·rw [if_pos e1]at h;cases h;simp only [↓AB,AC,↓reduceIte,Nat.reduceEqDiff,Nat.reduceLT,e1]
 ·rw [if_neg e1]at h;cases h;simp only [↓AB,AC,↓reduceIte,Nat.reduceEqDiff,Nat.reduceLT,e1]
noncomputable def d9(n_ lo hi:Int):Option (Bool):= if lo≤n_ then some (decide (n_≤hi)) else some false
def k33:SC:= .seq (.ops [oX 6 (.assign (.const (.bool false))) 4]) (.seq (.ops [oM 7 0 3,oM 8 1 3,oB 9 .geq 3 (tK 7) (tK 8) 3 4,oM 10 9 4,⟨some 11,.move (tK 0),3,(some (some 10,true))⟩,⟨some 12,.move (tK 2),3,(some (some 10,true))⟩,⟨some 13,.binOp .leq 3 (tK 11) (tK 12) 3,4,(some (some 10,true))⟩,oX 14 (.pick (tK 10) (tK 13) (.const (.bool false))) 4,oA 6 14 4]) .ret)
theorem A4t:Tryz.f33.body.map (BP lends)=some k33:=by kernel_rfl
theorem AH7:Be Tryz.f33 3=true:=by kernel_rfl
theorem c33{a l:List D}{r:D×List D}(h:BZ Y.env k33 (Eh AX l.length [ResultVar.tmp 6] r) (entry a l))(ha:a.length=3):Y.call 33 a l=some r:=
 AJ (Y:=Y) rfl Tryz.func33 (ha▸AH7) A4t h
theorem ji(n_ lo hi:Int){r:Bool}(h:d9 n_ lo hi=some r):Y.call 33 [D.int .i64 n_,D.int .i64 lo,D.int .i64 hi] []=some (D.bool r,[]):=by
 refine c33 ?_ rfl;unfold k33;unfold d9 at h;by_cases e1:lo≤n_
 ·rw [if_pos e1]at h;cases h;simp only [↓AB,AC,↓reduceIte,Nat.reduceEqDiff,Nat.reduceLT,e1]
 ·rw [if_neg e1]at h;cases h;simp only [↓AB,AC,↓reduceIte,Nat.reduceEqDiff,Nat.reduceLT,e1]
theorem jk(n lo hi:Int):UH n lo hi=some (MH n lo hi):=by unfold UH MH;by_cases h1:lo≤n<;>by_cases h2:n≤hi<;>simp [h1,h2]
theorem sI(n lo hi:Int):d9 n lo hi=some (MH n lo hi):=by unfold d9 MH;by_cases h1:lo≤n<;>by_cases h2:n≤hi<;>simp [h1,h2]
theorem Mc(n_ low high:Int):Y.call 38 [D.int .i64 n_,D.int .i64 low,D.int .i64 high] []=some (D.bool (MH n_ low high),[]):=ZI n_ low high (jk n_ low high)
theorem Rn(n_ lo hi:Int):Y.call 33 [D.int .i64 n_,D.int .i64 lo,D.int .i64 hi] []=some (D.bool (MH n_ lo hi),[]):=ji n_ lo hi (sI n_ lo hi)
noncomputable def JY(l:List Int)(lo hi BS:Int):Option ((Int)⊕(Unit⊕Unit)):= if BS<(l.length:Int)then ck (0≤BS∧BS.toNat<l.length)<| if(MH (l.getD BS.toNat default) lo hi)=true then some (Sum.inl (IntKind.i64.wrap (BS+1))) else some (Sum.inr (Sum.inl ())) else some (Sum.inr (Sum.inr ()))
noncomputable def QC(l:List Int)(lo hi v:Int):Option (Unit⊕Unit):=GQ (fun v=>JY l lo hi v) v
noncomputable def Wi(l:List Int)(lo hi:Int):Option (Bool):=
 (QC l lo hi 0).bind fun JL=>
 match JL with
 | .inl q2_=>
  some false
 | .inr q2_=>
  some true
def dA:SC:= .seq (.ops [oB 12 .lss 3 (tK 11) (tK 10) 3 0]) (.seq (.cond (tK 12) .skip (.exit 0)) (.seq (.block 1 (.seq (.ops [oI 13 27 9 11,oL 14 3 13 3,oA 8 14 3]) (.seq (.ops [oM 15 8 3,oM 16 1 3,oM 17 2 3,oC 18 33 [(tK 15),(tK 16),(tK 17)] [3,3,3] 4,oX 19 (.unOp .not 4 (tK 18)) 4]) (.cond (tK 19) (.seq (.ops [oX 6 (.assign (.const (.bool false))) 4]) .ret) .skip)))) (.ops [oB 20 .add 3 (tK 11) (iK 1) 3 3,oM 11 20 3])))
def xF:SC:= .loop dA
def k54:SC:= .seq (.ops [oX 6 (.assign (.const (.bool false))) 4]) (.seq (.seq (.ops [oM 9 0 27,oN 10 9 27,oX 11 (.move (iK 0)) 3]) (.block 0 xF)) (.seq (.ops [oX 6 (.assign (.const (.bool true))) 4]) .ret))
theorem A4u:Tryz.f54.body.map (BP lends)=some k54:=by kernel_rfl
theorem AH9:Be Tryz.f54 3=true:=by kernel_rfl
theorem c54{a l:List D}{r:D×List D}(h:BZ Y.env k54 (Eh AX l.length [ResultVar.tmp 6] r) (entry a l))(ha:a.length=3):Y.call 54 a l=some r:=
 AJ (Y:=Y) rfl Tryz.func54 (ha▸AH9) A4u h
def Hr(l:List Int)(lo hi BS:Int)(s:St):Prop:=s.v 1=D.int .i64 lo∧s.v 2=D.int .i64 hi∧s.v 9=D.sl 3 (A8 (D.int .i64) l)∧s.v 10=D.int .i64 (l.length:Int)∧s.v 11=D.int .i64 BS
def JZ(l:List Int)(lo hi:Int)(r:Unit⊕Unit)(ex:Ex)(s:St):Prop:=match r with
 | .inl q=>ex= .ret∧s.v 6=D.bool false
 | .inr q=>ex= .exit 0
theorem ZJ(l:List Int)(lo hi:Int){v:Int}{s:St}{r:Unit⊕Unit}(h:QC l lo hi v=some r)(hM:Hr l lo hi v s):BZ Y.env xF (JZ l lo hi r) s:=by
 unfold QC at h;refine Ao (c:=dA) (fun v=>JY l lo hi v) (fun v s=>Hr l lo hi v s) (JZ l lo hi) ?_ h hM;clear h hM s v r;intro BS s o hM h;unfold JY at h;unfold Hr at hM;obtain⟨m0,m1,m2,m3,m4⟩:=hM;unfold dA;by_cases e1:BS<(l.length:Int)
 ·rw [if_pos e1]at h;obtain⟨e2,h⟩:=Ar h;have c3:=Rn (l.getD BS.toNat default) lo hi;by_cases e4:(MH (l.getD BS.toNat default) lo hi)=true
  ·rw [if_pos e4]at h;cases h;simp only [↓AB,AC,↓reduceIte,Nat.reduceEqDiff,Nat.reduceLT,m0,m1,m2,m3,m4,e1,e2.1,e2.2,c3,e4,Hr,Ef]
  ·rw [if_neg e4]at h;have e4f:(MH (l.getD BS.toNat default) lo hi)=false:=J2.mpr e4;cases h;simp only [↓AB,AC,↓reduceIte,Nat.reduceEqDiff,Nat.reduceLT,m0,m1,m2,m3,m4,e1,e2.1,e2.2,c3,e4f,Hr,JZ,Sv]
 ·rw [if_neg e1]at h;cases h;simp only [↓AB,AC,↓reduceIte,Nat.reduceLT,m3,m4,e1,Hr,JZ,JK]
theorem dB(l:List Int)(lo hi:Int){r:Bool}(h:Wi l lo hi=some r):Y.call 54 [D.sl 3 (A8 (D.int .i64) l),D.int .i64 lo,D.int .i64 hi] []=some (D.bool r,[]):=by
 refine c54 ?_ rfl;unfold k54;unfold Wi at h;obtain⟨JL,hl2,h⟩:=AO h;try dsimp only at h
 simp only [↓AB,AC,↓reduceIte,Nat.reduceEqDiff,Nat.reduceLT];refine AY (ZJ l lo hi hl2 ?_) ?_
 ·simp only [BG,Co,↓reduceIte,Nat.reduceEqDiff,Nat.reduceLT,Hr]
 ·intro ex2 s2 hX2;rcases JL with q2_ | q2_
  ·unfold JZ at hX2;dsimp only at hX2 h;obtain⟨rfl,n2_0⟩:=hX2;cases h;simp only [↓AB,AC,↓reduceIte,n2_0]
  ·unfold JZ at hX2;dsimp only at hX2 h
   obtain rfl:=hX2
   cases h;simp only [↓AB,AC,↓reduceIte,Nat.reduceEqDiff,Nat.reduceLT]
def Md(l:List Int)(lo hi:Int):Bool:=l.all fun x=>MH x lo hi
theorem nM(l:List Int)(lo hi:Int)(h:l.length<1099511627776):Wi l lo hi=some (Md l lo hi):=by
 unfold Wi QC;have key:=OM (fun v=>JY l lo hi v) (fun i=>(i:Int)) l.length (fun i=>MH (l.getD i default) lo hi) (.inl ()) (.inr ()) ?_ ?_
 ·simp only [Js]at key;rw [key,jW (fun x=>MH x lo hi)];unfold Md
  cases l.all (fun x=>MH x lo hi)<;>rfl
 ·intro i hi;simp only [JY];rw [if_pos (Bi hi),Am (Ho hi),IA,IR i (by omega)]
 ·simp only [JY];rw [if_neg (Af _)]
theorem nN(l:List Int)(lo hi:Int)(h0:l.length<1099511627776):Y.call 54 [D.sl 3 (A8 (D.int .i64) l),D.int .i64 lo,D.int .i64 hi] []=some (D.bool (Md l lo hi),[]):=dB l lo hi (nM l lo hi h0)
noncomputable def LF(s_:List Int)(f:Int→Option Bool)(Lb:Int):Option ((Int)⊕(Int⊕Unit)):= if Lb<(s_.length:Int)then ck (0≤Lb∧Lb.toNat<s_.length)<| (f (s_.getD Lb.toNat default)).bind fun NR=> if NR=true then some (Sum.inr (Sum.inl Lb)) else some (Sum.inl (IntKind.i64.wrap (Lb+1))) else some (Sum.inr (Sum.inr ()))
noncomputable def dC(s_:List Int)(f:Int→Option Bool)(v:Int):Option (Int⊕Unit):=GQ (fun v=>LF s_ f v) v
noncomputable def gIF(s_:List Int)(f:Int→Option Bool):Option (Int):=
 (dC s_ f 0).bind fun JL=>
 match JL with
 | .inl q2_=>
  some q2_
 | .inr q2_=>
  some (-1)
def Y4:SC:= .seq (.ops [oB 9 .lss 3 (tK 8) (tK 7) 3 0]) (.seq (.cond (tK 9) .skip (.exit 0)) (.seq (.block 1 (.seq (.ops [oM 10 8 3,oA 5 10 3]) (.seq (.ops [oM 11 1 87,oM 12 0 27,oM 13 5 3,oI 14 27 12 13,oL 15 3 14 3,oX 16 (.call ⟨(.value (tK 11)), #[(tK 15)], #[3]⟩) 4]) (.cond (tK 16) (.seq (.ops [oM 17 5 3,oA 4 17 3]) .ret) .skip)))) (.ops [oB 18 .add 3 (tK 8) (iK 1) 3 3,oM 8 18 3])))
def pI:SC:= .loop Y4
def A4v:SC:= .seq (.ops [oX 4 (.assign (iK 0)) 3]) (.seq (.seq (.ops [oM 6 0 27,oN 7 6 27,oX 8 (.move (iK 0)) 3]) (.block 0 pI)) (.seq (.ops [oX 4 (.assign (.const (.int .i64 (-1)))) 3]) .ret))
theorem A0T:Tryz.f112.body.map (BP lends)=some A4v:=by kernel_rfl
theorem ACF:Be Tryz.f112 2=true:=by kernel_rfl
theorem AHA{a l:List D}{r:D×List D}(h:BZ Y.env A4v (Eh AX l.length [ResultVar.tmp 4] r) (entry a l))(ha:a.length=2):Y.call 112 a l=some r:=
 AJ (Y:=Y) rfl Tryz.func112 (ha▸ACF) A0T h
def Nl(s_:List Int)(f:Int→Option Bool)(f_f:FuncId)(f_c:List D)(Lb:Int)(s:St):Prop:=s.v 0=D.sl 3 (A8 (D.int .i64) s_)∧s.v 1=D.clo f_f f_c∧s.v 7=D.int .i64 (s_.length:Int)∧s.v 8=D.int .i64 Lb
def PX(s_:List Int)(f:Int→Option Bool)(f_f:FuncId)(f_c:List D)(r:Int⊕Unit)(ex:Ex)(s:St):Prop:=match r with
 | .inl q=>ex= .ret∧s.v 4=D.int .i64 q
 | .inr q=>ex= .exit 0
theorem sJ(s_:List Int)(f:Int→Option Bool)(f_f:FuncId)(f_c:List D)(f_h: ∀(a0:Int) (r:Bool),f a0=some r→Y.call f_f (D.int .i64 a0::f_c) []=some (D.bool r,[]))(f_l:lends f_f=false){v:Int}{s:St}{r:Int⊕Unit}(h:dC s_ f v=some r)(hM:Nl s_ f f_f f_c v s):BZ Y.env pI (PX s_ f f_f f_c r) s:=by
 unfold dC at h;refine Ao (c:=Y4) (fun v=>LF s_ f v) (fun v s=>Nl s_ f f_f f_c v s) (PX s_ f f_f f_c) ?_ h hM;clear h hM s v r;intro Lb s o hM h;unfold LF at h;unfold Nl at hM;obtain⟨m0,m1,m2,m3⟩:=hM;unfold Y4;by_cases e1:Lb<(s_.length:Int)
 ·rw [if_pos e1]at h;obtain⟨e2,h⟩:=Ar h;obtain⟨NR,hl3,h⟩:=AO h;try dsimp only at h
  have c3:=f_h _ _ hl3;by_cases e4:NR=true
  ·rw [if_pos e4]at h;cases h;simp only [↓AB,AC,↓reduceIte,Nat.reduceEqDiff,Nat.reduceLT,m0,m1,m2,m3,f_l,e1,e2.1,e2.2,c3,e4,Nl,PX,Sv]
  ·rw [if_neg e4]at h;have e4f:NR=false:=J2.mpr e4;cases h;simp only [↓AB,AC,↓reduceIte,Nat.reduceEqDiff,Nat.reduceLT,m0,m1,m2,m3,f_l,e1,e2.1,e2.2,c3,e4f,Nl,Ef]
 ·rw [if_neg e1]at h;cases h;simp only [↓AB,AC,↓reduceIte,Nat.reduceLT,m2,m3,e1,Nl,PX,JK]
theorem xG(s_:List Int)(f:Int→Option Bool)(f_f:FuncId)(f_c:List D)(f_h: ∀(a0:Int) (r:Bool),f a0=some r→Y.call f_f (D.int .i64 a0::f_c) []=some (D.bool r,[]))(f_l:lends f_f=false){r:Int}(h:gIF s_ f=some r):Y.call 112 [D.sl 3 (A8 (D.int .i64) s_),D.clo f_f f_c] []=some (D.int .i64 r,[]):=by
 refine AHA ?_ rfl;unfold A4v;unfold gIF at h;obtain⟨JL,hl2,h⟩:=AO h;try dsimp only at h
 simp only [↓AB,AC,↓reduceIte,Nat.reduceEqDiff,Nat.reduceLT,Int.reduceNeg];refine AY (sJ s_ f f_f f_c f_h f_l hl2 ?_) ?_
 ·simp only [BG,Co,↓reduceIte,Nat.reduceEqDiff,Nat.reduceLT,Nl]
 ·intro ex2 s2 hX2;rcases JL with q2_ | q2_
  ·unfold PX at hX2;dsimp only at hX2 h;obtain⟨rfl,n2_0⟩:=hX2;cases h;simp only [↓AB,AC,↓reduceIte,n2_0]
  ·unfold PX at hX2;dsimp only at hX2 h
   obtain rfl:=hX2
   cases h;simp only [↓AB,AC,↓reduceIte,Nat.reduceEqDiff,Nat.reduceLT,Int.reduceNeg]
noncomputable def Bt(s_:List Int)(f:Int→Option Bool):Option (Bool):= (gIF s_ f).bind fun Kb=> some (decide (0≤Kb))
def k94:SC:= .seq (.ops [oX 4 (.assign (.const (.bool false))) 4]) (.seq (.ops [oM 5 0 27,oM 6 1 87,oC 7 112 [(tK 5),(tK 6)] [27,87] 3,oB 8 .geq 3 (tK 7) (iK 0) 3 4,oA 4 8 4]) .ret)
theorem A4w:Tryz.f94.body.map (BP lends)=some k94:=by kernel_rfl
theorem AHC:Be Tryz.f94 2=true:=by kernel_rfl
theorem c94{a l:List D}{r:D×List D}(h:BZ Y.env k94 (Eh AX l.length [ResultVar.tmp 4] r) (entry a l))(ha:a.length=2):Y.call 94 a l=some r:=
 AJ (Y:=Y) rfl Tryz.func94 (ha▸AHC) A4w h
theorem K9(s_:List Int)(f:Int→Option Bool)(f_f:FuncId)(f_c:List D)(f_h: ∀(a0:Int) (r:Bool),f a0=some r→Y.call f_f (D.int .i64 a0::f_c) []=some (D.bool r,[]))(f_l:lends f_f=false){r:Bool}(h:Bt s_ f=some r):Y.call 94 [D.sl 3 (A8 (D.int .i64) s_),D.clo f_f f_c] []=some (D.bool r,[]):=by
 refine c94 ?_ rfl;unfold k94;unfold Bt at h;obtain⟨Kb,hl1,h⟩:=AO h;try dsimp only at h
 have c1:=xG s_ f f_f f_c f_h f_l hl1;cases h;simp only [↓AB,AC,↓reduceIte,Nat.reduceEqDiff,Nat.reduceLT,c1]
noncomputable def KA(n_ c0_ c1_:Int):Option (Bool):= some (!(MH n_ c0_ c1_))
def k95:SC:= .seq (.ops [oX 4 (.assign (.const (.bool false))) 4]) (.seq (.ops [oM 5 0 3,oL 6 3 1 3,oL 7 3 2 3,oC 8 38 [(tK 5),(tK 6),(tK 7)] [3,3,3] 4,oX 9 (.unOp .not 4 (tK 8)) 4,oA 4 9 4]) .ret)
theorem A4x:Tryz.f95.body.map (BP lends)=some k95:=by kernel_rfl
theorem AHE:Be Tryz.f95 3=true:=by kernel_rfl
theorem c95{a l:List D}{r:D×List D}(h:BZ Y.env k95 (Eh AX l.length [ResultVar.tmp 4] r) (entry a l))(ha:a.length=3):Y.call 95 a l=some r:=
 AJ (Y:=Y) rfl Tryz.func95 (ha▸AHE) A4x h
theorem TD(n_ c0_ c1_:Int){r:Bool}(h:KA n_ c0_ c1_=some r):Y.call 95 [D.int .i64 n_,D.cptr [D.int .i64 c0_],D.cptr [D.int .i64 c1_]] []=some (D.bool r,[]):=by
 refine c95 ?_ rfl;unfold k95;unfold KA at h;have c1:=Mc n_ c0_ c1_;cases h;simp only [↓AB,AC,↓reduceIte,Nat.reduceEqDiff,Nat.reduceLT,c1]
noncomputable def OZ(list:List Int)(low high:Int):Option (Bool):= (Bt list (fun a0=>KA a0 low high)).bind fun Kb=> some (!Kb)
def k63:SC:= .seq (.ops [oX 4 (.box 3 (tK 1)) 0,oX 5 (.box 3 (tK 2)) 0,oX 6 (.assign (.const (.bool false))) 4]) (.seq (.ops [oM 7 0 27,oX 8 (.makeFunc (Fn.func 95) #[] #[(tK 4),(tK 5)]) 87,oC 9 94 [(tK 7),(tK 8)] [27,87] 4,oX 10 (.unOp .not 4 (tK 9)) 4,oA 6 10 4]) .ret)
theorem A4y:Tryz.f63.body.map (BP lends)=some k63:=by kernel_rfl
theorem AHG:Be Tryz.f63 3=true:=by kernel_rfl
theorem c63{a l:List D}{r:D×List D}(h:BZ Y.env k63 (Eh AX l.length [ResultVar.tmp 6] r) (entry a l))(ha:a.length=3):Y.call 63 a l=some r:=
 AJ (Y:=Y) rfl Tryz.func63 (ha▸AHG) A4y h
theorem VB(list:List Int)(low high:Int){r:Bool}(h:OZ list low high=some r):Y.call 63 [D.sl 3 (A8 (D.int .i64) list),D.int .i64 low,D.int .i64 high] []=some (D.bool r,[]):=by
 refine c63 ?_ rfl;unfold k63;unfold OZ at h;obtain⟨Kb,hl1,h⟩:=AO h;try dsimp only at h
 have c1:=K9 list (fun a0=>KA a0 low high) 95 [D.cptr [D.int .i64 low],D.cptr [D.int .i64 high]] (fun a0 _ hh=>TD a0 low high hh) A4d hl1;cases h;simp only [↓AB,AC,↓reduceIte,Nat.reduceEqDiff,Nat.reduceLT,c1]
theorem dD(l:List Int)(f:Int→Option Bool)(p:Int→Bool)(h:l.length<1099511627776)(hf: ∀x∈l,f x=some (p x)):
  ∃r,gIF l f=some r∧(0≤r↔l.any p=true):=by
 unfold gIF dC;by_cases ha: ∀i,i<l.length→(!p (l.getD i default))=true
 ·have key:=BO (fun v=>LF l f v) (fun i=>(i:Int)) l.length (.inr ()) ?_ ?_
  ·simp only [Js]at key;rw [key]
   refine⟨-1,rfl,by simp,fun hc=> ?_⟩
   obtain⟨x,hx,hpx⟩:=List.any_eq_true.1 hc;obtain⟨i,hi,rfl⟩:=Sj hx;have:=ha i hi
   rw [AV _ _ hi,hpx]at this;cases this
  ·intro i hi;simp only [LF];have e:=ha i hi;rw [AV _ _ hi]at e;rw [if_pos (Bi hi),Am (Ho hi),LB _ _ hi,hf _ (FE hi),CO,if_neg (by cases hp:p l[i]<;>simp_all),IR i (by omega)]
  ·simp only [LF];rw [if_neg (Af _)]
 ·obtain⟨m,h1,h2,h3⟩:=Sw (P:=fun i=> !p (l.getD i default)) ha;have key:=BO (fun v=>LF l f v) (fun i=>(i:Int)) m (.inl (m:Int)) ?_ ?_
  ·simp only [Js]at key;rw [key]
   refine⟨(m:Int),rfl,fun _=> ?_,fun _=>by omega⟩
   have h2':p l[m]=true:=by rw [AV _ _ h1]at h2;simpa using h2
   exact List.any_eq_true.2 ⟨_,FE h1,h2'⟩
  ·intro i hi;simp only [LF];have e:=h3 i hi;rw [AV _ _ (by omega)]at e
   rw [if_pos (Bi (by omega)),Am (Ho (by omega)),LB _ _ (by omega),hf _ (FE _),CO,if_neg (by cases hp:p l[i]<;>simp_all),IR i (by omega)]
  ·simp only [LF];have h2':p l[m]=true:=by rw [AV _ _ h1]at h2;simpa using h2
   rw [if_pos (Bi h1),Am (Ho h1),LB _ _ h1,hf _ (FE _),CO,if_pos h2']
theorem WL(l:List Int)(f:Int→Option Bool)(p:Int→Bool)(h:l.length<1099511627776)(hf: ∀x∈l,f x=some (p x)):Bt l f=some (l.any p):=by
 obtain⟨r,h1,h2⟩:=dD l f p h hf;unfold Bt;rw [h1,CO]
 congr 1
 rw [Bool.eq_iff_iff];simpa using h2
theorem Y5(l:List Int)(lo hi:Int)(h:l.length<1099511627776):OZ l lo hi=some (Md l lo hi):=by
 unfold OZ;rw [WL l (fun a0=>KA a0 lo hi) (fun x=> !MH x lo hi) h (fun x _=>rfl),CO];unfold Md;rw [List.all_eq_not_any_not]
theorem Y6(list:List Int)(low high:Int)(h0:list.length<1099511627776):Y.call 63 [D.sl 3 (A8 (D.int .i64) list),D.int .i64 low,D.int .i64 high] []=some (D.bool (Md list low high),[]):=VB list low high (Y5 list low high h0)
noncomputable def Ch(x_:Int):Option (Bool):= some false
def A4z:SC:= .seq (.ops [oX 2 (.assign (.const (.bool false))) 4]) (.seq (.ops [oM 3 0 3,oM 4 0 3,oB 5 .neq 3 (tK 3) (tK 4) 3 4,oA 2 5 4]) .ret)
theorem A0U:Tryz.f111.body.map (BP lends)=some A4z:=by kernel_rfl
theorem ACG:Be Tryz.f111 1=true:=by kernel_rfl
theorem AHH{a l:List D}{r:D×List D}(h:BZ Y.env A4z (Eh AX l.length [ResultVar.tmp 2] r) (entry a l))(ha:a.length=1):Y.call 111 a l=some r:=
 AJ (Y:=Y) rfl Tryz.func111 (ha▸ACG) A0U h
theorem Fz(x_:Int){r:Bool}(h:Ch x_=some r):Y.call 111 [D.int .i64 x_] []=some (D.bool r,[]):=by
 refine AHH ?_ rfl;unfold A4z;unfold Ch at h;cases h;simp only [↓AB,AC,↓reduceIte,Nat.reduceEqDiff,Nat.reduceLT]
noncomputable def EP(x_ y:Int):Option (Bool):= (Ch x_).bind fun Kb=> if Kb=true then (Ch y).bind fun NR=> if NR=true then some (decide (x_<y)) else some true else some (decide (x_<y))
def k93:SC:= .seq (.ops [oX 4 (.assign (.const (.bool false))) 4]) (.seq (.ops [oM 5 0 3,oC 6 111 [(tK 5)] [3] 4,oM 7 6 4,⟨some 8,.move (tK 1),3,(some (some 7,true))⟩,⟨some 9,.call ⟨(.value (.func 111)), #[(tK 8)], #[3]⟩,4,(some (some 7,true))⟩,⟨some 10,.unOp .not 4 (tK 9),4,(some (some 7,true))⟩,oX 11 (.pick (tK 7) (tK 10) (.const (.bool false))) 4,oM 12 11 4,⟨some 13,.move (tK 0),3,(some (some 12,false))⟩,⟨some 14,.move (tK 1),3,(some (some 12,false))⟩,⟨some 15,.binOp .lss 3 (tK 13) (tK 14) 3,4,(some (some 12,false))⟩,oX 16 (.pick (tK 12) (.const (.bool true)) (tK 15)) 4,oA 4 16 4]) .ret)
theorem A50:Tryz.f93.body.map (BP lends)=some k93:=by kernel_rfl
theorem AHJ:Be Tryz.f93 2=true:=by kernel_rfl
theorem c93{a l:List D}{r:D×List D}(h:BZ Y.env k93 (Eh AX l.length [ResultVar.tmp 4] r) (entry a l))(ha:a.length=2):Y.call 93 a l=some r:=
 AJ (Y:=Y) rfl Tryz.func93 (ha▸AHJ) A50 h
theorem NB(x_ y:Int){r:Bool}(h:EP x_ y=some r):Y.call 93 [D.int .i64 x_,D.int .i64 y] []=some (D.bool r,[]):=by
 refine c93 ?_ rfl;unfold k93;unfold EP at h;obtain⟨Kb,hl1,h⟩:=AO h;try dsimp only at h
 have c1:=Fz x_ hl1;by_cases e2:Kb=true
 ·rw [if_pos e2]at h;obtain⟨NR,hl3,h⟩:=AO h;try dsimp only at h
  have c3:=Fz y hl3;by_cases e4:NR=true
  ·rw [if_pos e4]at h;cases h;simp only [↓AB,AC,↓reduceIte,Nat.reduceEqDiff,Nat.reduceLT,c1,e2,c3,e4]
  ·rw [if_neg e4]at h;have e4f:NR=false:=J2.mpr e4;cases h;simp only [↓AB,AC,↓reduceIte,Nat.reduceEqDiff,Nat.reduceLT,c1,e2,c3,e4f]
 ·rw [if_neg e2]at h;have e2f:Kb=false:=J2.mpr e2;cases h;simp only [↓AB,AC,↓reduceIte,Nat.reduceEqDiff,Nat.reduceLT,c1,e2f]
noncomputable def Nn(x_:List Int)(i:Int):Option ((Int)⊕(Unit⊕Unit)):= if 0<i then ck (0≤i∧i.toNat<x_.length)<| ck (0≤IntKind.i64.wrap (i-1)∧(IntKind.i64.wrap (i-1)).toNat<x_.length)<| (EP (x_.getD i.toNat default) (x_.getD ((IntKind.i64.wrap (i-1)).toNat) default)).bind fun sK=> if sK=true then some (Sum.inr (Sum.inl ())) else some (Sum.inl (IntKind.i64.wrap (i-1))) else some (Sum.inr (Sum.inr ()))
noncomputable def dE(x_:List Int)(v:Int):Option (Unit⊕Unit):=GQ (fun v=>Nn x_ v) v
noncomputable def gIS(x_:List Int):Option (Bool):=
 (dE x_ (IntKind.i64.wrap ((x_.length:Int)-1))).bind fun JL=>
 match JL with
 | .inl q2_=>
  some false
 | .inr q2_=>
  some true
def dF:SC:= .seq (.seq (.ops [oM 7 3 3,oB 8 .gtr 3 (tK 7) (iK 0) 3 4]) (.cond (tK 8) .skip (.exit 0))) (.seq (.block 1 (.seq (.draws [(⟨[11,0,0],[11,12,13,14,15,16,17,18,19,20],[11]⟩,oM 11 0 27),(⟨[12,3,3],[11,12,13,14,15,16,17,18,19,20],[12]⟩,oM 12 3 3),(⟨[13,11,12,0,3],[11,12,13,14,15,16,17,18,19,20],[13]⟩,oI 13 27 11 12),(⟨[14,13,0],[11,12,13,14,15,16,17,18,19,20],[14]⟩,oL 14 3 13 3),(⟨[15,0,0],[11,12,13,14,15,16,17,18,19,20],[15]⟩,oM 15 0 27),(⟨[16,3,3],[11,12,13,14,15,16,17,18,19,20],[16]⟩,oM 16 3 3),(⟨[17,16,3],[11,12,13,14,15,16,17,18,19,20],[17]⟩,oB 17 .sub 3 (tK 16) (iK 1) 3 3),(⟨[18,15,17,0,17],[11,12,13,14,15,16,17,18,19,20],[18]⟩,oI 18 27 15 17),(⟨[19,18,0],[11,12,13,14,15,16,17,18,19,20],[19]⟩,oL 19 3 18 3),(⟨[20,14,19,0,0],[11,12,13,14,15,16,17,18,19,20],[20]⟩,oC 20 93 [(tK 14),(tK 19)] [3,3] 4)]) (.cond (tK 20) (.seq (.ops [oX 2 (.assign (.const (.bool false))) 4]) .ret) .skip))) (.ops [oM 9 3 3,oB 10 .sub 3 (tK 9) (iK 1) 3 3,oA 3 10 3]))
def xH:SC:= .loop dF
def k62:SC:= .seq (.ops [oX 2 (.assign (.const (.bool false))) 4]) (.seq (.seq (.ops [oM 4 0 27,oN 5 4 27,oB 6 .sub 3 (tK 5) (iK 1) 3 3,oA 3 6 3]) (.block 0 xH)) (.seq (.ops [oX 2 (.assign (.const (.bool true))) 4]) .ret))
theorem A51:Tryz.f62.body.map (BP lends)=some k62:=by kernel_rfl
theorem AHL:Be Tryz.f62 1=true:=by kernel_rfl
theorem c62{a l:List D}{r:D×List D}(h:BZ Y.env k62 (Eh AX l.length [ResultVar.tmp 2] r) (entry a l))(ha:a.length=1):Y.call 62 a l=some r:=
 AJ (Y:=Y) rfl Tryz.func62 (ha▸AHL) A51 h
def Np(x_:List Int)(i:Int)(s:St):Prop:=s.v 0=D.sl 3 (A8 (D.int .i64) x_)∧s.v 3=D.int .i64 i
def PY(x_:List Int)(r:Unit⊕Unit)(ex:Ex)(s:St):Prop:=match r with
 | .inl q=>ex= .ret∧s.v 2=D.bool false
 | .inr q=>ex= .exit 0
theorem sM(x_:List Int){v:Int}{s:St}{r:Unit⊕Unit}(h:dE x_ v=some r)(hM:Np x_ v s):BZ Y.env xH (PY x_ r) s:=by
 unfold dE at h;refine Ao (c:=dF) (fun v=>Nn x_ v) (fun v s=>Np x_ v s) (PY x_) ?_ h hM;clear h hM s v r;intro i s o hM h;unfold Nn at h;unfold Np at hM;obtain⟨m0,m1⟩:=hM;unfold dF;by_cases e1:0<i
 ·rw [if_pos e1]at h;obtain⟨e2,h⟩:=Ar h;obtain⟨e3,h⟩:=Ar h;obtain⟨sK,hl4,h⟩:=AO h;try dsimp only at h
  have c4:=NB (x_.getD i.toNat default) (x_.getD ((IntKind.i64.wrap (i-1)).toNat) default) hl4;by_cases e5:sK=true
  ·rw [if_pos e5]at h;cases h;simp only [↓AB,AC,↓reduceIte,Nat.reduceEqDiff,Nat.reduceLT,m0,m1,e1,e2.1,e2.2,e3.1,e3.2,c4,e5,Np,PY,Sv]
  ·rw [if_neg e5]at h;have e5f:sK=false:=J2.mpr e5;cases h;simp only [↓AB,AC,↓reduceIte,Nat.reduceEqDiff,Nat.reduceLT,m0,m1,e1,e2.1,e2.2,e3.1,e3.2,c4,e5f,Np,Ef]
 ·rw [if_neg e1]at h;cases h;simp only [↓AB,AC,↓reduceIte,Nat.reduceLT,m1,e1,Np,PY,JK]
theorem xI(x_:List Int){r:Bool}(h:gIS x_=some r):Y.call 62 [D.sl 3 (A8 (D.int .i64) x_)] []=some (D.bool r,[]):=by
 refine c62 ?_ rfl;unfold k62;unfold gIS at h;obtain⟨JL,hl2,h⟩:=AO h;try dsimp only at h
 simp only [↓AB,AC,↓reduceIte,Nat.reduceEqDiff,Nat.reduceLT];refine AY (sM x_ hl2 ?_) ?_
 ·simp only [BG,Co,↓reduceIte,Nat.reduceEqDiff,Nat.reduceLT,Np]
 ·intro ex2 s2 hX2;rcases JL with q2_ | q2_
  ·unfold PY at hX2;dsimp only at hX2 h;obtain⟨rfl,n2_0⟩:=hX2;cases h;simp only [↓AB,AC,↓reduceIte,n2_0]
  ·unfold PY at hX2;dsimp only at hX2 h
   obtain rfl:=hX2
   cases h;simp only [↓AB,AC,↓reduceIte,Nat.reduceEqDiff,Nat.reduceLT]
def Ht(l:List Int):Bool:=(List.range (l.length-1)).all fun i=>decide (l.getD i default≤l.getD (i+1) default)
theorem A52(l:List Int)(h:l.length<1099511627776):gIS l=some (Ht l):=by
 unfold gIS dE;rw [Dw _ (by omega)]
 rcases Nat.eq_zero_or_pos l.length with h0 | h0
 ·rw [FR (r:=Sum.inr ())]
  ·simp [Ht,h0]
  ·simp only [Nn];rw [if_neg (by omega)]
 ·have key:=OM (fun v=>Nn l v) (fun j=>(l.length:Int)-1-j) (l.length-1) (fun j=>decide (l.getD (l.length-1-j-1) default≤l.getD (l.length-1-j) default)) (.inl ()) (.inr ()) ?_ ?_
  ·simp only [Js,Int.sub_zero]at key;rw [key]
   have e:(List.range (l.length-1)).all (fun j=>decide (l.getD (l.length-1-j-1) default≤l.getD (l.length-1-j) default))=Ht l:=by
    unfold Ht;rw [Bool.eq_iff_iff,JU,JU]
    constructor
    ·intro hh i hi;have:=hh (l.length-1-i-1) (by omega)
     rwa [show l.length-1-(l.length-1-i-1)=i+1 by omega,Nat.add_sub_cancel]at this
    ·intro hh i hi;have:=hh (l.length-1-i-1) (by omega)
     rwa [show l.length-1-i-1+1=l.length-1-i by omega]at this
   rw [e]
   cases Ht l<;>rfl
  ·intro i hi;simp only [Nn];rw [if_pos (by omega),Dw _ (by omega)]
   rw [Am (by omega),Am (by omega),show((l.length:Int)-1-i).toNat=l.length-1-i by omega,show((l.length:Int)-1-i-1).toNat=l.length-1-i-1 by omega]
   have e:EP (l.getD (l.length-1-i) default) (l.getD (l.length-1-i-1) default)=some (decide (l.getD (l.length-1-i) default<l.getD (l.length-1-i-1) default)):=by
    unfold EP Ch;by_cases hq:l.getD (l.length-1-i) default<l.getD (l.length-1-i-1) default<;>simp [hq]
   rw [e,CO];simp only [decide_eq_true_eq];by_cases hq:l.getD (l.length-1-i) default<l.getD (l.length-1-i-1) default
   ·rw [if_pos hq,if_neg (by omega)]
   ·rw [if_neg hq,if_pos (by omega),show(l.length:Int)-1-i-1=(l.length:Int)-1-((i+1:Nat):Int) by omega]
  ·simp only [Nn];rw [if_neg (by omega)]
theorem A53(x_:List Int)(h0:x_.length<1099511627776):Y.call 62 [D.sl 3 (A8 (D.int .i64) x_)] []=some (D.bool (Ht x_),[]):=xI x_ (A52 x_ h0)
def cmpL:List Int→List Int→Int
 | [],[]=>0
 | [],_::_=> -1
 | _::_,[]=>1
 | x::a,y::b=>if x=y then cmpL a b else if x<y then-1 else 1
noncomputable def G5(x_ y:Int):Option (Int):= (Ch x_).bind fun Kb=> (Ch y).bind fun JL=> if Kb=true then if JL=true then some 0 else some (-1) else if JL=true then some 1 else if x_<y then some (-1) else if y<x_ then some 1 else some 0
def k96:SC:= .seq (.ops [oX 4 (.assign (iK 0)) 3]) (.seq (.ops [oM 7 0 3,oC 8 111 [(tK 7)] [3] 4,oA 5 8 4]) (.seq (.ops [oM 9 1 3,oC 10 111 [(tK 9)] [3] 4,oA 6 10 4]) (.seq (.seq (.ops [oM 11 5 4]) (.cond (tK 11) (.seq (.seq (.ops [oM 12 6 4]) (.cond (tK 12) (.seq (.ops [oX 4 (.assign (iK 0)) 3]) .ret) .skip)) (.seq (.ops [oX 4 (.assign (.const (.int .i64 (-1)))) 3]) .ret)) .skip)) (.seq (.seq (.ops [oM 13 6 4]) (.cond (tK 13) (.seq (.ops [oX 4 (.assign (iK 1)) 3]) .ret) .skip)) (.seq (.seq (.ops [oM 14 0 3,oM 15 1 3,oB 16 .lss 3 (tK 14) (tK 15) 3 4]) (.cond (tK 16) (.seq (.ops [oX 4 (.assign (.const (.int .i64 (-1)))) 3]) .ret) .skip)) (.seq (.seq (.ops [oM 17 0 3,oM 18 1 3,oB 19 .gtr 3 (tK 17) (tK 18) 3 4]) (.cond (tK 19) (.seq (.ops [oX 4 (.assign (iK 1)) 3]) .ret) .skip)) (.seq (.ops [oX 4 (.assign (iK 0)) 3]) .ret)))))))
theorem A54:Tryz.f96.body.map (BP lends)=some k96:=by kernel_rfl
theorem AHN:Be Tryz.f96 2=true:=by kernel_rfl
theorem c96{a l:List D}{r:D×List D}(h:BZ Y.env k96 (Eh AX l.length [ResultVar.tmp 4] r) (entry a l))(ha:a.length=2):Y.call 96 a l=some r:=
 AJ (Y:=Y) rfl Tryz.func96 (ha▸AHN) A54 h
theorem QD(x_ y:Int){r:Int}(h:G5 x_ y=some r):Y.call 96 [D.int .i64 x_,D.int .i64 y] []=some (D.int .i64 r,[]):=by
 refine c96 ?_ rfl;unfold k96;unfold G5 at h;obtain⟨Kb,hl1,h⟩:=AO h;try dsimp only at h
 have c1:=Fz x_ hl1;obtain⟨JL,hl2,h⟩:=AO h;try dsimp only at h
 have c2:=Fz y hl2;by_cases e3:Kb=true
 ·rw [if_pos e3]at h;by_cases e4:JL=true
  ·rw [if_pos e4]at h;cases h;simp only [↓AB,AC,↓reduceIte,Nat.reduceEqDiff,Nat.reduceLT,c1,c2,e3,e4]
  ·rw [if_neg e4]at h;have e4f:JL=false:=J2.mpr e4;cases h;simp only [↓AB,AC,↓reduceIte,Nat.reduceEqDiff,Nat.reduceLT,c1,c2,e3,e4f]
 ·rw [if_neg e3]at h;have e3f:Kb=false:=J2.mpr e3;by_cases e4:JL=true
  ·rw [if_pos e4]at h;cases h;simp only [↓AB,AC,↓reduceIte,Nat.reduceEqDiff,Nat.reduceLT,c1,c2,e3f,e4]
  ·rw [if_neg e4]at h;have e4f:JL=false:=J2.mpr e4;by_cases e5:x_<y
   ·rw [if_pos e5]at h;cases h;simp only [↓AB,AC,↓reduceIte,Nat.reduceEqDiff,Nat.reduceLT,c1,c2,e3f,e4f,e5]
   ·rw [if_neg e5]at h;by_cases e6:y<x_
    ·rw [if_pos e6]at h;cases h;simp only [↓AB,AC,↓reduceIte,Nat.reduceEqDiff,Nat.reduceLT,c1,c2,e3f,e4f,e5,e6]
    ·rw [if_neg e6]at h;cases h;simp only [↓AB,AC,↓reduceIte,Nat.reduceEqDiff,Nat.reduceLT,c1,c2,e3f,e4f,e5,e6]
noncomputable def Nq(s1_ s2_:List Int)(BS:Int):Option ((Int)⊕(Int⊕Unit)):= if BS<(s1_.length:Int)then ck (0≤BS∧BS.toNat<s1_.length)<| if(s2_.length:Int)≤BS then some (Sum.inr (Sum.inl 1)) else ck (0≤BS∧BS.toNat<s2_.length)<| (G5 (s1_.getD BS.toNat default) (s2_.getD BS.toNat default)).bind fun zM=> if zM=0 then some (Sum.inl (IntKind.i64.wrap (BS+1))) else some (Sum.inr (Sum.inl zM)) else some (Sum.inr (Sum.inr ()))
noncomputable def RA(s1_ s2_:List Int)(v:Int):Option (Int⊕Unit):=GQ (fun v=>Nq s1_ s2_ v) v
noncomputable def gCp(s1_ s2_:List Int):Option (Int):=
 (RA s1_ s2_ 0).bind fun JL=>
 match JL with
 | .inl q2_=>
  some q2_
 | .inr q2_=>
  if(s1_.length:Int)<(s2_.length:Int)then
   some (-1)
  else
   some 0
def dG:SC:= .seq (.ops [oB 12 .lss 3 (tK 11) (tK 10) 3 0]) (.seq (.cond (tK 12) .skip (.exit 0)) (.seq (.block 1 (.seq (.ops [oM 13 11 3,oI 14 27 9 11,oL 15 3 14 3,oA 5 13 3,oA 6 15 3]) (.seq (.seq (.ops [oM 16 5 3,oM 17 1 27,oN 18 17 27,oB 19 .geq 3 (tK 16) (tK 18) 3 4]) (.cond (tK 19) (.seq (.ops [oX 4 (.assign (iK 1)) 3]) .ret) .skip)) (.seq (.ops [oM 20 1 27,oM 21 5 3,oI 22 27 20 21,oL 23 3 22 3,oA 7 23 3]) (.seq (.ops [oM 24 6 3,oM 25 7 3,oC 26 96 [(tK 24),(tK 25)] [3,3] 3,oA 8 26 3]) (.seq (.ops [oM 27 8 3,oB 28 .neq 3 (tK 27) (iK 0) 3 4]) (.cond (tK 28) (.seq (.ops [oM 29 8 3,oA 4 29 3]) .ret) .skip))))))) (.ops [oB 30 .add 3 (tK 11) (iK 1) 3 3,oM 11 30 3])))
def xJ:SC:= .loop dG
def k64:SC:= .seq (.ops [oX 4 (.assign (iK 0)) 3]) (.seq (.seq (.ops [oM 9 0 27,oN 10 9 27,oX 11 (.move (iK 0)) 3]) (.block 0 xJ)) (.seq (.seq (.ops [oM 31 0 27,oN 32 31 27,oM 33 1 27,oN 34 33 27,oB 35 .lss 3 (tK 32) (tK 34) 3 4]) (.cond (tK 35) (.seq (.ops [oX 4 (.assign (.const (.int .i64 (-1)))) 3]) .ret) .skip)) (.seq (.ops [oX 4 (.assign (iK 0)) 3]) .ret)))
theorem A56:Tryz.f64.body.map (BP lends)=some k64:=by kernel_rfl
theorem AHP:Be Tryz.f64 2=true:=by kernel_rfl
theorem c64{a l:List D}{r:D×List D}(h:BZ Y.env k64 (Eh AX l.length [ResultVar.tmp 4] r) (entry a l))(ha:a.length=2):Y.call 64 a l=some r:=
 AJ (Y:=Y) rfl Tryz.func64 (ha▸AHP) A56 h
def Me(s1_ s2_:List Int)(BS:Int)(s:St):Prop:=s.v 0=D.sl 3 (A8 (D.int .i64) s1_)∧s.v 1=D.sl 3 (A8 (D.int .i64) s2_)∧s.v 9=D.sl 3 (A8 (D.int .i64) s1_)∧s.v 10=D.int .i64 (s1_.length:Int)∧s.v 11=D.int .i64 BS
def Nr(s1_ s2_:List Int)(r:Int⊕Unit)(ex:Ex)(s:St):Prop:=match r with
 | .inl q=>ex= .ret∧s.v 4=D.int .i64 q
 | .inr q=>ex= .exit 0∧s.v 0=D.sl 3 (A8 (D.int .i64) s1_)∧s.v 1=D.sl 3 (A8 (D.int .i64) s2_)
theorem sN(s1_ s2_:List Int){v:Int}{s:St}{r:Int⊕Unit}(h:RA s1_ s2_ v=some r)(hM:Me s1_ s2_ v s):BZ Y.env xJ (Nr s1_ s2_ r) s:=by
 unfold RA at h;refine Ao (c:=dG) (fun v=>Nq s1_ s2_ v) (fun v s=>Me s1_ s2_ v s) (Nr s1_ s2_) ?_ h hM;clear h hM s v r;intro BS s o hM h;unfold Nq at h;unfold Me at hM;obtain⟨m0,m1,m2,m3,m4⟩:=hM;unfold dG;by_cases e1:BS<(s1_.length:Int)
 ·rw [if_pos e1]at h;obtain⟨e2,h⟩:=Ar h;by_cases e3:(s2_.length:Int)≤BS
  ·rw [if_pos e3]at h;cases h;simp only [↓AB,AC,↓reduceIte,Nat.reduceEqDiff,Nat.reduceLT,m1,m2,m3,m4,e1,e2.1,e2.2,e3,Me,Nr,Sv]
  ·rw [if_neg e3]at h;obtain⟨e4,h⟩:=Ar h;obtain⟨zM,hl5,h⟩:=AO h;try dsimp only at h
   have c5:=QD (s1_.getD BS.toNat default) (s2_.getD BS.toNat default) hl5;by_cases e6:zM=0
   ·rw [if_pos e6]at h;cases h;simp only [↓AB,AC,↓reduceIte,Nat.reduceEqDiff,Nat.reduceLT,m0,m1,m2,m3,m4,e1,e2.1,e2.2,e3,e4.2,c5,decide_eq_true e6,Me,Ef]
   ·rw [if_neg e6]at h;cases h;simp only [↓AB,AC,↓reduceIte,Nat.reduceEqDiff,Nat.reduceLT,m1,m2,m3,m4,e1,e2.1,e2.2,e3,e4.2,c5,e6,Me,Nr,Sv]
 ·rw [if_neg e1]at h;cases h;simp only [↓AB,AC,↓reduceIte,Nat.reduceEqDiff,Nat.reduceLT,m0,m1,m3,m4,e1,Me,Nr,JK]
theorem jl(s1_ s2_:List Int){r:Int}(h:gCp s1_ s2_=some r):Y.call 64 [D.sl 3 (A8 (D.int .i64) s1_),D.sl 3 (A8 (D.int .i64) s2_)] []=some (D.int .i64 r,[]):=by
 refine c64 ?_ rfl;unfold k64;unfold gCp at h;obtain⟨JL,hl2,h⟩:=AO h;try dsimp only at h
 simp only [↓AB,AC,↓reduceIte,Nat.reduceEqDiff,Nat.reduceLT,Int.reduceNeg];refine AY (sN s1_ s2_ hl2 ?_) ?_
 ·simp only [BG,Co,↓reduceIte,Nat.reduceEqDiff,Nat.reduceLT,Me]
 ·intro ex2 s2 hX2;rcases JL with q2_ | q2_
  ·unfold Nr at hX2;dsimp only at hX2 h;obtain⟨rfl,n2_0⟩:=hX2;cases h;simp only [↓AB,AC,↓reduceIte,n2_0]
  ·unfold Nr at hX2;dsimp only at hX2 h;obtain⟨rfl,n2_0,n2_1⟩:=hX2;by_cases e3:(s1_.length:Int)<(s2_.length:Int)
   ·rw [if_pos e3]at h;cases h;simp only [↓AB,AC,↓reduceIte,Nat.reduceEqDiff,Nat.reduceLT,n2_0,n2_1,e3]
   ·rw [if_neg e3]at h;cases h;simp only [↓AB,AC,↓reduceIte,Nat.reduceEqDiff,Nat.reduceLT,n2_0,n2_1,e3]
theorem VC(x y:Int):G5 x y=some (if x<y then-1 else if y<x then 1 else 0):=by
 unfold G5 Ch;by_cases h1:x<y<;>by_cases h2:y<x<;>simp [h1,h2]
theorem ZK: ∀(a b p q:List Int),p.length=q.length→p.length+a.length<1099511627776→q.length+b.length<1099511627776→
  (RA (p++a) (q++b) (p.length:Int)).bind (fun r=>match r with | .inl q2=>some q2 | .inr _=>if((p++a).length:Int)<((q++b).length:Int)then some (-1)else some 0)=some (cmpL a b):=by
 intro a
 induction a with
 | nil=>
  intro b p q hpq ha hb;unfold RA;rw [FR (r:=Sum.inr ())]
  ·simp only [CO,Oj,Jq,hpq]
   cases b with
   | nil=>rw [if_neg (by simp)];rfl
   | cons y b=>rw [if_pos (by simp;omega)];rfl
  ·simp only [Nq];rw [if_neg (UB _)]
 | cons x a ih=>
  intro b p q hpq ha hb;simp only [Ik]at ha hb;have ex:(p++x::a).getD (p.length:Int).toNat default=x:=by rw [IA];exact DX p (x::a) p.length rfl (by simp)
  cases b with
  | nil=>
   unfold RA;rw [FR (r:=Sum.inl 1)]
   ·rfl
   ·simp only [Nq];rw [if_pos (T9 ..),Am (TA ..),if_pos (by simp;omega)]
  | cons y b=>
   simp only [Ik]at hb;have ey:(q++y::b).getD (p.length:Int).toNat default=y:=by rw [IA,hpq];exact DX q (y::b) q.length rfl (by simp)
   have step:Nq (p++x::a) (q++y::b) (p.length:Int)=if x=y then some (.inl (((p++[x]).length:Nat):Int))else some (.inr (.inl (if x<y then-1 else 1))):=by
    unfold Nq;rw [if_pos (T9 ..),Am (TA ..),if_neg (by simp;omega),Am (by simp;omega),ex,ey,VC,CO,IR _ (by omega)]
    by_cases h1:x=y
    ·subst h1;simp
    ·rw [if_neg h1];by_cases h2:x<y
     ·simp [h2]
     ·have h3:y<x:=by omega
      simp [h2,h3]
   unfold cmpL;by_cases h1:x=y
   ·rw [if_pos h1];rw [if_pos h1]at step;have:=ih b (p++[x]) (q++[y]) (by simp [hpq]) (by simp;omega) (by simp;omega)
    unfold RA at this ⊢;rw [MC step];simpa using this
   ·rw [if_neg h1];rw [if_neg h1]at step;unfold RA;rw [FR step];rfl
theorem xK(a b:List Int)(ha:a.length<1099511627776)(hb:b.length<1099511627776):gCp a b=some (cmpL a b):=by
 have:=ZK a b [] [] rfl (by simpa using ha) (by simpa using hb)
 unfold gCp;simp only [QV,Qe,Js]at this;exact this
theorem A57(s1_ s2_:List Int)(h0:s1_.length<1099511627776)(h1:s2_.length<1099511627776):Y.call 64 [D.sl 3 (A8 (D.int .i64) s1_),D.sl 3 (A8 (D.int .i64) s2_)] []=some (D.int .i64 (cmpL s1_ s2_),[]):=jl s1_ s2_ (xK s1_ s2_ h0 h1)
noncomputable def RB(n_:Int):Option (Int):= if 0<n_ then some 1 else if n_<0 then some (-1) else some 0
def k84:SC:= .seq (.ops [oX 2 (.assign (iK 0)) 3]) (.seq (.block 0 (.seq (.ops [oM 4 0 3,oB 5 .gtr 3 (tK 4) (iK 0) 3 4,oA 3 5 4]) (.cond (tK 3) (.seq (.ops [oX 2 (.assign (iK 1)) 3]) .ret) (.seq (.ops [oM 7 0 3,oB 8 .lss 3 (tK 7) (iK 0) 3 4,oA 6 8 4]) (.cond (tK 6) (.seq (.ops [oX 2 (.assign (.const (.int .i64 (-1)))) 3]) .ret) .skip))))) (.seq (.ops [oX 2 (.assign (iK 0)) 3]) .ret))
theorem A58:Tryz.f84.body.map (BP lends)=some k84:=by kernel_rfl
theorem AHR:Be Tryz.f84 1=true:=by kernel_rfl
theorem c84{a l:List D}{r:D×List D}(h:BZ Y.env k84 (Eh AX l.length [ResultVar.tmp 2] r) (entry a l))(ha:a.length=1):Y.call 84 a l=some r:=
 AJ (Y:=Y) rfl Tryz.func84 (ha▸AHR) A58 h
theorem ZL(n_:Int){r:Int}(h:RB n_=some r):Y.call 84 [D.int .i64 n_] []=some (D.int .i64 r,[]):=by
 refine c84 ?_ rfl;unfold k84;unfold RB at h;by_cases e1:0<n_
 ·rw [if_pos e1]at h;cases h;simp only [↓AB,AC,↓reduceIte,Nat.reduceEqDiff,Nat.reduceLT,e1]
 ·rw [if_neg e1]at h;by_cases e2:n_<0
  ·rw [if_pos e2]at h;cases h;simp only [↓AB,AC,↓reduceIte,Nat.reduceEqDiff,Nat.reduceLT,e1,e2]
  ·rw [if_neg e2]at h;cases h;simp only [↓AB,AC,↓reduceIte,Nat.reduceEqDiff,Nat.reduceLT,e1,e2]
noncomputable def Gp(a b:List Int)(N7:Int):Option ((Int)⊕(Int⊕Unit)):= if N7<(a.length:Int)then ck (0≤N7∧N7.toNat<a.length)<| ck (0≤N7∧N7.toNat<b.length)<| if(a.getD N7.toNat default)=(b.getD N7.toNat default)then some (Sum.inl (IntKind.i64.wrap (N7+1))) else (RB (IntKind.i64.wrap ((a.getD N7.toNat default)-(b.getD N7.toNat default)))).bind fun zM=> some (Sum.inr (Sum.inl zM)) else some (Sum.inr (Sum.inr ()))
noncomputable def Hu(a b:List Int)(v:Int):Option (Int⊕Unit):=GQ (fun v=>Gp a b v) v
noncomputable def Ro(a b:List Int):Option (Int):=
 (Hu a b 0).bind fun JL=>
 match JL with
 | .inl q2_=>
  some q2_
 | .inr q2_=>
  some 0
def dH:SC:= .seq (.ops [oB 10 .lss 3 (tK 9) (tK 8) 3 0]) (.seq (.cond (tK 10) .skip (.exit 0)) (.seq (.block 1 (.seq (.ops [oM 11 9 3,oI 12 27 7 9,oL 13 3 12 3,oA 5 11 3,oA 6 13 3]) (.seq (.ops [oM 14 6 3,oM 15 1 27,oM 16 5 3,oI 17 27 15 16,oL 18 3 17 3,oB 19 .neq 3 (tK 14) (tK 18) 3 4]) (.cond (tK 19) (.seq (.ops [oM 20 6 3,oM 21 1 27,oM 22 5 3,oI 23 27 21 22,oL 24 3 23 3,oB 25 .sub 3 (tK 20) (tK 24) 3 3,oC 26 84 [(tK 25)] [3] 3,oA 4 26 3]) .ret) .skip)))) (.ops [oB 27 .add 3 (tK 9) (iK 1) 3 3,oM 9 27 3])))
def xL:SC:= .loop dH
def k55:SC:= .seq (.ops [oX 4 (.assign (iK 0)) 3]) (.seq (.seq (.ops [oM 7 0 27,oN 8 7 27,oX 9 (.move (iK 0)) 3]) (.block 0 xL)) (.seq (.ops [oX 4 (.assign (iK 0)) 3]) .ret))
theorem A59:Tryz.f55.body.map (BP lends)=some k55:=by kernel_rfl
theorem AHT:Be Tryz.f55 2=true:=by kernel_rfl
theorem c55{a l:List D}{r:D×List D}(h:BZ Y.env k55 (Eh AX l.length [ResultVar.tmp 4] r) (entry a l))(ha:a.length=2):Y.call 55 a l=some r:=
 AJ (Y:=Y) rfl Tryz.func55 (ha▸AHT) A59 h
def FO(a b:List Int)(N7:Int)(s:St):Prop:=s.v 1=D.sl 3 (A8 (D.int .i64) b)∧s.v 7=D.sl 3 (A8 (D.int .i64) a)∧s.v 8=D.int .i64 (a.length:Int)∧s.v 9=D.int .i64 N7
def Gq(a b:List Int)(r:Int⊕Unit)(ex:Ex)(s:St):Prop:=match r with
 | .inl q=>ex= .ret∧s.v 4=D.int .i64 q
 | .inr q=>ex= .exit 0
theorem WM(a b:List Int){v:Int}{s:St}{r:Int⊕Unit}(h:Hu a b v=some r)(hM:FO a b v s):BZ Y.env xL (Gq a b r) s:=by
 unfold Hu at h;refine Ao (c:=dH) (fun v=>Gp a b v) (fun v s=>FO a b v s) (Gq a b) ?_ h hM;clear h hM s v r;intro N7 s o hM h;unfold Gp at h;unfold FO at hM;obtain⟨m0,m1,m2,m3⟩:=hM;unfold dH;by_cases e1:N7<(a.length:Int)
 ·rw [if_pos e1]at h;obtain⟨e2,h⟩:=Ar h;obtain⟨e3,h⟩:=Ar h;by_cases e4:(a.getD N7.toNat default)=(b.getD N7.toNat default)
  ·rw [if_pos e4]at h;cases h;simp only [↓AB,AC,↓reduceIte,Nat.reduceEqDiff,Nat.reduceLT,m0,m1,m2,m3,e1,e2.1,e2.2,e3.2,decide_eq_true e4,FO,Ef]
  ·rw [if_neg e4]at h;obtain⟨zM,hl5,h⟩:=AO h;try dsimp only at h
   have c5:=ZL (IntKind.i64.wrap ((a.getD N7.toNat default)-(b.getD N7.toNat default))) hl5;cases h;simp only [↓AB,AC,↓reduceIte,Nat.reduceEqDiff,Nat.reduceLT,m0,m1,m2,m3,e1,e2.1,e2.2,e3.2,e4,c5,FO,Gq,Sv]
 ·rw [if_neg e1]at h;cases h;simp only [↓AB,AC,↓reduceIte,Nat.reduceLT,m2,m3,e1,FO,Gq,JK]
theorem Y7(a b:List Int){r:Int}(h:Ro a b=some r):Y.call 55 [D.sl 3 (A8 (D.int .i64) a),D.sl 3 (A8 (D.int .i64) b)] []=some (D.int .i64 r,[]):=by
 refine c55 ?_ rfl;unfold k55;unfold Ro at h;obtain⟨JL,hl2,h⟩:=AO h;try dsimp only at h
 simp only [↓AB,AC,↓reduceIte,Nat.reduceEqDiff,Nat.reduceLT];refine AY (WM a b hl2 ?_) ?_
 ·simp only [BG,Co,↓reduceIte,Nat.reduceEqDiff,Nat.reduceLT,FO]
 ·intro ex2 s2 hX2;rcases JL with q2_ | q2_
  ·unfold Gq at hX2;dsimp only at hX2 h;obtain⟨rfl,n2_0⟩:=hX2;cases h;simp only [↓AB,AC,↓reduceIte,n2_0]
  ·unfold Gq at hX2;dsimp only at hX2 h
   obtain rfl:=hX2
   cases h;simp only [↓AB,AC,↓reduceIte,Nat.reduceEqDiff,Nat.reduceLT]
def Hw(l:List Int):Bool:=Md l (-1099511627776) 1099511627776
theorem Y8{l:List Int}(h:Hw l=true){x:Int}(hx:x∈l): -1099511627776≤x∧x≤1099511627776:=by
 have:=Iw.1 h x hx;exact MI.1 this
theorem Zx{l:List Int}{lo hi:Int}(h:Md l lo hi=true)(h1: -1099511627776≤lo)(h2:hi≤1099511627776):Hw l=true:=by
 refine Iw.2 fun x hx=> ?_;have:=MI.1 (Iw.1 h x hx)
 exact MI.2 ⟨by omega,by omega⟩
theorem jm(n:Int):RB n=some (if n<0 then-1 else if 0<n then 1 else 0):=by
 unfold RB;by_cases h1:n<0<;>by_cases h2:0<n<;>simp [h1,h2]<;>omega
theorem jo: ∀(a b p q:List Int),p.length=q.length→a.length=b.length→p.length+a.length<1099511627776→Hw a=true→Hw b=true→
  (Hu (p++a) (q++b) (p.length:Int)).bind (fun r=>match r with | .inl q2=>some q2 | .inr _=>some 0)=some (cmpL a b):=by
 intro a
 induction a with
 | nil=>
  intro b p q hpq hab ha h1 h2;have:b=[]:=by cases b with | nil=>rfl | cons _ _=>simp at hab
  subst this;unfold Hu;rw [FR (r:=Sum.inr ())]
  ·rfl
  ·simp only [Gp];rw [if_neg (UB _)]
 | cons x a ih=>
  intro b p q hpq hab ha h1 h2
  cases b with
  | nil=>simp at hab
  | cons y b=>
   simp only [Ik]at ha hab;have sx1:=Y8 h1 (Iu ..);have sy1:=Y8 h2 (Iu ..);have ex:(p++x::a).getD (p.length:Int).toNat default=x:=by rw [IA];exact DX p (x::a) p.length rfl (by simp)
   have ey:(q++y::b).getD (p.length:Int).toNat default=y:=by rw [IA,hpq];exact DX q (y::b) q.length rfl (by simp)
   have step:Gp (p++x::a) (q++y::b) (p.length:Int)=if x=y then some (.inl (((p++[x]).length:Nat):Int))else some (.inr (.inl (if x<y then-1 else 1))):=by
    unfold Gp;rw [if_pos (T9 ..),Am (TA ..),Am (by simp;omega),ex,ey,IR _ (by omega),Dw _ (by omega),jm,CO]
    by_cases h1:x=y
    ·subst h1;simp
    ·rw [if_neg h1,if_neg h1];by_cases h2:x<y
     ·rw [if_pos (by omega),if_pos h2]
     ·rw [if_neg (by omega),if_pos (by omega),if_neg h2]
   have s1:Hw a=true:=Iw.2 fun z hz=>Iw.1 h1 z (Jp _ hz);have s2:Hw b=true:=Iw.2 fun z hz=>Iw.1 h2 z (Jp _ hz);unfold cmpL;by_cases h1:x=y
   ·rw [if_pos h1];rw [if_pos h1]at step;have:=ih b (p++[x]) (q++[y]) (by simp [hpq]) (by omega) (by simp;omega) s1 s2
    unfold Hu at this ⊢;rw [MC step];simpa using this
   ·rw [if_neg h1];rw [if_neg h1]at step;unfold Hu;rw [FR step];rfl
theorem dI(a b:List Int)(ha:a.length<1099511627776)(hab:a.length=b.length)(h1:Hw a=true)(h2:Hw b=true):Ro a b=some (cmpL a b):=by
 have:=jo a b [] [] rfl hab (by simpa using ha) h1 h2
 unfold Ro;simp only [QV,Qe,Js]at this;exact this
theorem UI(a b:List Int)(h0:a.length<1099511627776)(h1:a.length=b.length)(h2:Hw a=true)(h3:Hw b=true):Y.call 55 [D.sl 3 (A8 (D.int .i64) a),D.sl 3 (A8 (D.int .i64) b)] []=some (D.int .i64 (cmpL a b),[]):=Y7 a b (dI a b h0 h1 h2 h3)
def QE(l:List (List Int))(size labels:Int)(i:Nat):Bool:=
 ((decide (((l.getD i default).length:Int)=size)&&Ht (l.getD i default))&&Md (l.getD i default) 0 (labels-1))&&(decide (i=0)||decide (cmpL (l.getD (i-1) default) (l.getD i default)<0))
def KC(l:List (List Int))(size labels:Int):Bool:=(List.range l.length).all (QE l size labels)
def Kc(labels degree:Int)(ns es:List (List Int)):Bool:=((MH labels 1 8&&MH degree 1 4)&&KC ns degree labels)&&KC es 2 labels
theorem Ak.getD{l:List (List Int)}(h:Ak l)(i:Nat):(l.getD i default).length<1099511627776:=by
 rcases Nat.lt_or_ge i l.length with hi | hi
 ·rw [AV _ _ hi];exact h.at i hi
 ·rw [Kw,List.getElem?_eq_none hi];decide
noncomputable def PZ(list:List (List Int))(size labels BS:Int):Option ((Int)⊕(Unit⊕Unit)):= if BS<(list.length:Int)then ck (0≤BS∧BS.toNat<list.length)<| if((list.getD BS.toNat default).length:Int)=size then ck ((list.getD BS.toNat default).length<1099511627776)<| if(Ht (list.getD BS.toNat default))=true then if(Md (list.getD BS.toNat default) (0:Int) (IntKind.i64.wrap (labels-1)))=true then if 0<BS then ck (0≤IntKind.i64.wrap (BS-1)∧(IntKind.i64.wrap (BS-1)).toNat<list.length)<| ck ((list.getD ((IntKind.i64.wrap (BS-1)).toNat) default).length<1099511627776)<| if 0≤(cmpL (list.getD ((IntKind.i64.wrap (BS-1)).toNat) default) (list.getD BS.toNat default))then some (Sum.inr (Sum.inl ())) else some (Sum.inl (IntKind.i64.wrap (BS+1))) else some (Sum.inl (IntKind.i64.wrap (BS+1))) else some (Sum.inr (Sum.inl ())) else some (Sum.inr (Sum.inl ())) else some (Sum.inr (Sum.inl ())) else some (Sum.inr (Sum.inr ()))
noncomputable def dJ(list:List (List Int))(size labels v:Int):Option (Unit⊕Unit):=GQ (fun v=>PZ list size labels v) v
noncomputable def iCO(list:List (List Int))(size labels:Int):Option (Bool):=
 (dJ list size labels 0).bind fun JL=>
 match JL with
 | .inl q2_=>
  some false
 | .inr q2_=>
  some true
def dK:SC:= .seq (.ops [oB 12 .lss 3 (tK 11) (tK 10) 3 0]) (.seq (.cond (tK 12) .skip (.exit 0)) (.seq (.block 1 (.seq (.ops [oM 13 11 3,oI 14 22 9 11,oL 15 27 14 27,oA 7 13 3,oA 8 15 27]) (.seq (.ops [oM 16 8 27,oN 17 16 27,oM 18 1 3,oB 19 .neq 3 (tK 17) (tK 18) 3 4,oM 20 19 4,⟨some 21,.move (tK 8),27,(some (some 20,false))⟩,⟨some 22,.call ⟨(.value (.func 62)), #[(tK 21)], #[27]⟩,4,(some (some 20,false))⟩,⟨some 23,.unOp .not 4 (tK 22),4,(some (some 20,false))⟩,oX 24 (.pick (tK 20) (.const (.bool true)) (tK 23)) 4,oM 25 24 4,⟨some 26,.move (tK 8),27,(some (some 25,false))⟩,⟨some 27,.move (tK 2),3,(some (some 25,false))⟩,⟨some 28,.binOp .sub 3 (tK 27) (iK 1) 3,3,(some (some 25,false))⟩,⟨some 29,.call ⟨(.value (.func 63)), #[(tK 26),(iK 0),(tK 28)], #[27,3,3]⟩,4,(some (some 25,false))⟩,⟨some 30,.unOp .not 4 (tK 29),4,(some (some 25,false))⟩,oX 31 (.pick (tK 25) (.const (.bool true)) (tK 30)) 4,oM 32 31 4,⟨some 33,.move (tK 7),3,(some (some 32,false))⟩,⟨some 34,.binOp .gtr 3 (tK 33) (iK 0) 3,4,(some (some 32,false))⟩,⟨some 35,.move (tK 34),4,(some (some 32,false))⟩,⟨some 36,.move (tK 0),22,(some (some 35,true))⟩,⟨some 37,.move (tK 7),3,(some (some 35,true))⟩,
 ⟨some 38,.binOp .sub 3 (tK 37) (iK 1) 3,3,(some (some 35,true))⟩,⟨some 39,.indexAddr 22 (tK 36) (tK 38),0,(some (some 35,true))⟩,⟨some 40,.load 27 (tK 39),27,(some (some 35,true))⟩,⟨some 41,.move (tK 8),27,(some (some 35,true))⟩,⟨some 42,.call ⟨(.value (.func 64)), #[(tK 40),(tK 41)], #[27,27]⟩,3,(some (some 35,true))⟩,⟨some 43,.binOp .geq 3 (tK 42) (iK 0) 3,4,(some (some 35,true))⟩,⟨some 44,.pick (tK 35) (tK 43) (.const (.bool false)),4,(some (some 32,false))⟩,oX 45 (.pick (tK 32) (.const (.bool true)) (tK 44)) 4]) (.cond (tK 45) (.seq (.ops [oX 6 (.assign (.const (.bool false))) 4]) .ret) .skip)))) (.ops [oB 46 .add 3 (tK 11) (iK 1) 3 3,oM 11 46 3])))
def xM:SC:= .loop dK
def k39:SC:= .seq (.ops [oX 6 (.assign (.const (.bool false))) 4]) (.seq (.seq (.ops [oM 9 0 22,oN 10 9 22,oX 11 (.move (iK 0)) 3]) (.block 0 xM)) (.seq (.ops [oX 6 (.assign (.const (.bool true))) 4]) .ret))
theorem A5A:Tryz.f39.body.map (BP lends)=some k39:=by kernel_rfl
theorem AHV:Be Tryz.f39 3=true:=by kernel_rfl
theorem c39{a l:List D}{r:D×List D}(h:BZ Y.env k39 (Eh AX l.length [ResultVar.tmp 6] r) (entry a l))(ha:a.length=3):Y.call 39 a l=some r:=
 AJ (Y:=Y) rfl Tryz.func39 (ha▸AHV) A5A h
def J8(list:List (List Int))(size labels BS:Int)(s:St):Prop:=s.v 0=D.sl 27 (A8 (fun x=>D.sl 3 (A8 (D.int .i64) x)) list)∧s.v 1=D.int .i64 size∧s.v 2=D.int .i64 labels∧s.v 9=D.sl 27 (A8 (fun x=>D.sl 3 (A8 (D.int .i64) x)) list)∧s.v 10=D.int .i64 (list.length:Int)∧s.v 11=D.int .i64 BS
def LG(list:List (List Int))(size labels:Int)(r:Unit⊕Unit)(ex:Ex)(s:St):Prop:=match r with
 | .inl q=>ex= .ret∧s.v 6=D.bool false
 | .inr q=>ex= .exit 0
theorem sO(list:List (List Int))(size labels:Int){v:Int}{s:St}{r:Unit⊕Unit}(h:dJ list size labels v=some r)(hM:J8 list size labels v s):BZ Y.env xM (LG list size labels r) s:=by
 unfold dJ at h;refine Ao (c:=dK) (fun v=>PZ list size labels v) (fun v s=>J8 list size labels v s) (LG list size labels) ?_ h hM;clear h hM s v r;intro BS s o hM h;unfold PZ at h;unfold J8 at hM;obtain⟨m0,m1,m2,m3,m4,m5⟩:=hM;unfold dK;by_cases e1:BS<(list.length:Int)
 ·rw [if_pos e1]at h;obtain⟨e2,h⟩:=Ar h;by_cases e3:((list.getD BS.toNat default).length:Int)=size
  ·rw [if_pos e3]at h;obtain⟨e4,h⟩:=Ar h;have c5:=A53 (list.getD BS.toNat default) e4;by_cases e6:(Ht (list.getD BS.toNat default))=true
   ·rw [if_pos e6]at h;have c7:=Y6 (list.getD BS.toNat default) (0:Int) (IntKind.i64.wrap (labels-1)) e4;by_cases e8:(Md (list.getD BS.toNat default) (0:Int) (IntKind.i64.wrap (labels-1)))=true
    ·rw [if_pos e8]at h;by_cases e9:0<BS
     ·rw [if_pos e9]at h;obtain⟨e10,h⟩:=Ar h;obtain⟨e11,h⟩:=Ar h;have c12:=A57 (list.getD ((IntKind.i64.wrap (BS-1)).toNat) default) (list.getD BS.toNat default) e11 e4;by_cases e13:0≤(cmpL (list.getD ((IntKind.i64.wrap (BS-1)).toNat) default) (list.getD BS.toNat default))
      ·rw [if_pos e13]at h;cases h;simp only [↓AB,AC,↓reduceIte,Nat.reduceEqDiff,Nat.reduceLT,m0,m1,m2,m3,m4,m5,e1,e2.1,e2.2,decide_eq_true e3,c5,e6,c7,e8,e9,e10.1,e10.2,c12,e13,J8,LG,Sv]
      ·rw [if_neg e13]at h;cases h;simp only [↓AB,AC,↓reduceIte,Nat.reduceEqDiff,Nat.reduceLT,m0,m1,m2,m3,m4,m5,e1,e2.1,e2.2,decide_eq_true e3,c5,e6,c7,e8,e9,e10.1,e10.2,c12,e13,J8,Ef]
     ·rw [if_neg e9]at h;cases h;simp only [↓AB,AC,↓reduceIte,Nat.reduceEqDiff,Nat.reduceLT,m0,m1,m2,m3,m4,m5,e1,e2.1,e2.2,decide_eq_true e3,c5,e6,c7,e8,e9,J8,Ef]
    ·rw [if_neg e8]at h;have e8f:(Md (list.getD BS.toNat default) (0:Int) (IntKind.i64.wrap (labels-1)))=false:=J2.mpr e8;cases h;simp only [↓AB,AC,↓reduceIte,Nat.reduceEqDiff,Nat.reduceLT,m1,m2,m3,m4,m5,e1,e2.1,e2.2,decide_eq_true e3,c5,e6,c7,e8f,J8,LG,Sv]
   ·rw [if_neg e6]at h;have e6f:(Ht (list.getD BS.toNat default))=false:=J2.mpr e6;cases h;simp only [↓AB,AC,↓reduceIte,Nat.reduceEqDiff,Nat.reduceLT,m1,m3,m4,m5,e1,e2.1,e2.2,decide_eq_true e3,c5,e6f,J8,LG,Sv]
  ·rw [if_neg e3]at h;cases h;simp only [↓AB,AC,↓reduceIte,Nat.reduceEqDiff,Nat.reduceLT,m1,m3,m4,m5,e1,e2.1,e2.2,e3,J8,LG,Sv]
 ·rw [if_neg e1]at h;cases h;simp only [↓AB,AC,↓reduceIte,Nat.reduceLT,m4,m5,e1,J8,LG,JK]
theorem xN(list:List (List Int))(size labels:Int){r:Bool}(h:iCO list size labels=some r):Y.call 39 [D.sl 27 (A8 (fun x=>D.sl 3 (A8 (D.int .i64) x)) list),D.int .i64 size,D.int .i64 labels] []=some (D.bool r,[]):=by
 refine c39 ?_ rfl;unfold k39;unfold iCO at h;obtain⟨JL,hl2,h⟩:=AO h;try dsimp only at h
 simp only [↓AB,AC,↓reduceIte,Nat.reduceEqDiff,Nat.reduceLT];refine AY (sO list size labels hl2 ?_) ?_
 ·simp only [BG,Co,↓reduceIte,Nat.reduceEqDiff,Nat.reduceLT,J8]
 ·intro ex2 s2 hX2;rcases JL with q2_ | q2_
  ·unfold LG at hX2;dsimp only at hX2 h;obtain⟨rfl,n2_0⟩:=hX2;cases h;simp only [↓AB,AC,↓reduceIte,n2_0]
  ·unfold LG at hX2;dsimp only at hX2 h
   obtain rfl:=hX2
   cases h;simp only [↓AB,AC,↓reduceIte,Nat.reduceEqDiff,Nat.reduceLT]
theorem A5B(l:List (List Int))(size labels:Int)(h:Ak l)(hl:1≤labels∧labels≤8):iCO l size labels=some (KC l size labels):=by
 have h1:=h.1;unfold iCO dJ;have key:=OM (fun v=>PZ l size labels v) (fun i=>(i:Int)) l.length (QE l size labels) (.inl ()) (.inr ()) ?_ ?_
 ·simp only [Js]at key;rw [key];unfold KC
  cases (List.range l.length).all (QE l size labels)<;>rfl
 ·intro i hi;simp only [PZ];rw [if_pos (Bi hi),Am (Ho hi),IA,IR i (by omega),Dw (labels-1) (by omega)]
  have hs:=h.getD i;have hs1:=h.getD (i-1);rw [Am hs];unfold QE;generalize l.getD i default=x at*;by_cases q1:(x.length:Int)=size
  ·rw [if_pos q1]
   cases q2:Ht x with
   | false=>simp
   | true=>
    rw [if_pos rfl]
    cases q3:Md x 0 (labels-1)with
    | false=>simp
    | true=>
     rw [if_pos rfl];by_cases q4:i=0
     ·simp [q1,q4]
     ·rw [if_pos (by omega),Dw _ (by omega),Am (by omega),show((i:Int)-1).toNat=i-1 by omega,Am hs1]
      generalize l.getD (i-1) default=y at*;by_cases q5:0≤cmpL y x
      ·rw [if_pos q5,if_neg (by simp;intro _;exact⟨q4,q5⟩)]
      ·rw [if_neg q5,if_pos (by simp [q1,q4];omega)]
  ·have e:=decide_eq_false q1;rw [if_neg q1,if_neg (by rw [e];simp)]
 ·simp only [PZ];rw [if_neg (Af _)]
theorem xO(list:List (List Int))(size labels:Int)(h0:Ak list)(h1:1≤labels∧labels≤8):Y.call 39 [D.sl 27 (A8 (fun x=>D.sl 3 (A8 (D.int .i64) x)) list),D.int .i64 size,D.int .i64 labels] []=some (D.bool (KC list size labels),[]):=xN list size labels (A5B list size labels h0 h1)
noncomputable def Nt(l:List (List Int))(size labels Bq k:Int):Option ((Int)⊕(Unit⊕Unit)):= if k<size then ck (0≤IntKind.i64.wrap (k-1)∧(IntKind.i64.wrap (k-1)).toNat<(l.getD Bq.toNat default).length)<| ck (0≤k∧k.toNat<(l.getD Bq.toNat default).length)<| if((l.getD Bq.toNat default).getD k.toNat default)<((l.getD Bq.toNat default).getD ((IntKind.i64.wrap (k-1)).toNat) default)then some (Sum.inr (Sum.inl ())) else some (Sum.inl (IntKind.i64.wrap (k+1))) else some (Sum.inr (Sum.inr ()))
noncomputable def VD(l:List (List Int))(size labels Bq v:Int):Option (Unit⊕Unit):=GQ (fun v=>Nt l size labels Bq v) v
noncomputable def Pb(l:List (List Int))(size labels Bq:Int):Option ((Int)⊕(Unit⊕Unit)):=
 if Bq<(l.length:Int)then
  ck (0≤Bq∧Bq.toNat<l.length)<|
  if((l.getD Bq.toNat default).length:Int)=size then
   ck ((l.getD Bq.toNat default).length<1099511627776)<|
   if(Md (l.getD Bq.toNat default) (0:Int) (IntKind.i64.wrap (labels-1)))=true then
    if 0<Bq then
     ck (0≤IntKind.i64.wrap (Bq-1)∧(IntKind.i64.wrap (Bq-1)).toNat<l.length)<|
     ck ((l.getD ((IntKind.i64.wrap (Bq-1)).toNat) default).length<1099511627776)<|
     ck ((l.getD ((IntKind.i64.wrap (Bq-1)).toNat) default).length=(l.getD Bq.toNat default).length)<|
     ck (Hw (l.getD ((IntKind.i64.wrap (Bq-1)).toNat) default)=true)<|
     ck (Hw (l.getD Bq.toNat default)=true)<|
     if 0≤(cmpL (l.getD ((IntKind.i64.wrap (Bq-1)).toNat) default) (l.getD Bq.toNat default))then
      some (Sum.inr (Sum.inl ()))
     else
      (VD l size labels Bq 1).bind fun Y9=>
      match Y9 with
      | .inl q16_=>
       some (Sum.inr (Sum.inl ()))
      | .inr q16_=>
       some (Sum.inl (IntKind.i64.wrap (Bq+1)))
    else
     (VD l size labels Bq 1).bind fun r9_=>
     match r9_ with
     | .inl q9_=>
      some (Sum.inr (Sum.inl ()))
     | .inr q9_=>
      some (Sum.inl (IntKind.i64.wrap (Bq+1)))
   else
    some (Sum.inr (Sum.inl ()))
  else
   some (Sum.inr (Sum.inl ()))
 else
  some (Sum.inr (Sum.inr ()))
noncomputable def dL(l:List (List Int))(size labels v:Int):Option (Unit⊕Unit):=GQ (fun v=>Pb l size labels v) v
noncomputable def sPL(l:List (List Int))(size labels:Int):Option (Bool):=
 (dL l size labels 0).bind fun JL=>
 match JL with
 | .inl q2_=>
  some false
 | .inr q2_=>
  some true
def dM:SC:= .seq (.seq (.ops [oM 42 9 3,oM 43 1 3,oB 44 .lss 3 (tK 42) (tK 43) 3 4]) (.cond (tK 44) .skip (.exit 2))) (.seq (.block 3 (.seq (.draws [(⟨[47,8,8],[47,48,49,50,51,52,53,54,55,56],[47]⟩,oM 47 8 27),(⟨[48,9,9],[47,48,49,50,51,52,53,54,55,56],[48]⟩,oM 48 9 3),(⟨[49,48,9],[47,48,49,50,51,52,53,54,55,56],[49]⟩,oB 49 .sub 3 (tK 48) (iK 1) 3 3),(⟨[50,47,49,8,49],[47,48,49,50,51,52,53,54,55,56],[50]⟩,oI 50 27 47 49),(⟨[51,50,8],[47,48,49,50,51,52,53,54,55,56],[51]⟩,oL 51 3 50 3),(⟨[52,8,8],[47,48,49,50,51,52,53,54,55,56],[52]⟩,oM 52 8 27),(⟨[53,9,9],[47,48,49,50,51,52,53,54,55,56],[53]⟩,oM 53 9 3),(⟨[54,52,53,8,9],[47,48,49,50,51,52,53,54,55,56],[54]⟩,oI 54 27 52 53),(⟨[55,54,8],[47,48,49,50,51,52,53,54,55,56],[55]⟩,oL 55 3 54 3),(⟨[56,51,55,8,8],[47,48,49,50,51,52,53,54,55,56],[56]⟩,oB 56 .gtr 3 (tK 51) (tK 55) 3 4)]) (.cond (tK 56) (.seq (.ops [oX 6 (.assign (.const (.bool false))) 4]) .ret) .skip))) (.ops [oM 45 9 3,oB 46 .add 3 (tK 45) (iK 1) 3 3,oA 9 46 3]))
def xP:SC:= .loop dM
def dN:SC:= .seq (.ops [oB 13 .lss 3 (tK 12) (tK 11) 3 0]) (.seq (.cond (tK 13) .skip (.exit 0)) (.seq (.block 1 (.seq (.ops [oM 14 12 3,oI 15 22 10 12,oL 16 27 15 27,oA 7 14 3,oA 8 16 27]) (.seq (.seq (.ops [oM 17 8 27,oN 18 17 27,oM 19 1 3,oB 20 .neq 3 (tK 18) (tK 19) 3 4,oM 21 20 4,⟨some 22,.move (tK 8),27,(some (some 21,false))⟩,⟨some 23,.move (tK 2),3,(some (some 21,false))⟩,⟨some 24,.binOp .sub 3 (tK 23) (iK 1) 3,3,(some (some 21,false))⟩,⟨some 25,.call ⟨(.value (.func 54)), #[(tK 22),(iK 0),(tK 24)], #[27,3,3]⟩,4,(some (some 21,false))⟩,⟨some 26,.unOp .not 4 (tK 25),4,(some (some 21,false))⟩,oX 27 (.pick (tK 21) (.const (.bool true)) (tK 26)) 4,oM 28 27 4,⟨some 29,.move (tK 7),3,(some (some 28,false))⟩,⟨some 30,.binOp .gtr 3 (tK 29) (iK 0) 3,4,(some (some 28,false))⟩,⟨some 31,.move (tK 30),4,(some (some 28,false))⟩,⟨some 32,.move (tK 0),22,(some (some 31,true))⟩,⟨some 33,.move (tK 7),3,(some (some 31,true))⟩,⟨some 34,.binOp .sub 3 (tK 33) (iK 1) 3,3,(some (some 31,true))⟩,⟨some 35,.indexAddr 22 (tK 32) (tK 34),0,(some (some 31,true))⟩,⟨some 36,.load 27 (tK 35),27,(some (some 31,true))⟩,⟨some 37,.move (tK 8),27,(some (some 31,true))⟩,⟨some 38,.call ⟨(.value (.func 55)), #[(tK 36),(tK 37)], #[27,27]⟩,3,(some (some 31,true))⟩,
 ⟨some 39,.binOp .geq 3 (tK 38) (iK 0) 3,4,(some (some 31,true))⟩,⟨some 40,.pick (tK 31) (tK 39) (.const (.bool false)),4,(some (some 28,false))⟩,oX 41 (.pick (tK 28) (.const (.bool true)) (tK 40)) 4]) (.cond (tK 41) (.seq (.ops [oX 6 (.assign (.const (.bool false))) 4]) .ret) .skip)) (.seq (.ops [oX 9 (.assign (iK 1)) 3]) (.block 2 xP))))) (.ops [oB 57 .add 3 (tK 12) (iK 1) 3 3,oM 12 57 3])))
def xQ:SC:= .loop dN
def k34:SC:= .seq (.ops [oX 6 (.assign (.const (.bool false))) 4]) (.seq (.seq (.ops [oM 10 0 22,oN 11 10 22,oX 12 (.move (iK 0)) 3]) (.block 0 xQ)) (.seq (.ops [oX 6 (.assign (.const (.bool true))) 4]) .ret))
theorem A5D:Tryz.f34.body.map (BP lends)=some k34:=by kernel_rfl
theorem AHY:Be Tryz.f34 3=true:=by kernel_rfl
theorem c34{a l:List D}{r:D×List D}(h:BZ Y.env k34 (Eh AX l.length [ResultVar.tmp 6] r) (entry a l))(ha:a.length=3):Y.call 34 a l=some r:=
 AJ (Y:=Y) rfl Tryz.func34 (ha▸AHY) A5D h
def Mf(l:List (List Int))(size labels Bq k:Int)(s:St):Prop:=s.v 0=D.sl 27 (A8 (fun x=>D.sl 3 (A8 (D.int .i64) x)) l)∧s.v 1=D.int .i64 size∧s.v 2=D.int .i64 labels∧s.v 8=D.sl 3 (A8 (D.int .i64) (l.getD Bq.toNat default))∧s.v 9=D.int .i64 k∧s.v 10=D.sl 27 (A8 (fun x=>D.sl 3 (A8 (D.int .i64) x)) l)∧s.v 11=D.int .i64 (l.length:Int)∧s.v 12=D.int .i64 Bq
def Mg(l:List (List Int))(size labels Bq:Int)(r:Unit⊕Unit)(ex:Ex)(s:St):Prop:=match r with
 | .inl q=>ex= .ret∧s.v 6=D.bool false
 | .inr q=>ex= .exit 2∧s.v 0=D.sl 27 (A8 (fun x=>D.sl 3 (A8 (D.int .i64) x)) l)∧s.v 1=D.int .i64 size∧s.v 2=D.int .i64 labels∧s.v 10=D.sl 27 (A8 (fun x=>D.sl 3 (A8 (D.int .i64) x)) l)∧s.v 11=D.int .i64 (l.length:Int)∧s.v 12=D.int .i64 Bq
theorem Zy(l:List (List Int))(size labels Bq:Int){v:Int}{s:St}{r:Unit⊕Unit}(h:VD l size labels Bq v=some r)(hM:Mf l size labels Bq v s):BZ Y.env xP (Mg l size labels Bq r) s:=by
 unfold VD at h;refine Ao (c:=dM) (fun v=>Nt l size labels Bq v) (fun v s=>Mf l size labels Bq v s) (Mg l size labels Bq) ?_ h hM;clear h hM s v r;intro k s o hM h;unfold Nt at h;unfold Mf at hM;obtain⟨m0,m1,m2,m3,m4,m5,m6,m7⟩:=hM;unfold dM;by_cases e15:k<size
 ·rw [if_pos e15]at h;obtain⟨e16,h⟩:=Ar h;obtain⟨e17,h⟩:=Ar h;by_cases e18:((l.getD Bq.toNat default).getD k.toNat default)<((l.getD Bq.toNat default).getD ((IntKind.i64.wrap (k-1)).toNat) default)
  ·rw [if_pos e18]at h;cases h;simp only [↓AB,AC,↓reduceIte,Nat.reduceEqDiff,Nat.reduceLT,m1,m3,m4,e15,e16.1,e16.2,e17.1,e17.2,e18,Mf,Mg,Sv]
  ·rw [if_neg e18]at h;cases h;simp only [↓AB,AC,↓reduceIte,Nat.reduceEqDiff,Nat.reduceLT,m0,m1,m2,m3,m4,m5,m6,m7,e15,e16.1,e16.2,e17.1,e17.2,e18,Mf,Ef]
 ·rw [if_neg e15]at h;cases h;simp only [↓AB,AC,↓reduceIte,Nat.reduceEqDiff,Nat.reduceLT,m0,m1,m2,m4,m5,m6,m7,e15,Mf,Mg,JK]
def IG(l:List (List Int))(size labels Bq:Int)(s:St):Prop:=s.v 0=D.sl 27 (A8 (fun x=>D.sl 3 (A8 (D.int .i64) x)) l)∧s.v 1=D.int .i64 size∧s.v 2=D.int .i64 labels∧s.v 10=D.sl 27 (A8 (fun x=>D.sl 3 (A8 (D.int .i64) x)) l)∧s.v 11=D.int .i64 (l.length:Int)∧s.v 12=D.int .i64 Bq
def KD(l:List (List Int))(size labels:Int)(r:Unit⊕Unit)(ex:Ex)(s:St):Prop:=match r with
 | .inl q=>ex= .ret∧s.v 6=D.bool false
 | .inr q=>ex= .exit 0
theorem sP(l:List (List Int))(size labels:Int){v:Int}{s:St}{r:Unit⊕Unit}(h:dL l size labels v=some r)(hM:IG l size labels v s):BZ Y.env xQ (KD l size labels r) s:=by
 unfold dL at h;refine Ao (c:=dN) (fun v=>Pb l size labels v) (fun v s=>IG l size labels v s) (KD l size labels) ?_ h hM;clear h hM s v r;intro Bq s o hM h;unfold Pb at h;unfold IG at hM;obtain⟨m0,m1,m2,m3,m4,m5⟩:=hM;unfold dN;by_cases e1:Bq<(l.length:Int)
 ·rw [if_pos e1]at h;obtain⟨e2,h⟩:=Ar h;by_cases e3:((l.getD Bq.toNat default).length:Int)=size
  ·rw [if_pos e3]at h;obtain⟨e4,h⟩:=Ar h;have c5:=nN (l.getD Bq.toNat default) (0:Int) (IntKind.i64.wrap (labels-1)) e4;by_cases e6:(Md (l.getD Bq.toNat default) (0:Int) (IntKind.i64.wrap (labels-1)))=true
   ·rw [if_pos e6]at h;by_cases e7:0<Bq
    ·rw [if_pos e7]at h;obtain⟨e8,h⟩:=Ar h;obtain⟨e9,h⟩:=Ar h;obtain⟨e10,h⟩:=Ar h;obtain⟨e11,h⟩:=Ar h;obtain⟨e12,h⟩:=Ar h;have c13:=UI (l.getD ((IntKind.i64.wrap (Bq-1)).toNat) default) (l.getD Bq.toNat default) e9 e10 e11 e12;by_cases e14:0≤(cmpL (l.getD ((IntKind.i64.wrap (Bq-1)).toNat) default) (l.getD Bq.toNat default))
     ·rw [if_pos e14]at h;cases h;simp only [↓AB,AC,↓reduceIte,Nat.reduceEqDiff,Nat.reduceLT,m0,m1,m2,m3,m4,m5,e1,e2.1,e2.2,decide_eq_true e3,c5,e6,e7,e8.1,e8.2,c13,e14,IG,KD,Sv]
     ·rw [if_neg e14]at h;obtain⟨Y9,hl16,h⟩:=AO h;try dsimp only at h
      simp only [↓AB,AC,↓reduceIte,Nat.reduceEqDiff,Nat.reduceLT,m0,m1,m2,m3,m4,m5,e1,e2.1,e2.2,decide_eq_true e3,c5,e6,e7,e8.1,e8.2,c13,e14];refine AY (Zy l size labels Bq hl16 ?_) ?_
      ·simp only [BG,↓reduceIte,Nat.reduceEqDiff,m0,m1,m2,m3,m4,m5,Mf]
      ·intro ex16 s16 hX16;rcases Y9 with q16_ | q16_
       ·unfold Mg at hX16;dsimp only at hX16 h;obtain⟨rfl,n16_0⟩:=hX16;cases h;simp only [↓AB,AC,n16_0,IG,KD,Sv]
       ·unfold Mg at hX16;dsimp only at hX16 h;obtain⟨rfl,n16_0,n16_1,n16_2,n16_3,n16_4,n16_5⟩:=hX16;cases h;simp only [↓AB,AC,↓reduceIte,Nat.reduceEqDiff,Nat.reduceLT,n16_0,n16_1,n16_2,n16_3,n16_4,n16_5,IG,Ef]
    ·rw [if_neg e7]at h;obtain⟨r9_,hl9,h⟩:=AO h;try dsimp only at h
     simp only [↓AB,AC,↓reduceIte,Nat.reduceEqDiff,Nat.reduceLT,m1,m2,m3,m4,m5,e1,e2.1,e2.2,decide_eq_true e3,c5,e6,e7];refine AY (Zy l size labels Bq hl9 ?_) ?_
     ·simp only [BG,↓reduceIte,Nat.reduceEqDiff,m0,m1,m2,m3,m4,m5,Mf]
     ·intro ex9 s9 hX9;rcases r9_ with q9_ | q9_
      ·unfold Mg at hX9;dsimp only at hX9 h;obtain⟨rfl,n9_0⟩:=hX9;cases h;simp only [↓AB,AC,n9_0,IG,KD,Sv]
      ·unfold Mg at hX9;dsimp only at hX9 h;obtain⟨rfl,n9_0,n9_1,n9_2,n9_3,n9_4,n9_5⟩:=hX9;cases h;simp only [↓AB,AC,↓reduceIte,Nat.reduceEqDiff,Nat.reduceLT,n9_0,n9_1,n9_2,n9_3,n9_4,n9_5,IG,Ef]
   ·rw [if_neg e6]at h;have e6f:(Md (l.getD Bq.toNat default) (0:Int) (IntKind.i64.wrap (labels-1)))=false:=J2.mpr e6;cases h;simp only [↓AB,AC,↓reduceIte,Nat.reduceEqDiff,Nat.reduceLT,m1,m2,m3,m4,m5,e1,e2.1,e2.2,decide_eq_true e3,c5,e6f,IG,KD,Sv]
  ·rw [if_neg e3]at h;cases h;simp only [↓AB,AC,↓reduceIte,Nat.reduceEqDiff,Nat.reduceLT,m1,m3,m4,m5,e1,e2.1,e2.2,e3,IG,KD,Sv]
 ·rw [if_neg e1]at h;cases h;simp only [↓AB,AC,↓reduceIte,Nat.reduceLT,m4,m5,e1,IG,KD,JK]
theorem xR(l:List (List Int))(size labels:Int){r:Bool}(h:sPL l size labels=some r):Y.call 34 [D.sl 27 (A8 (fun x=>D.sl 3 (A8 (D.int .i64) x)) l),D.int .i64 size,D.int .i64 labels] []=some (D.bool r,[]):=by
 refine c34 ?_ rfl;unfold k34;unfold sPL at h;obtain⟨JL,hl2,h⟩:=AO h;try dsimp only at h
 simp only [↓AB,AC,↓reduceIte,Nat.reduceEqDiff,Nat.reduceLT];refine AY (sP l size labels hl2 ?_) ?_
 ·simp only [BG,Co,↓reduceIte,Nat.reduceEqDiff,Nat.reduceLT,IG]
 ·intro ex2 s2 hX2;rcases JL with q2_ | q2_
  ·unfold KD at hX2;dsimp only at hX2 h;obtain⟨rfl,n2_0⟩:=hX2;cases h;simp only [↓AB,AC,↓reduceIte,n2_0]
  ·unfold KD at hX2;dsimp only at hX2 h
   obtain rfl:=hX2
   cases h;simp only [↓AB,AC,↓reduceIte,Nat.reduceEqDiff,Nat.reduceLT]
theorem ZM(l:List (List Int))(size labels t:Int)(x:List Int)(hx:l.getD t.toNat default=x)(hs:(x.length:Int)=size)(hb:x.length<1099511627776):
  VD l size labels t 1=some (if Ht x=true then .inr ()else .inl ()):=by
 unfold VD;rcases Nat.eq_zero_or_pos x.length with h0 | h0
 ·rw [FR (r:=Sum.inr ())]
  ·simp [Ht,h0]
  ·simp only [Nt];rw [if_neg (by omega)]
 ·have key:=OM (fun v=>Nt l size labels t v) (fun j=>(j:Int)+1) (x.length-1) (fun i=>decide (x.getD i default≤x.getD (i+1) default)) (.inl ()) (.inr ()) ?_ ?_
  ·simp only [Js,Int.zero_add]at key;rw [key];rfl
  ·intro i hi;simp only [Nt];rw [hx,if_pos (by omega),Dw _ (by omega),Dw _ (by omega),Am (by omega),Am (by omega),show((i:Int)+1).toNat=i+1 by omega,show((i:Int)+1-1).toNat=i by omega]
   simp only [decide_eq_true_eq];by_cases hq:x.getD (i+1) default<x.getD i default
   ·rw [if_pos hq,if_neg (by omega)]
   ·rw [if_neg hq,if_pos (by omega)];rfl
  ·simp only [Nt];rw [if_neg (by omega)]
theorem A5E(l:List (List Int))(size labels:Int)(h:Ak l)(hl:1≤labels∧labels≤8):sPL l size labels=some (KC l size labels):=by
 have h1:=h.1;unfold sPL dL;have key:=jV (fun v=>Pb l size labels v) (fun i=>(i:Int)) l.length (QE l size labels) (.inl ()) (.inr ()) ?_ ?_
 ·simp only [Js]at key;rw [key];unfold KC
  cases (List.range l.length).all (QE l size labels)<;>rfl
 ·intro i hi hp;simp only [Pb];rw [if_pos (Bi hi),Am (Ho hi),IR i (by omega),Dw (labels-1) (by omega)]
  have hs:=h.getD i;have hs1:=h.getD (i-1);rw [IA,Am hs];by_cases q1:((l.getD i default).length:Int)=size
  ·rw [if_pos q1];have inner:=ZM l size labels (i:Int) (l.getD i default) (by rw [IA]) q1 hs
   rw [inner];have hprev:=hp (i-1);unfold QE at hprev ⊢;generalize l.getD i default=x at*
   cases q3:Md x 0 (labels-1)with
   | false=>simp
   | true=>
    rw [if_pos rfl];by_cases q4:i=0
    ·rw [if_neg (by omega)]
     cases q2:Ht x<;>simp [q1,q4]
    ·rw [if_pos (by omega),Dw _ (by omega),Am (by omega),show((i:Int)-1).toNat=i-1 by omega,Am hs1]
     have hprev:=hprev (by omega)
     generalize l.getD (i-1) default=y at*;simp only [JM,decide_eq_true_eq]at hprev;rw [Am (by omega),Am (Zx hprev.1.2 (by omega) (by omega)),Am (Zx q3 (by omega) (by omega))]
     by_cases q5:0≤cmpL y x
     ·rw [if_pos q5,if_neg (by simp;intro _ _;exact⟨q4,q5⟩)]
     ·rw [if_neg q5];have q6:cmpL y x<0:=by omega
      cases q2:Ht x<;>simp [q1,q6]
  ·have e:=decide_eq_false q1;unfold QE;rw [if_neg q1,if_neg (by rw [e];simp)]
 ·intro _;simp only [Pb];rw [if_neg (Af _)]
theorem xS(l:List (List Int))(size labels:Int)(h0:Ak l)(h1:1≤labels∧labels≤8):Y.call 34 [D.sl 27 (A8 (fun x=>D.sl 3 (A8 (D.int .i64) x)) l),D.int .i64 size,D.int .i64 labels] []=some (D.bool (KC l size labels),[]):=xR l size labels (A5E l size labels h0 h1)
noncomputable def Oa(pL pD:Int)(pN pE:List (List Int)):Option (Bool):= if(MH pL (1:Int) (8:Int))=true then if(MH pD (1:Int) (4:Int))=true then ck (Ak pN)<| ck (1≤pL∧pL≤8)<| if(KC pN pD pL)=true then ck (Ak pE)<| some (KC pE (2:Int) pL) else some false else some false else some false
def k24:SC:= .seq (.ops [oX 1 (.box 26 (tK 0)) 0,oX 2 (.assign (.const (.bool false))) 4]) (.seq (.ops [oF 3 26 1 0,oL 4 3 3 3,oC 5 38 [(tK 4),(iK 1),(iK 8)] [3,3,3] 4,oM 6 5 4,⟨some 7,.fieldAddr 26 (tK 1) 1,0,(some (some 6,true))⟩,⟨some 8,.load 3 (tK 7),3,(some (some 6,true))⟩,⟨some 9,.call ⟨(.value (.func 38)), #[(tK 8),(iK 1),(iK 4)], #[3,3,3]⟩,4,(some (some 6,true))⟩,oX 10 (.pick (tK 6) (tK 9) (.const (.bool false))) 4,oM 11 10 4,⟨some 12,.fieldAddr 26 (tK 1) 2,0,(some (some 11,true))⟩,⟨some 13,.load 22 (tK 12),22,(some (some 11,true))⟩,⟨some 14,.fieldAddr 26 (tK 1) 1,0,(some (some 11,true))⟩,⟨some 15,.load 3 (tK 14),3,(some (some 11,true))⟩,⟨some 16,.fieldAddr 26 (tK 1) 0,0,(some (some 11,true))⟩,⟨some 17,.load 3 (tK 16),3,(some (some 11,true))⟩,⟨some 18,.call ⟨(.value (.func 39)), #[(tK 13),(tK 15),(tK 17)], #[22,3,3]⟩,4,(some (some 11,true))⟩,oX 19 (.pick (tK 11) (tK 18) (.const (.bool false))) 4,oM 20 19 4,⟨some 21,.fieldAddr 26 (tK 1) 3,0,(some (some 20,true))⟩,⟨some 22,.load 22 (tK 21),22,(some (some 20,true))⟩,⟨some 23,.fieldAddr 26 (tK 1) 0,0,(some (some 20,true))⟩,⟨some 24,.load 3 (tK 23),3,(some (some 20,true))⟩,⟨some 25,.call ⟨(.value (.func 39)), #[(tK 22),(iK 2),(tK 24)], #[22,3,3]⟩,4,(some (some 20,true))⟩,
 oX 26 (.pick (tK 20) (tK 25) (.const (.bool false))) 4,oA 2 26 4]) .ret)
theorem A5F:Tryz.f24.body.map (BP lends)=some k24:=by kernel_rfl
theorem AHa:Be Tryz.f24 1=true:=by kernel_rfl
theorem sQ{a l:List D}{r:D×List D}(h:BZ Y.env k24 (Eh AX l.length [ResultVar.tmp 2] r) (entry a l))(ha:a.length=1):Y.call 24 a l=some r:=
 AJ (Y:=Y) rfl Tryz.func24 (ha▸AHa) A5F h
theorem VE(pL pD:Int)(pN pE:List (List Int)){r:Bool}(h:Oa pL pD pN pE=some r):Y.call 24 [D.agg [D.int .i64 pL,D.int .i64 pD,D.sl 27 (A8 (fun x=>D.sl 3 (A8 (D.int .i64) x)) pN),D.sl 27 (A8 (fun x=>D.sl 3 (A8 (D.int .i64) x)) pE)]] []=some (D.bool r,[]):=by
 refine sQ ?_ rfl;unfold k24;unfold Oa at h;have c1:=Mc pL (1:Int) (8:Int);by_cases e2:(MH pL (1:Int) (8:Int))=true
 ·rw [if_pos e2]at h;have c3:=Mc pD (1:Int) (4:Int);by_cases e4:(MH pD (1:Int) (4:Int))=true
  ·rw [if_pos e4]at h;obtain⟨e5,h⟩:=Ar h;obtain⟨e6,h⟩:=Ar h;have c7:=xO pN pD pL e5 e6;by_cases e8:(KC pN pD pL)=true
   ·rw [if_pos e8]at h;obtain⟨e9,h⟩:=Ar h;have gQ:=xO pE (2:Int) pL e9 e6;cases h;simp only [↓AB,AC,↓reduceIte,Nat.reduceEqDiff,Nat.reduceLT,c1,e2,c3,e4,c7,e8,gQ]
   ·rw [if_neg e8]at h;have e8f:(KC pN pD pL)=false:=J2.mpr e8;cases h;simp only [↓AB,AC,↓reduceIte,Nat.reduceEqDiff,Nat.reduceLT,c1,e2,c3,e4,c7,e8f]
  ·rw [if_neg e4]at h;have e4f:(MH pD (1:Int) (4:Int))=false:=J2.mpr e4;cases h;simp only [↓AB,AC,↓reduceIte,Nat.reduceEqDiff,Nat.reduceLT,c1,e2,c3,e4f]
 ·rw [if_neg e2]at h;have e2f:(MH pL (1:Int) (8:Int))=false:=J2.mpr e2;cases h;simp only [↓AB,AC,↓reduceIte,Nat.reduceEqDiff,Nat.reduceLT,c1,e2f]
noncomputable def UJ(pL pD:Int)(pN pE:List (List Int)):Option (Bool):= if(MH pL (1:Int) (8:Int))=true then if(MH pD (1:Int) (4:Int))=true then ck (Ak pN)<| ck (1≤pL∧pL≤8)<| if(KC pN pD pL)=true then ck (Ak pE)<| some (KC pE (2:Int) pL) else some false else some false else some false
def k21:SC:= .seq (.ops [oX 1 (.box 26 (tK 0)) 0,oX 2 (.assign (.const (.bool false))) 4]) (.seq (.ops [oF 3 26 1 0,oL 4 3 3 3,oC 5 33 [(tK 4),(iK 1),(iK 8)] [3,3,3] 4,oM 6 5 4,⟨some 7,.fieldAddr 26 (tK 1) 1,0,(some (some 6,true))⟩,⟨some 8,.load 3 (tK 7),3,(some (some 6,true))⟩,⟨some 9,.call ⟨(.value (.func 33)), #[(tK 8),(iK 1),(iK 4)], #[3,3,3]⟩,4,(some (some 6,true))⟩,oX 10 (.pick (tK 6) (tK 9) (.const (.bool false))) 4,oM 11 10 4,⟨some 12,.fieldAddr 26 (tK 1) 2,0,(some (some 11,true))⟩,⟨some 13,.load 22 (tK 12),22,(some (some 11,true))⟩,⟨some 14,.fieldAddr 26 (tK 1) 1,0,(some (some 11,true))⟩,⟨some 15,.load 3 (tK 14),3,(some (some 11,true))⟩,⟨some 16,.fieldAddr 26 (tK 1) 0,0,(some (some 11,true))⟩,⟨some 17,.load 3 (tK 16),3,(some (some 11,true))⟩,⟨some 18,.call ⟨(.value (.func 34)), #[(tK 13),(tK 15),(tK 17)], #[22,3,3]⟩,4,(some (some 11,true))⟩,oX 19 (.pick (tK 11) (tK 18) (.const (.bool false))) 4,oM 20 19 4,⟨some 21,.fieldAddr 26 (tK 1) 3,0,(some (some 20,true))⟩,⟨some 22,.load 22 (tK 21),22,(some (some 20,true))⟩,⟨some 23,.fieldAddr 26 (tK 1) 0,0,(some (some 20,true))⟩,⟨some 24,.load 3 (tK 23),3,(some (some 20,true))⟩,⟨some 25,.call ⟨(.value (.func 34)), #[(tK 22),(iK 2),(tK 24)], #[22,3,3]⟩,4,(some (some 20,true))⟩,
 oX 26 (.pick (tK 20) (tK 25) (.const (.bool false))) 4,oA 2 26 4]) .ret)
theorem A5G:Tryz.f21.body.map (BP lends)=some k21:=by kernel_rfl
theorem AHc:Be Tryz.f21 1=true:=by kernel_rfl
theorem nO{a l:List D}{r:D×List D}(h:BZ Y.env k21 (Eh AX l.length [ResultVar.tmp 2] r) (entry a l))(ha:a.length=1):Y.call 21 a l=some r:=
 AJ (Y:=Y) rfl Tryz.func21 (ha▸AHc) A5G h
theorem ZN(pL pD:Int)(pN pE:List (List Int)){r:Bool}(h:UJ pL pD pN pE=some r):Y.call 21 [D.agg [D.int .i64 pL,D.int .i64 pD,D.sl 27 (A8 (fun x=>D.sl 3 (A8 (D.int .i64) x)) pN),D.sl 27 (A8 (fun x=>D.sl 3 (A8 (D.int .i64) x)) pE)]] []=some (D.bool r,[]):=by
 refine nO ?_ rfl;unfold k21;unfold UJ at h;have c1:=Rn pL (1:Int) (8:Int);by_cases e2:(MH pL (1:Int) (8:Int))=true
 ·rw [if_pos e2]at h;have c3:=Rn pD (1:Int) (4:Int);by_cases e4:(MH pD (1:Int) (4:Int))=true
  ·rw [if_pos e4]at h;obtain⟨e5,h⟩:=Ar h;obtain⟨e6,h⟩:=Ar h;have c7:=xS pN pD pL e5 e6;by_cases e8:(KC pN pD pL)=true
   ·rw [if_pos e8]at h;obtain⟨e9,h⟩:=Ar h;have gQ:=xS pE (2:Int) pL e9 e6;cases h;simp only [↓AB,AC,↓reduceIte,Nat.reduceEqDiff,Nat.reduceLT,c1,e2,c3,e4,c7,e8,gQ]
   ·rw [if_neg e8]at h;have e8f:(KC pN pD pL)=false:=J2.mpr e8;cases h;simp only [↓AB,AC,↓reduceIte,Nat.reduceEqDiff,Nat.reduceLT,c1,e2,c3,e4,c7,e8f]
  ·rw [if_neg e4]at h;have e4f:(MH pD (1:Int) (4:Int))=false:=J2.mpr e4;cases h;simp only [↓AB,AC,↓reduceIte,Nat.reduceEqDiff,Nat.reduceLT,c1,e2,c3,e4f]
 ·rw [if_neg e2]at h;have e2f:(MH pL (1:Int) (8:Int))=false:=J2.mpr e2;cases h;simp only [↓AB,AC,↓reduceIte,Nat.reduceEqDiff,Nat.reduceLT,c1,e2f]
theorem YA(a b:Int)(n e:List (List Int))(hn:Ak n)(he:Ak e):Oa a b n e=some (Kc a b n e):=by
 unfold Oa Kc;by_cases h1:MH a 1 8=true
 ·have h1':=MI.1 h1;by_cases h2:MH b 1 4=true
  ·rw [if_pos h1,if_pos h2,Am hn,Am h1',Am he]
   cases h3:KC n b a<;>simp [h1,h2]
  ·rw [if_pos h1,if_neg h2];simp [h2]
 ·rw [if_neg h1];simp [h1]
theorem jq(a b:Int)(n e:List (List Int))(hn:Ak n)(he:Ak e):UJ a b n e=some (Kc a b n e):=by
 unfold UJ Kc;by_cases h1:MH a 1 8=true
 ·have h1':=MI.1 h1;by_cases h2:MH b 1 4=true
  ·rw [if_pos h1,if_pos h2,Am hn,Am h1',Am he]
   cases h3:KC n b a<;>simp [h1,h2]
  ·rw [if_pos h1,if_neg h2];simp [h2]
 ·rw [if_neg h1];simp [h1]
theorem YB(pL pD:Int)(pN pE:List (List Int))(h0:Ak pN)(h1:Ak pE):Y.call 24 [D.agg [D.int .i64 pL,D.int .i64 pD,D.sl 27 (A8 (fun x=>D.sl 3 (A8 (D.int .i64) x)) pN),D.sl 27 (A8 (fun x=>D.sl 3 (A8 (D.int .i64) x)) pE)]] []=some (D.bool (Kc pL pD pN pE),[]):=VE pL pD pN pE (YA pL pD pN pE h0 h1)
theorem jr(pL pD:Int)(pN pE:List (List Int))(h0:Ak pN)(h1:Ak pE):Y.call 21 [D.agg [D.int .i64 pL,D.int .i64 pD,D.sl 27 (A8 (fun x=>D.sl 3 (A8 (D.int .i64) x)) pN),D.sl 27 (A8 (fun x=>D.sl 3 (A8 (D.int .i64) x)) pE)]] []=some (D.bool (Kc pL pD pN pE),[]):=ZN pL pD pN pE (jq pL pD pN pE h0 h1)
end Go.Proofs.YtjhjkfoabhplfaaGreat
