/- When lists are a problem, as plain functions. Conditions: the lists are short. -/
import Derived.Test.YtjhjkfoabhplfaaGreatL6
import Derived.Test.YtjhjkfoabhplfaaGreatPB
namespace Go.Proofs.YtjhjkfoabhplfaaGreat
open Go Dv
set_option linter.unusedSimpArgs false
set_option linter.unusedVariables false
set_option maxRecDepth 100000
set_option maxHeartbeats 4000000
def Ms(n lo hi:Int):Bool:=decide (lo≤n∧n≤hi)
theorem MZ{n lo hi:Int}:Ms n lo hi=true↔lo≤n∧n≤hi:=by simp [Ms]
noncomputable def RA(n_ low high:Int):Option (Bool):= if low≤n_ then some (decide (n_≤high)) else some false
def k38:SC:= .seq (.ops [oX 6 (.assign (.const (.bool false))) 4]) (.seq (.ops [oM 7 1 3,oM 8 0 3,oB 9 .leq 3 (tK 7) (tK 8) 3 4,oM 10 9 4,⟨some 11,.move (tK 0),3,(some (some 10,true))⟩,⟨some 12,.move (tK 2),3,(some (some 10,true))⟩,⟨some 13,.binOp .leq 3 (tK 11) (tK 12) 3,4,(some (some 10,true))⟩,oX 14 (.pick (tK 10) (tK 13) (.const (.bool false))) 4,oA 6 14 4]) .ret)
theorem A36:Tryz.f38.body.map (BO lends)=some k38:=by kernel_rfl
theorem AIG:Bi Tryz.f38 3=true:=by kernel_rfl
theorem sU{a l:List D}{r:D×List D}(h:Bf Y.env k38 (EG AV l.length [ResultVar.tmp 6] r) (entry a l))(ha:a.length=3):Y.call 38 a l=some r:=
 AL (Y:=Y) rfl Tryz.func38 (ha▸AIG) A36 h
theorem X0(n_ low high:Int){r:Bool}(h:RA n_ low high=some r):Y.call 38 [D.int .i64 n_,D.int .i64 low,D.int .i64 high] []=some (D.bool r,[]):=by
 refine sU ?_ rfl;unfold k38;unfold RA at h;by_cases e1:low≤n_
 ·rw [if_pos e1]at h;cases h;simp (maxDischargeDepth:=9) only [↓AC,A7,AA,AJ,↓reduceIte,Nat.reduceEqDiff,Nat.reduceLT,e1]
 ·rw [if_neg e1]at h;cases h;simp (maxDischargeDepth:=9) only [↓AC,A7,AA,AJ,↓reduceIte,Nat.reduceEqDiff,Nat.reduceLT,e1]
noncomputable def Yx(n_ lo hi:Int):Option (Bool):= if lo≤n_ then some (decide (n_≤hi)) else some false
def k33:SC:= .seq (.ops [oX 6 (.assign (.const (.bool false))) 4]) (.seq (.ops [oM 7 0 3,oM 8 1 3,oB 9 .geq 3 (tK 7) (tK 8) 3 4,oM 10 9 4,⟨some 11,.move (tK 0),3,(some (some 10,true))⟩,⟨some 12,.move (tK 2),3,(some (some 10,true))⟩,⟨some 13,.binOp .leq 3 (tK 11) (tK 12) 3,4,(some (some 10,true))⟩,oX 14 (.pick (tK 10) (tK 13) (.const (.bool false))) 4,oA 6 14 4]) .ret)
theorem A37:Tryz.f33.body.map (BO lends)=some k33:=by kernel_rfl
theorem AII:Bi Tryz.f33 3=true:=by kernel_rfl
theorem jL{a l:List D}{r:D×List D}(h:Bf Y.env k33 (EG AV l.length [ResultVar.tmp 6] r) (entry a l))(ha:a.length=3):Y.call 33 a l=some r:=
 AL (Y:=Y) rfl Tryz.func33 (ha▸AII) A37 h
theorem dz(n_ lo hi:Int){r:Bool}(h:Yx n_ lo hi=some r):Y.call 33 [D.int .i64 n_,D.int .i64 lo,D.int .i64 hi] []=some (D.bool r,[]):=by
 refine jL ?_ rfl;unfold k33;unfold Yx at h;by_cases e1:lo≤n_
 ·rw [if_pos e1]at h;cases h;simp (maxDischargeDepth:=9) only [↓AC,A7,AA,AJ,↓reduceIte,Nat.reduceEqDiff,Nat.reduceLT,e1]
 ·rw [if_neg e1]at h;cases h;simp (maxDischargeDepth:=9) only [↓AC,A7,AA,AJ,↓reduceIte,Nat.reduceEqDiff,Nat.reduceLT,e1]
theorem eB(n lo hi:Int):RA n lo hi=some (Ms n lo hi):=by unfold RA Ms;by_cases h1:lo≤n<;>by_cases h2:n≤hi<;>simp [h1,h2]
theorem nA(n lo hi:Int):Yx n lo hi=some (Ms n lo hi):=by unfold Yx Ms;by_cases h1:lo≤n<;>by_cases h2:n≤hi<;>simp [h1,h2]
theorem Ma(n_ low high:Int):Y.call 38 [D.int .i64 n_,D.int .i64 low,D.int .i64 high] []=some (D.bool (Ms n_ low high),[]):=X0 n_ low high (eB n_ low high)
theorem PU(n_ lo hi:Int):Y.call 33 [D.int .i64 n_,D.int .i64 lo,D.int .i64 hi] []=some (D.bool (Ms n_ lo hi),[]):=dz n_ lo hi (nA n_ lo hi)
noncomputable def IE(l:List Int)(lo hi BP:Int):Option ((Int)⊕(Unit⊕Unit)):= if BP<(l.length:Int)then ck (0≤BP∧BP.toNat<l.length)<| if(Ms (l.getD BP.toNat default) lo hi)=true then some (Sum.inl (IntKind.i64.wrap (BP+1))) else some (Sum.inr (Sum.inl ())) else some (Sum.inr (Sum.inr ()))
noncomputable def O5(l:List Int)(lo hi v:Int):Option (Unit⊕Unit):=Gb (fun v=>IE l lo hi v) v
noncomputable def UF(l:List Int)(lo hi:Int):Option (Bool):=
 (O5 l lo hi 0).bind fun Au=>
 match Au with
 | .inl q2_=>
  some false
 | .inr q2_=>
  some true
def Yy:SC:= .seq (.ops [oB 12 .lss 3 (tK 11) (tK 10) 3 0]) (.seq (.cond (tK 12) .skip (.exit 0)) (.seq (.block 1 (.seq (.ops [oI 13 27 9 11,oL 14 3 13 3,oA 8 14 3]) (.seq (.ops [oM 15 8 3,oM 16 1 3,oM 17 2 3,oC 18 33 [(tK 15),(tK 16),(tK 17)] [3,3,3] 4,oX 19 (.unOp .not 4 (tK 18)) 4]) (.cond (tK 19) (.seq (.ops [oX 6 (.assign (.const (.bool false))) 4]) .ret) .skip)))) (.ops [oB 20 .add 3 (tK 11) (iK 1) 3 3,oM 11 20 3])))
def sV:SC:= .loop Yy
def k54:SC:= .seq (.ops [oX 6 (.assign (.const (.bool false))) 4]) (.seq (.seq (.ops [oM 9 0 27,oN 10 9 27,oX 11 (.move (iK 0)) 3]) (.block 0 sV)) (.seq (.ops [oX 6 (.assign (.const (.bool true))) 4]) .ret))
theorem A38:Tryz.f54.body.map (BO lends)=some k54:=by kernel_rfl
theorem AIK:Bi Tryz.f54 3=true:=by kernel_rfl
theorem c54{a l:List D}{r:D×List D}(h:Bf Y.env k54 (EG AV l.length [ResultVar.tmp 6] r) (entry a l))(ha:a.length=3):Y.call 54 a l=some r:=
 AL (Y:=Y) rfl Tryz.func54 (ha▸AIK) A38 h
def GN(l:List Int)(lo hi BP:Int)(s:St):Prop:=s.v 1=D.int .i64 lo∧s.v 2=D.int .i64 hi∧s.v 9=D.sl 3 (AB (D.int .i64) l)∧s.v 10=D.int .i64 (l.length:Int)∧s.v 11=D.int .i64 BP
def IG(l:List Int)(lo hi:Int)(r:Unit⊕Unit)(ex:Ex)(s:St):Prop:=match r with
 | .inl q=>ex= .ret∧s.v 6=D.bool false
 | .inr q=>ex= .exit 0
theorem X3(l:List Int)(lo hi:Int){v:Int}{s:St}{r:Unit⊕Unit}(h:O5 l lo hi v=some r)(hM:GN l lo hi v s):Bf Y.env sV (IG l lo hi r) s:=by
 unfold O5 at h;refine BA (c:=Yy) (fun v=>IE l lo hi v) (fun v s=>GN l lo hi v s) (IG l lo hi) ?_ h hM;clear h hM s v r;intro BP s o hM h;unfold IE at h;unfold GN at hM;obtain⟨m0,m1,m2,m3,m4⟩:=hM;unfold Yy;by_cases e1:BP<(l.length:Int)
 ·rw [if_pos e1]at h;obtain⟨e2,h⟩:=Av h;have c3:=PU (l.getD BP.toNat default) lo hi;by_cases e4:(Ms (l.getD BP.toNat default) lo hi)=true
  ·rw [if_pos e4]at h;cases h;simp (maxDischargeDepth:=9) only [↓AC,A7,AO,BM,AA,AJ,↓reduceIte,Nat.reduceEqDiff,Nat.reduceLT,Nat.reduceAdd,m0,m1,m2,m3,m4,e1,e2.1,e2.2,c3,e4,GN,FD]
  ·rw [if_neg e4]at h;have e4f:(Ms (l.getD BP.toNat default) lo hi)=false:=Bool.eq_false_iff.mpr e4;cases h;simp (maxDischargeDepth:=9) only [↓AC,A7,AO,BM,AA,AJ,↓reduceIte,Nat.reduceEqDiff,Nat.reduceLT,Nat.reduceAdd,m0,m1,m2,m3,m4,e1,e2.1,e2.2,c3,e4f,GN,IG,Pz]
 ·rw [if_neg e1]at h;cases h;simp (maxDischargeDepth:=9) only [↓AC,A7,AJ,↓reduceIte,Nat.reduceLT,m3,m4,e1,GN,IG,JH]
theorem Yz(l:List Int)(lo hi:Int){r:Bool}(h:UF l lo hi=some r):Y.call 54 [D.sl 3 (AB (D.int .i64) l),D.int .i64 lo,D.int .i64 hi] []=some (D.bool r,[]):=by
 refine c54 ?_ rfl;unfold k54;unfold UF at h;obtain⟨Au,hl2,h⟩:=AU h;try dsimp only at h
 simp (maxDischargeDepth:=9) only [↓AC,A7,AO,AA,AJ,↓reduceIte,Nat.reduceEqDiff,Nat.reduceLT];refine Ag (X3 l lo hi hl2 ?_) ?_
 ·simp (maxDischargeDepth:=9) only [A7,AA,↓reduceIte,Nat.reduceEqDiff,Nat.reduceLT,GN]
 ·intro ex2 s2 hX2;rcases Au with q2_ | q2_
  ·unfold IG at hX2;dsimp only at hX2 h;obtain⟨rfl,n2_0⟩:=hX2;cases h;simp (maxDischargeDepth:=9) only [↓AC,A7,AA,↓reduceIte,n2_0]
  ·unfold IG at hX2;dsimp only at hX2 h
   obtain rfl:=hX2
   cases h;simp (maxDischargeDepth:=9) only [↓AC,A7,AA,AJ,↓reduceIte,Nat.reduceEqDiff,Nat.reduceLT]
def Ke(l:List Int)(lo hi:Int):Bool:=l.all fun x=>Ms x lo hi
theorem jM(l:List Int)(lo hi:Int)(h:l.length<1099511627776):UF l lo hi=some (Ke l lo hi):=by
 unfold UF O5;have key:=MN (fun v=>IE l lo hi v) (fun i=>(i:Int)) l.length (fun i=>Ms (l.getD i default) lo hi) (.inl ()) (.inr ()) ?_ ?_
 ·simp only [Int.natCast_zero]at key;rw [key,VJ (fun x=>Ms x lo hi)];unfold Ke
  cases l.all (fun x=>Ms x lo hi)<;>rfl
 ·intro i hi;simp only [IE];rw [if_pos (CJ hi),Az (FH hi),Int.toNat_natCast,JM i (by omega)]
 ·simp only [IE];rw [if_neg (Ak _)]
theorem jO(l:List Int)(lo hi:Int)(h0:l.length<1099511627776):Y.call 54 [D.sl 3 (AB (D.int .i64) l),D.int .i64 lo,D.int .i64 hi] []=some (D.bool (Ke l lo hi),[]):=Yz l lo hi (jM l lo hi h0)
noncomputable def JZ(s_:List Int)(f:Int→Option Bool)(X4:Int):Option ((Int)⊕(Int⊕Unit)):= if X4<(s_.length:Int)then ck (0≤X4∧X4.toNat<s_.length)<| (f (s_.getD X4.toNat default)).bind fun D6=> if D6=true then some (Sum.inr (Sum.inl X4)) else some (Sum.inl (IntKind.i64.wrap (X4+1))) else some (Sum.inr (Sum.inr ()))
noncomputable def Z4(s_:List Int)(f:Int→Option Bool)(v:Int):Option (Int⊕Unit):=Gb (fun v=>JZ s_ f v) v
noncomputable def gIF(s_:List Int)(f:Int→Option Bool):Option (Int):=
 (Z4 s_ f 0).bind fun Au=>
 match Au with
 | .inl q2_=>
  some q2_
 | .inr q2_=>
  some (-1)
def Va:SC:= .seq (.ops [oB 9 .lss 3 (tK 8) (tK 7) 3 0]) (.seq (.cond (tK 9) .skip (.exit 0)) (.seq (.block 1 (.seq (.ops [oM 10 8 3,oA 5 10 3]) (.seq (.ops [oM 11 1 87,oM 12 0 27,oM 13 5 3,oI 14 27 12 13,oL 15 3 14 3,oX 16 (.call ⟨(.value (tK 11)), #[(tK 15)], #[3]⟩) 4]) (.cond (tK 16) (.seq (.ops [oM 17 5 3,oA 4 17 3]) .ret) .skip)))) (.ops [oB 18 .add 3 (tK 8) (iK 1) 3 3,oM 8 18 3])))
def kQ:SC:= .loop Va
def A39:SC:= .seq (.ops [oX 4 (.assign (iK 0)) 3]) (.seq (.seq (.ops [oM 6 0 27,oN 7 6 27,oX 8 (.move (iK 0)) 3]) (.block 0 kQ)) (.seq (.ops [oX 4 (.assign (.const (.int .i64 (-1)))) 3]) .ret))
theorem xU:Tryz.f112.body.map (BO lends)=some A39:=by kernel_rfl
theorem ABw:Bi Tryz.f112 2=true:=by kernel_rfl
theorem AIM{a l:List D}{r:D×List D}(h:Bf Y.env A39 (EG AV l.length [ResultVar.tmp 4] r) (entry a l))(ha:a.length=2):Y.call 112 a l=some r:=
 AL (Y:=Y) rfl Tryz.func112 (ha▸ABw) xU h
def Lp(s_:List Int)(f:Int→Option Bool)(f_f:FuncId)(f_c:List D)(X4:Int)(s:St):Prop:=s.v 0=D.sl 3 (AB (D.int .i64) s_)∧s.v 1=D.clo f_f f_c∧s.v 7=D.int .i64 (s_.length:Int)∧s.v 8=D.int .i64 X4
def NP(s_:List Int)(f:Int→Option Bool)(f_f:FuncId)(f_c:List D)(r:Int⊕Unit)(ex:Ex)(s:St):Prop:=match r with
 | .inl q=>ex= .ret∧s.v 4=D.int .i64 q
 | .inr q=>ex= .exit 0
theorem nC(s_:List Int)(f:Int→Option Bool)(f_f:FuncId)(f_c:List D)(f_h: ∀(a0:Int) (r:Bool),f a0=some r→Y.call f_f (D.int .i64 a0::f_c) []=some (D.bool r,[]))(f_l:lends f_f=false){v:Int}{s:St}{r:Int⊕Unit}(h:Z4 s_ f v=some r)(hM:Lp s_ f f_f f_c v s):Bf Y.env kQ (NP s_ f f_f f_c r) s:=by
 unfold Z4 at h;refine BA (c:=Va) (fun v=>JZ s_ f v) (fun v s=>Lp s_ f f_f f_c v s) (NP s_ f f_f f_c) ?_ h hM;clear h hM s v r;intro X4 s o hM h;unfold JZ at h;unfold Lp at hM;obtain⟨m0,m1,m2,m3⟩:=hM;unfold Va;by_cases e1:X4<(s_.length:Int)
 ·rw [if_pos e1]at h;obtain⟨e2,h⟩:=Av h;obtain⟨D6,hl3,h⟩:=AU h;try dsimp only at h
  have c3:=f_h _ _ hl3;by_cases e4:D6=true
  ·rw [if_pos e4]at h;cases h;simp (maxDischargeDepth:=9) only [↓AC,A7,AO,BM,AA,AJ,↓reduceIte,Nat.reduceEqDiff,Nat.reduceLT,Nat.reduceAdd,m0,m1,m2,m3,f_l,e1,e2.1,e2.2,c3,e4,Lp,NP,Pz]
  ·rw [if_neg e4]at h;have e4f:D6=false:=Bool.eq_false_iff.mpr e4;cases h;simp (maxDischargeDepth:=9) only [↓AC,A7,AO,BM,AA,AJ,↓reduceIte,Nat.reduceEqDiff,Nat.reduceLT,Nat.reduceAdd,m0,m1,m2,m3,f_l,e1,e2.1,e2.2,c3,e4f,Lp,FD]
 ·rw [if_neg e1]at h;cases h;simp (maxDischargeDepth:=9) only [↓AC,A7,AJ,↓reduceIte,Nat.reduceLT,m2,m3,e1,Lp,NP,JH]
theorem sW(s_:List Int)(f:Int→Option Bool)(f_f:FuncId)(f_c:List D)(f_h: ∀(a0:Int) (r:Bool),f a0=some r→Y.call f_f (D.int .i64 a0::f_c) []=some (D.bool r,[]))(f_l:lends f_f=false){r:Int}(h:gIF s_ f=some r):Y.call 112 [D.sl 3 (AB (D.int .i64) s_),D.clo f_f f_c] []=some (D.int .i64 r,[]):=by
 refine AIM ?_ rfl;unfold A39;unfold gIF at h;obtain⟨Au,hl2,h⟩:=AU h;try dsimp only at h
 simp (maxDischargeDepth:=9) only [↓AC,A7,AO,AA,AJ,↓reduceIte,Nat.reduceEqDiff,Nat.reduceLT,Int.reduceNeg];refine Ag (nC s_ f f_f f_c f_h f_l hl2 ?_) ?_
 ·simp (maxDischargeDepth:=9) only [A7,AA,↓reduceIte,Nat.reduceEqDiff,Nat.reduceLT,Lp]
 ·intro ex2 s2 hX2;rcases Au with q2_ | q2_
  ·unfold NP at hX2;dsimp only at hX2 h;obtain⟨rfl,n2_0⟩:=hX2;cases h;simp (maxDischargeDepth:=9) only [↓AC,A7,AA,↓reduceIte,n2_0]
  ·unfold NP at hX2;dsimp only at hX2 h
   obtain rfl:=hX2
   cases h;simp (maxDischargeDepth:=9) only [↓AC,A7,AA,AJ,↓reduceIte,Nat.reduceEqDiff,Nat.reduceLT,Int.reduceNeg]
noncomputable def Bt(s_:List Int)(f:Int→Option Bool):Option (Bool):= (gIF s_ f).bind fun Cv=> some (decide (0≤Cv))
def k94:SC:= .seq (.ops [oX 4 (.assign (.const (.bool false))) 4]) (.seq (.ops [oM 5 0 27,oM 6 1 87,oC 7 112 [(tK 5),(tK 6)] [27,87] 3,oB 8 .geq 3 (tK 7) (iK 0) 3 4,oA 4 8 4]) .ret)
theorem A3A:Tryz.f94.body.map (BO lends)=some k94:=by kernel_rfl
theorem AIO:Bi Tryz.f94 2=true:=by kernel_rfl
theorem c94{a l:List D}{r:D×List D}(h:Bf Y.env k94 (EG AV l.length [ResultVar.tmp 4] r) (entry a l))(ha:a.length=2):Y.call 94 a l=some r:=
 AL (Y:=Y) rfl Tryz.func94 (ha▸AIO) A3A h
theorem Ip(s_:List Int)(f:Int→Option Bool)(f_f:FuncId)(f_c:List D)(f_h: ∀(a0:Int) (r:Bool),f a0=some r→Y.call f_f (D.int .i64 a0::f_c) []=some (D.bool r,[]))(f_l:lends f_f=false){r:Bool}(h:Bt s_ f=some r):Y.call 94 [D.sl 3 (AB (D.int .i64) s_),D.clo f_f f_c] []=some (D.bool r,[]):=by
 refine c94 ?_ rfl;unfold k94;unfold Bt at h;obtain⟨Cv,hl1,h⟩:=AU h;try dsimp only at h
 have c1:=sW s_ f f_f f_c f_h f_l hl1;cases h;simp (maxDischargeDepth:=9) only [↓AC,A7,BM,AA,AJ,↓reduceIte,Nat.reduceEqDiff,Nat.reduceLT,Nat.reduceAdd,c1]
noncomputable def Iq(n_ c0_ c1_:Int):Option (Bool):= some (!(Ms n_ c0_ c1_))
def k95:SC:= .seq (.ops [oX 4 (.assign (.const (.bool false))) 4]) (.seq (.ops [oM 5 0 3,oL 6 3 1 3,oL 7 3 2 3,oC 8 38 [(tK 5),(tK 6),(tK 7)] [3,3,3] 4,oX 9 (.unOp .not 4 (tK 8)) 4,oA 4 9 4]) .ret)
theorem A3B:Tryz.f95.body.map (BO lends)=some k95:=by kernel_rfl
theorem AIQ:Bi Tryz.f95 3=true:=by kernel_rfl
theorem c95{a l:List D}{r:D×List D}(h:Bf Y.env k95 (EG AV l.length [ResultVar.tmp 4] r) (entry a l))(ha:a.length=3):Y.call 95 a l=some r:=
 AL (Y:=Y) rfl Tryz.func95 (ha▸AIQ) A3B h
theorem QA(n_ c0_ c1_:Int){r:Bool}(h:Iq n_ c0_ c1_=some r):Y.call 95 [D.int .i64 n_,D.cptr [D.int .i64 c0_],D.cptr [D.int .i64 c1_]] []=some (D.bool r,[]):=by
 refine c95 ?_ rfl;unfold k95;unfold Iq at h;have c1:=Ma n_ c0_ c1_;cases h;simp (maxDischargeDepth:=9) only [↓AC,A7,BM,AA,AJ,↓reduceIte,Nat.reduceEqDiff,Nat.reduceLT,Nat.reduceAdd,c1]
noncomputable def Mc(list:List Int)(low high:Int):Option (Bool):= (Bt list (fun a0=>Iq a0 low high)).bind fun Cv=> some (!Cv)
def k63:SC:= .seq (.ops [oX 4 (.box 3 (tK 1)) 0,oX 5 (.box 3 (tK 2)) 0,oX 6 (.assign (.const (.bool false))) 4]) (.seq (.ops [oM 7 0 27,oX 8 (.makeFunc (Fn.func 95) #[] #[(tK 4),(tK 5)]) 87,oC 9 94 [(tK 7),(tK 8)] [27,87] 4,oX 10 (.unOp .not 4 (tK 9)) 4,oA 6 10 4]) .ret)
theorem A3C:Tryz.f63.body.map (BO lends)=some k63:=by kernel_rfl
theorem AIS:Bi Tryz.f63 3=true:=by kernel_rfl
theorem c63{a l:List D}{r:D×List D}(h:Bf Y.env k63 (EG AV l.length [ResultVar.tmp 6] r) (entry a l))(ha:a.length=3):Y.call 63 a l=some r:=
 AL (Y:=Y) rfl Tryz.func63 (ha▸AIS) A3C h
theorem SX(list:List Int)(low high:Int){r:Bool}(h:Mc list low high=some r):Y.call 63 [D.sl 3 (AB (D.int .i64) list),D.int .i64 low,D.int .i64 high] []=some (D.bool r,[]):=by
 refine c63 ?_ rfl;unfold k63;unfold Mc at h;obtain⟨Cv,hl1,h⟩:=AU h;try dsimp only at h
 have c1:=Ip list (fun a0=>Iq a0 low high) 95 [D.cptr [D.int .i64 low],D.cptr [D.int .i64 high]] (fun a0 _ hh=>QA a0 low high hh) A2r hl1;cases h;simp (maxDischargeDepth:=9) only [↓AC,A7,BM,AA,AJ,↓reduceIte,Nat.reduceEqDiff,Nat.reduceLT,Nat.reduceAdd,c1]
theorem Z5(l:List Int)(f:Int→Option Bool)(p:Int→Bool)(h:l.length<1099511627776)(hf: ∀x∈l,f x=some (p x)):
  ∃r,gIF l f=some r∧(0≤r↔l.any p=true):=by
 unfold gIF Z4;by_cases ha: ∀i,i<l.length→(!p (l.getD i default))=true
 ·have key:=Be (fun v=>JZ l f v) (fun i=>(i:Int)) l.length (.inr ()) ?_ ?_
  ·simp only [Int.natCast_zero]at key;rw [key]
   refine⟨-1,rfl,by simp,fun hc=> ?_⟩
   obtain⟨x,hx,hpx⟩:=List.any_eq_true.1 hc;obtain⟨i,hi,rfl⟩:=List.getElem_of_mem hx;have:=ha i hi
   rw [Ae _ _ hi,hpx]at this;cases this
  ·intro i hi;simp only [JZ];have e:=ha i hi;rw [Ae _ _ hi]at e;rw [if_pos (CJ hi),Az (FH hi),JW _ _ hi,hf _ (List.getElem_mem hi),Option.bind_some,if_neg (by cases hp:p l[i]<;>simp_all),JM i (by omega)]
  ·simp only [JZ];rw [if_neg (Ak _)]
 ·obtain⟨m,h1,h2,h3⟩:=O1 (P:=fun i=> !p (l.getD i default)) ha;have key:=Be (fun v=>JZ l f v) (fun i=>(i:Int)) m (.inl (m:Int)) ?_ ?_
  ·simp only [Int.natCast_zero]at key;rw [key]
   refine⟨(m:Int),rfl,fun _=> ?_,fun _=>by omega⟩
   have h2':p l[m]=true:=by rw [Ae _ _ h1]at h2;simpa using h2
   exact List.any_eq_true.2 ⟨_,List.getElem_mem h1,h2'⟩
  ·intro i hi;simp only [JZ];have e:=h3 i hi;rw [Ae _ _ (by omega)]at e
   rw [if_pos (CJ (by omega)),Az (FH (by omega)),JW _ _ (by omega),hf _ (List.getElem_mem _),Option.bind_some,if_neg (by cases hp:p l[i]<;>simp_all),JM i (by omega)]
  ·simp only [JZ];have h2':p l[m]=true:=by rw [Ae _ _ h1]at h2;simpa using h2
   rw [if_pos (CJ h1),Az (FH h1),JW _ _ h1,hf _ (List.getElem_mem _),Option.bind_some,if_pos h2']
theorem Tx(l:List Int)(f:Int→Option Bool)(p:Int→Bool)(h:l.length<1099511627776)(hf: ∀x∈l,f x=some (p x)):Bt l f=some (l.any p):=by
 obtain⟨r,h1,h2⟩:=Z5 l f p h hf;unfold Bt;rw [h1,Option.bind_some]
 congr 1
 rw [Bool.eq_iff_iff];simpa using h2
theorem Vb(l:List Int)(lo hi:Int)(h:l.length<1099511627776):Mc l lo hi=some (Ke l lo hi):=by
 unfold Mc;rw [Tx l (fun a0=>Iq a0 lo hi) (fun x=> !Ms x lo hi) h (fun x _=>rfl),Option.bind_some];unfold Ke;rw [List.all_eq_not_any_not]
theorem Vd(list:List Int)(low high:Int)(h0:list.length<1099511627776):Y.call 63 [D.sl 3 (AB (D.int .i64) list),D.int .i64 low,D.int .i64 high] []=some (D.bool (Ke list low high),[]):=SX list low high (Vb list low high h0)
noncomputable def Cc(x_:Int):Option (Bool):= some false
def A3D:SC:= .seq (.ops [oX 2 (.assign (.const (.bool false))) 4]) (.seq (.ops [oM 3 0 3,oM 4 0 3,oB 5 .neq 3 (tK 3) (tK 4) 3 4,oA 2 5 4]) .ret)
theorem xV:Tryz.f111.body.map (BO lends)=some A3D:=by kernel_rfl
theorem ABx:Bi Tryz.f111 1=true:=by kernel_rfl
theorem AIT{a l:List D}{r:D×List D}(h:Bf Y.env A3D (EG AV l.length [ResultVar.tmp 2] r) (entry a l))(ha:a.length=1):Y.call 111 a l=some r:=
 AL (Y:=Y) rfl Tryz.func111 (ha▸ABx) xV h
theorem F8(x_:Int){r:Bool}(h:Cc x_=some r):Y.call 111 [D.int .i64 x_] []=some (D.bool r,[]):=by
 refine AIT ?_ rfl;unfold A3D;unfold Cc at h;cases h;simp (maxDischargeDepth:=9) only [↓AC,A7,AA,AJ,↓reduceIte,Nat.reduceEqDiff,Nat.reduceLT]
noncomputable def Dl(x_ y:Int):Option (Bool):= (Cc x_).bind fun Cv=> if Cv=true then (Cc y).bind fun D6=> if D6=true then some (decide (x_<y)) else some true else some (decide (x_<y))
def k93:SC:= .seq (.ops [oX 4 (.assign (.const (.bool false))) 4]) (.seq (.ops [oM 5 0 3,oC 6 111 [(tK 5)] [3] 4,oM 7 6 4,⟨some 8,.move (tK 1),3,(some (some 7,true))⟩,⟨some 9,.call ⟨(.value (.func 111)), #[(tK 8)], #[3]⟩,4,(some (some 7,true))⟩,⟨some 10,.unOp .not 4 (tK 9),4,(some (some 7,true))⟩,oX 11 (.pick (tK 7) (tK 10) (.const (.bool false))) 4,oM 12 11 4,⟨some 13,.move (tK 0),3,(some (some 12,false))⟩,⟨some 14,.move (tK 1),3,(some (some 12,false))⟩,⟨some 15,.binOp .lss 3 (tK 13) (tK 14) 3,4,(some (some 12,false))⟩,oX 16 (.pick (tK 12) (.const (.bool true)) (tK 15)) 4,oA 4 16 4]) .ret)
theorem A3E:Tryz.f93.body.map (BO lends)=some k93:=by kernel_rfl
theorem AIV:Bi Tryz.f93 2=true:=by kernel_rfl
theorem c93{a l:List D}{r:D×List D}(h:Bf Y.env k93 (EG AV l.length [ResultVar.tmp 4] r) (entry a l))(ha:a.length=2):Y.call 93 a l=some r:=
 AL (Y:=Y) rfl Tryz.func93 (ha▸AIV) A3E h
theorem L8(x_ y:Int){r:Bool}(h:Dl x_ y=some r):Y.call 93 [D.int .i64 x_,D.int .i64 y] []=some (D.bool r,[]):=by
 refine c93 ?_ rfl;unfold k93;unfold Dl at h;obtain⟨Cv,hl1,h⟩:=AU h;try dsimp only at h
 have c1:=F8 x_ hl1;by_cases e2:Cv=true
 ·rw [if_pos e2]at h;obtain⟨D6,hl3,h⟩:=AU h;try dsimp only at h
  have c3:=F8 y hl3;by_cases e4:D6=true
  ·rw [if_pos e4]at h;cases h;simp (maxDischargeDepth:=9) only [↓AC,A7,BM,AA,AJ,↓reduceIte,Nat.reduceEqDiff,Nat.reduceLT,Nat.reduceAdd,c1,e2,c3,e4]
  ·rw [if_neg e4]at h;have e4f:D6=false:=Bool.eq_false_iff.mpr e4;cases h;simp (maxDischargeDepth:=9) only [↓AC,A7,BM,AA,AJ,↓reduceIte,Nat.reduceEqDiff,Nat.reduceLT,Nat.reduceAdd,c1,e2,c3,e4f]
 ·rw [if_neg e2]at h;have e2f:Cv=false:=Bool.eq_false_iff.mpr e2;cases h;simp (maxDischargeDepth:=9) only [↓AC,A7,BM,AA,AJ,↓reduceIte,Nat.reduceEqDiff,Nat.reduceLT,Nat.reduceAdd,c1,e2f]
noncomputable def Lr(x_:List Int)(i:Int):Option ((Int)⊕(Unit⊕Unit)):= if 0<i then ck (0≤i∧i.toNat<x_.length)<| ck (0≤IntKind.i64.wrap (i-1)∧(IntKind.i64.wrap (i-1)).toNat<x_.length)<| (Dl (x_.getD i.toNat default) (x_.getD ((IntKind.i64.wrap (i-1)).toNat) default)).bind fun DF=> if DF=true then some (Sum.inr (Sum.inl ())) else some (Sum.inl (IntKind.i64.wrap (i-1))) else some (Sum.inr (Sum.inr ()))
noncomputable def Z6(x_:List Int)(v:Int):Option (Unit⊕Unit):=Gb (fun v=>Lr x_ v) v
noncomputable def gIS(x_:List Int):Option (Bool):=
 (Z6 x_ (IntKind.i64.wrap ((x_.length:Int)-1))).bind fun Au=>
 match Au with
 | .inl q2_=>
  some false
 | .inr q2_=>
  some true
def Z7:SC:= .seq (.seq (.ops [oM 7 3 3,oB 8 .gtr 3 (tK 7) (iK 0) 3 4]) (.cond (tK 8) .skip (.exit 0))) (.seq (.block 1 (.seq (.draws [(⟨[11,0,0],[11,12,13,14,15,16,17,18,19,20],[11]⟩,oM 11 0 27),(⟨[12,3,3],[11,12,13,14,15,16,17,18,19,20],[12]⟩,oM 12 3 3),(⟨[13,11,12,0,3],[11,12,13,14,15,16,17,18,19,20],[13]⟩,oI 13 27 11 12),(⟨[14,13,0],[11,12,13,14,15,16,17,18,19,20],[14]⟩,oL 14 3 13 3),(⟨[15,0,0],[11,12,13,14,15,16,17,18,19,20],[15]⟩,oM 15 0 27),(⟨[16,3,3],[11,12,13,14,15,16,17,18,19,20],[16]⟩,oM 16 3 3),(⟨[17,16,3],[11,12,13,14,15,16,17,18,19,20],[17]⟩,oB 17 .sub 3 (tK 16) (iK 1) 3 3),(⟨[18,15,17,0,17],[11,12,13,14,15,16,17,18,19,20],[18]⟩,oI 18 27 15 17),(⟨[19,18,0],[11,12,13,14,15,16,17,18,19,20],[19]⟩,oL 19 3 18 3),(⟨[20,14,19,0,0],[11,12,13,14,15,16,17,18,19,20],[20]⟩,oC 20 93 [(tK 14),(tK 19)] [3,3] 4)]) (.cond (tK 20) (.seq (.ops [oX 2 (.assign (.const (.bool false))) 4]) .ret) .skip))) (.ops [oM 9 3 3,oB 10 .sub 3 (tK 9) (iK 1) 3 3,oA 3 10 3]))
def sZ:SC:= .loop Z7
def k62:SC:= .seq (.ops [oX 2 (.assign (.const (.bool false))) 4]) (.seq (.seq (.ops [oM 4 0 27,oN 5 4 27,oB 6 .sub 3 (tK 5) (iK 1) 3 3,oA 3 6 3]) (.block 0 sZ)) (.seq (.ops [oX 2 (.assign (.const (.bool true))) 4]) .ret))
theorem A3F:Tryz.f62.body.map (BO lends)=some k62:=by kernel_rfl
theorem AIX:Bi Tryz.f62 1=true:=by kernel_rfl
theorem c62{a l:List D}{r:D×List D}(h:Bf Y.env k62 (EG AV l.length [ResultVar.tmp 2] r) (entry a l))(ha:a.length=1):Y.call 62 a l=some r:=
 AL (Y:=Y) rfl Tryz.func62 (ha▸AIX) A3F h
def Lt(x_:List Int)(i:Int)(s:St):Prop:=s.v 0=D.sl 3 (AB (D.int .i64) x_)∧s.v 3=D.int .i64 i
def NQ(x_:List Int)(r:Unit⊕Unit)(ex:Ex)(s:St):Prop:=match r with
 | .inl q=>ex= .ret∧s.v 2=D.bool false
 | .inr q=>ex= .exit 0
theorem nD(x_:List Int){v:Int}{s:St}{r:Unit⊕Unit}(h:Z6 x_ v=some r)(hM:Lt x_ v s):Bf Y.env sZ (NQ x_ r) s:=by
 unfold Z6 at h;refine BA (c:=Z7) (fun v=>Lr x_ v) (fun v s=>Lt x_ v s) (NQ x_) ?_ h hM;clear h hM s v r;intro i s o hM h;unfold Lr at h;unfold Lt at hM;obtain⟨m0,m1⟩:=hM;unfold Z7;by_cases e1:0<i
 ·rw [if_pos e1]at h;obtain⟨e2,h⟩:=Av h;obtain⟨e3,h⟩:=Av h;obtain⟨DF,hl4,h⟩:=AU h;try dsimp only at h
  have c4:=L8 (x_.getD i.toNat default) (x_.getD ((IntKind.i64.wrap (i-1)).toNat) default) hl4;by_cases e5:DF=true
  ·rw [if_pos e5]at h;cases h;simp (maxDischargeDepth:=9) only [↓AC,A7,AO,BM,AA,AJ,↓reduceIte,Nat.reduceEqDiff,Nat.reduceLT,Nat.reduceAdd,m0,m1,e1,e2.1,e2.2,e3.1,e3.2,c4,e5,Lt,NQ,Pz]
  ·rw [if_neg e5]at h;have e5f:DF=false:=Bool.eq_false_iff.mpr e5;cases h;simp (maxDischargeDepth:=9) only [↓AC,A7,AO,BM,AA,AJ,↓reduceIte,Nat.reduceEqDiff,Nat.reduceLT,Nat.reduceAdd,m0,m1,e1,e2.1,e2.2,e3.1,e3.2,c4,e5f,Lt,FD]
 ·rw [if_neg e1]at h;cases h;simp (maxDischargeDepth:=9) only [↓AC,A7,AJ,↓reduceIte,Nat.reduceLT,m1,e1,Lt,NQ,JH]
theorem su(x_:List Int){r:Bool}(h:gIS x_=some r):Y.call 62 [D.sl 3 (AB (D.int .i64) x_)] []=some (D.bool r,[]):=by
 refine c62 ?_ rfl;unfold k62;unfold gIS at h;obtain⟨Au,hl2,h⟩:=AU h;try dsimp only at h
 simp (maxDischargeDepth:=9) only [↓AC,A7,AO,AA,AJ,↓reduceIte,Nat.reduceEqDiff,Nat.reduceLT];refine Ag (nD x_ hl2 ?_) ?_
 ·simp (maxDischargeDepth:=9) only [A7,AA,↓reduceIte,Nat.reduceEqDiff,Nat.reduceLT,Lt]
 ·intro ex2 s2 hX2;rcases Au with q2_ | q2_
  ·unfold NQ at hX2;dsimp only at hX2 h;obtain⟨rfl,n2_0⟩:=hX2;cases h;simp (maxDischargeDepth:=9) only [↓AC,A7,AA,↓reduceIte,n2_0]
  ·unfold NQ at hX2;dsimp only at hX2 h
   obtain rfl:=hX2
   cases h;simp (maxDischargeDepth:=9) only [↓AC,A7,AA,AJ,↓reduceIte,Nat.reduceEqDiff,Nat.reduceLT]
def GQ(l:List Int):Bool:=(List.range (l.length-1)).all fun i=>decide (l.getD i default≤l.getD (i+1) default)
theorem A3G(l:List Int)(h:l.length<1099511627776):gIS l=some (GQ l):=by
 unfold gIS Z6;rw [Ie _ (by omega)]
 rcases Nat.eq_zero_or_pos l.length with h0 | h0
 ·rw [Ep (r:=Sum.inr ())]
  ·simp [GQ,h0]
  ·simp only [Lr];rw [if_neg (by omega)]
 ·have key:=MN (fun v=>Lr l v) (fun j=>(l.length:Int)-1-j) (l.length-1) (fun j=>decide (l.getD (l.length-1-j-1) default≤l.getD (l.length-1-j) default)) (.inl ()) (.inr ()) ?_ ?_
  ·simp only [Int.natCast_zero,Int.sub_zero]at key;rw [key]
   have e:(List.range (l.length-1)).all (fun j=>decide (l.getD (l.length-1-j-1) default≤l.getD (l.length-1-j) default))=GQ l:=by
    unfold GQ;rw [Bool.eq_iff_iff,IB,IB]
    constructor
    ·intro hh i hi;have:=hh (l.length-1-i-1) (by omega)
     rwa [show l.length-1-(l.length-1-i-1)=i+1 by omega,Nat.add_sub_cancel]at this
    ·intro hh i hi;have:=hh (l.length-1-i-1) (by omega)
     rwa [show l.length-1-i-1+1=l.length-1-i by omega]at this
   rw [e]
   cases GQ l<;>rfl
  ·intro i hi;simp only [Lr];rw [if_pos (by omega),Ie _ (by omega)]
   rw [Az (by omega),Az (by omega),show((l.length:Int)-1-i).toNat=l.length-1-i by omega,show((l.length:Int)-1-i-1).toNat=l.length-1-i-1 by omega]
   have e:Dl (l.getD (l.length-1-i) default) (l.getD (l.length-1-i-1) default)=some (decide (l.getD (l.length-1-i) default<l.getD (l.length-1-i-1) default)):=by
    unfold Dl Cc;by_cases hq:l.getD (l.length-1-i) default<l.getD (l.length-1-i-1) default<;>simp [hq]
   rw [e,Option.bind_some];simp only [decide_eq_true_eq];by_cases hq:l.getD (l.length-1-i) default<l.getD (l.length-1-i-1) default
   ·rw [if_pos hq,if_neg (by omega)]
   ·rw [if_neg hq,if_pos (by omega),show(l.length:Int)-1-i-1=(l.length:Int)-1-((i+1:Nat):Int) by omega]
  ·simp only [Lr];rw [if_neg (by omega)]
theorem A3H(x_:List Int)(h0:x_.length<1099511627776):Y.call 62 [D.sl 3 (AB (D.int .i64) x_)] []=some (D.bool (GQ x_),[]):=su x_ (A3G x_ h0)
def cmpL:List Int→List Int→Int
 | [],[]=>0
 | [],_::_=> -1
 | _::_,[]=>1
 | x::a,y::b=>if x=y then cmpL a b else if x<y then-1 else 1
noncomputable def F9(x_ y:Int):Option (Int):= (Cc x_).bind fun Cv=> (Cc y).bind fun Au=> if Cv=true then if Au=true then some 0 else some (-1) else if Au=true then some 1 else if x_<y then some (-1) else if y<x_ then some 1 else some 0
def k96:SC:= .seq (.ops [oX 4 (.assign (iK 0)) 3]) (.seq (.ops [oM 7 0 3,oC 8 111 [(tK 7)] [3] 4,oA 5 8 4]) (.seq (.ops [oM 9 1 3,oC 10 111 [(tK 9)] [3] 4,oA 6 10 4]) (.seq (.seq (.ops [oM 11 5 4]) (.cond (tK 11) (.seq (.seq (.ops [oM 12 6 4]) (.cond (tK 12) (.seq (.ops [oX 4 (.assign (iK 0)) 3]) .ret) .skip)) (.seq (.ops [oX 4 (.assign (.const (.int .i64 (-1)))) 3]) .ret)) .skip)) (.seq (.seq (.ops [oM 13 6 4]) (.cond (tK 13) (.seq (.ops [oX 4 (.assign (iK 1)) 3]) .ret) .skip)) (.seq (.seq (.ops [oM 14 0 3,oM 15 1 3,oB 16 .lss 3 (tK 14) (tK 15) 3 4]) (.cond (tK 16) (.seq (.ops [oX 4 (.assign (.const (.int .i64 (-1)))) 3]) .ret) .skip)) (.seq (.seq (.ops [oM 17 0 3,oM 18 1 3,oB 19 .gtr 3 (tK 17) (tK 18) 3 4]) (.cond (tK 19) (.seq (.ops [oX 4 (.assign (iK 1)) 3]) .ret) .skip)) (.seq (.ops [oX 4 (.assign (iK 0)) 3]) .ret)))))))
theorem A3I:Tryz.f96.body.map (BO lends)=some k96:=by kernel_rfl
theorem AIZ:Bi Tryz.f96 2=true:=by kernel_rfl
theorem c96{a l:List D}{r:D×List D}(h:Bf Y.env k96 (EG AV l.length [ResultVar.tmp 4] r) (entry a l))(ha:a.length=2):Y.call 96 a l=some r:=
 AL (Y:=Y) rfl Tryz.func96 (ha▸AIZ) A3I h
theorem O6(x_ y:Int){r:Int}(h:F9 x_ y=some r):Y.call 96 [D.int .i64 x_,D.int .i64 y] []=some (D.int .i64 r,[]):=by
 refine c96 ?_ rfl;unfold k96;unfold F9 at h;obtain⟨Cv,hl1,h⟩:=AU h;try dsimp only at h
 have c1:=F8 x_ hl1;obtain⟨Au,hl2,h⟩:=AU h;try dsimp only at h
 have c2:=F8 y hl2;by_cases e3:Cv=true
 ·rw [if_pos e3]at h;by_cases e4:Au=true
  ·rw [if_pos e4]at h;cases h;simp (maxDischargeDepth:=9) only [↓AC,A7,BM,AA,AJ,↓reduceIte,Nat.reduceEqDiff,Nat.reduceLT,Nat.reduceAdd,Int.reduceNeg,c1,c2,e3,e4]
  ·rw [if_neg e4]at h;have e4f:Au=false:=Bool.eq_false_iff.mpr e4;cases h;simp (maxDischargeDepth:=9) only [↓AC,A7,BM,AA,AJ,↓reduceIte,Nat.reduceEqDiff,Nat.reduceLT,Nat.reduceAdd,Int.reduceNeg,c1,c2,e3,e4f]
 ·rw [if_neg e3]at h;have e3f:Cv=false:=Bool.eq_false_iff.mpr e3;by_cases e4:Au=true
  ·rw [if_pos e4]at h;cases h;simp (maxDischargeDepth:=9) only [↓AC,A7,BM,AA,AJ,↓reduceIte,Nat.reduceEqDiff,Nat.reduceLT,Nat.reduceAdd,Int.reduceNeg,c1,c2,e3f,e4]
  ·rw [if_neg e4]at h;have e4f:Au=false:=Bool.eq_false_iff.mpr e4;by_cases e5:x_<y
   ·rw [if_pos e5]at h;cases h;simp (maxDischargeDepth:=9) only [↓AC,A7,BM,AA,AJ,↓reduceIte,Nat.reduceEqDiff,Nat.reduceLT,Nat.reduceAdd,Int.reduceNeg,c1,c2,e3f,e4f,e5]
   ·rw [if_neg e5]at h;by_cases e6:y<x_
    ·rw [if_pos e6]at h;cases h;simp (maxDischargeDepth:=9) only [↓AC,A7,BM,AA,AJ,↓reduceIte,Nat.reduceEqDiff,Nat.reduceLT,Nat.reduceAdd,Int.reduceNeg,c1,c2,e3f,e4f,e5,e6]
    ·rw [if_neg e6]at h;cases h;simp (maxDischargeDepth:=9) only [↓AC,A7,BM,AA,AJ,↓reduceIte,Nat.reduceEqDiff,Nat.reduceLT,Nat.reduceAdd,Int.reduceNeg,c1,c2,e3f,e4f,e5,e6]
noncomputable def Lu(s1_ s2_:List Int)(BP:Int):Option ((Int)⊕(Int⊕Unit)):= if BP<(s1_.length:Int)then ck (0≤BP∧BP.toNat<s1_.length)<| if(s2_.length:Int)≤BP then some (Sum.inr (Sum.inl 1)) else ck (0≤BP∧BP.toNat<s2_.length)<| (F9 (s1_.getD BP.toNat default) (s2_.getD BP.toNat default)).bind fun Lv=> if Lv=0 then some (Sum.inl (IntKind.i64.wrap (BP+1))) else some (Sum.inr (Sum.inl Lv)) else some (Sum.inr (Sum.inr ()))
noncomputable def Oz(s1_ s2_:List Int)(v:Int):Option (Int⊕Unit):=Gb (fun v=>Lu s1_ s2_ v) v
noncomputable def gCp(s1_ s2_:List Int):Option (Int):=
 (Oz s1_ s2_ 0).bind fun Au=>
 match Au with
 | .inl q2_=>
  some q2_
 | .inr q2_=>
  if(s1_.length:Int)<(s2_.length:Int)then
   some (-1)
  else
   some 0
def Z8:SC:= .seq (.ops [oB 12 .lss 3 (tK 11) (tK 10) 3 0]) (.seq (.cond (tK 12) .skip (.exit 0)) (.seq (.block 1 (.seq (.ops [oM 13 11 3,oI 14 27 9 11,oL 15 3 14 3,oA 5 13 3,oA 6 15 3]) (.seq (.seq (.ops [oM 16 5 3,oM 17 1 27,oN 18 17 27,oB 19 .geq 3 (tK 16) (tK 18) 3 4]) (.cond (tK 19) (.seq (.ops [oX 4 (.assign (iK 1)) 3]) .ret) .skip)) (.seq (.ops [oM 20 1 27,oM 21 5 3,oI 22 27 20 21,oL 23 3 22 3,oA 7 23 3]) (.seq (.ops [oM 24 6 3,oM 25 7 3,oC 26 96 [(tK 24),(tK 25)] [3,3] 3,oA 8 26 3]) (.seq (.ops [oM 27 8 3,oB 28 .neq 3 (tK 27) (iK 0) 3 4]) (.cond (tK 28) (.seq (.ops [oM 29 8 3,oA 4 29 3]) .ret) .skip))))))) (.ops [oB 30 .add 3 (tK 11) (iK 1) 3 3,oM 11 30 3])))
def sw:SC:= .loop Z8
def k64:SC:= .seq (.ops [oX 4 (.assign (iK 0)) 3]) (.seq (.seq (.ops [oM 9 0 27,oN 10 9 27,oX 11 (.move (iK 0)) 3]) (.block 0 sw)) (.seq (.seq (.ops [oM 31 0 27,oN 32 31 27,oM 33 1 27,oN 34 33 27,oB 35 .lss 3 (tK 32) (tK 34) 3 4]) (.cond (tK 35) (.seq (.ops [oX 4 (.assign (.const (.int .i64 (-1)))) 3]) .ret) .skip)) (.seq (.ops [oX 4 (.assign (iK 0)) 3]) .ret)))
theorem A3K:Tryz.f64.body.map (BO lends)=some k64:=by kernel_rfl
theorem AIb:Bi Tryz.f64 2=true:=by kernel_rfl
theorem c64{a l:List D}{r:D×List D}(h:Bf Y.env k64 (EG AV l.length [ResultVar.tmp 4] r) (entry a l))(ha:a.length=2):Y.call 64 a l=some r:=
 AL (Y:=Y) rfl Tryz.func64 (ha▸AIb) A3K h
def Kg(s1_ s2_:List Int)(BP:Int)(s:St):Prop:=s.v 0=D.sl 3 (AB (D.int .i64) s1_)∧s.v 1=D.sl 3 (AB (D.int .i64) s2_)∧s.v 9=D.sl 3 (AB (D.int .i64) s1_)∧s.v 10=D.int .i64 (s1_.length:Int)∧s.v 11=D.int .i64 BP
def Lx(s1_ s2_:List Int)(r:Int⊕Unit)(ex:Ex)(s:St):Prop:=match r with
 | .inl q=>ex= .ret∧s.v 4=D.int .i64 q
 | .inr q=>ex= .exit 0∧s.v 0=D.sl 3 (AB (D.int .i64) s1_)∧s.v 1=D.sl 3 (AB (D.int .i64) s2_)
theorem nE(s1_ s2_:List Int){v:Int}{s:St}{r:Int⊕Unit}(h:Oz s1_ s2_ v=some r)(hM:Kg s1_ s2_ v s):Bf Y.env sw (Lx s1_ s2_ r) s:=by
 unfold Oz at h;refine BA (c:=Z8) (fun v=>Lu s1_ s2_ v) (fun v s=>Kg s1_ s2_ v s) (Lx s1_ s2_) ?_ h hM;clear h hM s v r;intro BP s o hM h;unfold Lu at h;unfold Kg at hM;obtain⟨m0,m1,m2,m3,m4⟩:=hM;unfold Z8;by_cases e1:BP<(s1_.length:Int)
 ·rw [if_pos e1]at h;obtain⟨e2,h⟩:=Av h;by_cases e3:(s2_.length:Int)≤BP
  ·rw [if_pos e3]at h;cases h;simp (maxDischargeDepth:=9) only [↓AC,A7,AO,AA,AJ,↓reduceIte,Nat.reduceEqDiff,Nat.reduceLT,m1,m2,m3,m4,e1,e2.1,e2.2,e3,Kg,Lx,Pz]
  ·rw [if_neg e3]at h;obtain⟨e4,h⟩:=Av h;obtain⟨Lv,hl5,h⟩:=AU h;try dsimp only at h
   have c5:=O6 (s1_.getD BP.toNat default) (s2_.getD BP.toNat default) hl5;by_cases e6:Lv=0
   ·rw [if_pos e6]at h;cases h;simp (maxDischargeDepth:=9) only [↓AC,A7,AO,BM,AA,AJ,↓reduceIte,Nat.reduceEqDiff,Nat.reduceLT,Nat.reduceAdd,m0,m1,m2,m3,m4,e1,e2.1,e2.2,e3,e4.2,c5,decide_eq_true e6,Kg,FD]
   ·rw [if_neg e6]at h;cases h;simp (maxDischargeDepth:=9) only [↓AC,A7,AO,BM,AA,AJ,↓reduceIte,Nat.reduceEqDiff,Nat.reduceLT,Nat.reduceAdd,m1,m2,m3,m4,e1,e2.1,e2.2,e3,e4.2,c5,e6,Kg,Lx,Pz]
 ·rw [if_neg e1]at h;cases h;simp (maxDischargeDepth:=9) only [↓AC,A7,AJ,↓reduceIte,Nat.reduceEqDiff,Nat.reduceLT,m0,m1,m3,m4,e1,Kg,Lx,JH]
theorem eD(s1_ s2_:List Int){r:Int}(h:gCp s1_ s2_=some r):Y.call 64 [D.sl 3 (AB (D.int .i64) s1_),D.sl 3 (AB (D.int .i64) s2_)] []=some (D.int .i64 r,[]):=by
 refine c64 ?_ rfl;unfold k64;unfold gCp at h;obtain⟨Au,hl2,h⟩:=AU h;try dsimp only at h
 simp (maxDischargeDepth:=9) only [↓AC,A7,AO,AA,AJ,↓reduceIte,Nat.reduceEqDiff,Nat.reduceLT,Int.reduceNeg];refine Ag (nE s1_ s2_ hl2 ?_) ?_
 ·simp (maxDischargeDepth:=9) only [A7,AA,↓reduceIte,Nat.reduceEqDiff,Nat.reduceLT,Kg]
 ·intro ex2 s2 hX2;rcases Au with q2_ | q2_
  ·unfold Lx at hX2;dsimp only at hX2 h;obtain⟨rfl,n2_0⟩:=hX2;cases h;simp (maxDischargeDepth:=9) only [↓AC,A7,AA,↓reduceIte,n2_0]
  ·unfold Lx at hX2;dsimp only at hX2 h;obtain⟨rfl,n2_0,n2_1⟩:=hX2;by_cases e3:(s1_.length:Int)<(s2_.length:Int)
   ·rw [if_pos e3]at h;cases h;simp (maxDischargeDepth:=9) only [↓AC,A7,AO,AA,AJ,↓reduceIte,Nat.reduceEqDiff,Nat.reduceLT,Int.reduceNeg,n2_0,n2_1,e3]
   ·rw [if_neg e3]at h;cases h;simp (maxDischargeDepth:=9) only [↓AC,A7,AO,AA,AJ,↓reduceIte,Nat.reduceEqDiff,Nat.reduceLT,Int.reduceNeg,n2_0,n2_1,e3]
theorem SY(x y:Int):F9 x y=some (if x<y then-1 else if y<x then 1 else 0):=by
 unfold F9 Cc;by_cases h1:x<y<;>by_cases h2:y<x<;>simp [h1,h2]
theorem X5: ∀(a b p q:List Int),p.length=q.length→p.length+a.length<1099511627776→q.length+b.length<1099511627776→
  (Oz (p++a) (q++b) (p.length:Int)).bind (fun r=>match r with | .inl q2=>some q2 | .inr _=>if((p++a).length:Int)<((q++b).length:Int)then some (-1)else some 0)=some (cmpL a b):=by
 intro a
 induction a with
 | nil=>
  intro b p q hpq ha hb;unfold Oz;rw [Ep (r:=Sum.inr ())]
  ·simp only [Option.bind_some,List.append_nil,List.length_append,hpq]
   cases b with
   | nil=>rw [if_neg (by simp)];rfl
   | cons y b=>rw [if_pos (by simp;omega)];rfl
  ·simp only [Lu];rw [if_neg (R4 _)]
 | cons x a ih=>
  intro b p q hpq ha hb;simp only [List.length_cons]at ha hb;have ex:(p++x::a).getD (p.length:Int).toNat default=x:=by rw [Int.toNat_natCast];exact DD p (x::a) p.length rfl (by simp)
  cases b with
  | nil=>
   unfold Oz;rw [Ep (r:=Sum.inl 1)]
   ·rfl
   ·simp only [Lu];rw [if_pos (Q6 ..),Az (Q7 ..),if_pos (by simp;omega)]
  | cons y b=>
   simp only [List.length_cons]at hb;have ey:(q++y::b).getD (p.length:Int).toNat default=y:=by rw [Int.toNat_natCast,hpq];exact DD q (y::b) q.length rfl (by simp)
   have step:Lu (p++x::a) (q++y::b) (p.length:Int)=if x=y then some (.inl (((p++[x]).length:Nat):Int))else some (.inr (.inl (if x<y then-1 else 1))):=by
    unfold Lu;rw [if_pos (Q6 ..),Az (Q7 ..),if_neg (by simp;omega),Az (by simp;omega),ex,ey,SY,Option.bind_some,JM _ (by omega)]
    by_cases h1:x=y
    ·subst h1;simp
    ·rw [if_neg h1];by_cases h2:x<y
     ·simp [h2]
     ·have h3:y<x:=by omega
      simp [h2,h3]
   unfold cmpL;by_cases h1:x=y
   ·rw [if_pos h1];rw [if_pos h1]at step;have:=ih b (p++[x]) (q++[y]) (by simp [hpq]) (by simp;omega) (by simp;omega)
    unfold Oz at this ⊢;rw [KC step];simpa using this
   ·rw [if_neg h1];rw [if_neg h1]at step;unfold Oz;rw [Ep step];rfl
theorem tC(a b:List Int)(ha:a.length<1099511627776)(hb:b.length<1099511627776):gCp a b=some (cmpL a b):=by
 have:=X5 a b [] [] rfl (by simpa using ha) (by simpa using hb)
 unfold gCp;simp only [List.nil_append,List.length_nil,Int.natCast_zero]at this;exact this
theorem A3L(s1_ s2_:List Int)(h0:s1_.length<1099511627776)(h1:s2_.length<1099511627776):Y.call 64 [D.sl 3 (AB (D.int .i64) s1_),D.sl 3 (AB (D.int .i64) s2_)] []=some (D.int .i64 (cmpL s1_ s2_),[]):=eD s1_ s2_ (tC s1_ s2_ h0 h1)
noncomputable def P5(n_:Int):Option (Int):= if 0<n_ then some 1 else if n_<0 then some (-1) else some 0
def k84:SC:= .seq (.ops [oX 2 (.assign (iK 0)) 3]) (.seq (.block 0 (.seq (.ops [oM 4 0 3,oB 5 .gtr 3 (tK 4) (iK 0) 3 4,oA 3 5 4]) (.cond (tK 3) (.seq (.ops [oX 2 (.assign (iK 1)) 3]) .ret) (.seq (.ops [oM 7 0 3,oB 8 .lss 3 (tK 7) (iK 0) 3 4,oA 6 8 4]) (.cond (tK 6) (.seq (.ops [oX 2 (.assign (.const (.int .i64 (-1)))) 3]) .ret) .skip))))) (.seq (.ops [oX 2 (.assign (iK 0)) 3]) .ret))
theorem A3M:Tryz.f84.body.map (BO lends)=some k84:=by kernel_rfl
theorem AId:Bi Tryz.f84 1=true:=by kernel_rfl
theorem c84{a l:List D}{r:D×List D}(h:Bf Y.env k84 (EG AV l.length [ResultVar.tmp 2] r) (entry a l))(ha:a.length=1):Y.call 84 a l=some r:=
 AL (Y:=Y) rfl Tryz.func84 (ha▸AId) A3M h
theorem X6(n_:Int){r:Int}(h:P5 n_=some r):Y.call 84 [D.int .i64 n_] []=some (D.int .i64 r,[]):=by
 refine c84 ?_ rfl;unfold k84;unfold P5 at h;by_cases e1:0<n_
 ·rw [if_pos e1]at h;cases h;simp (maxDischargeDepth:=9) only [↓AC,A7,AA,AJ,↓reduceIte,Nat.reduceEqDiff,Nat.reduceLT,Int.reduceNeg,e1]
 ·rw [if_neg e1]at h;by_cases e2:n_<0
  ·rw [if_pos e2]at h;cases h;simp (maxDischargeDepth:=9) only [↓AC,A7,AA,AJ,↓reduceIte,Nat.reduceEqDiff,Nat.reduceLT,Int.reduceNeg,e1,e2]
  ·rw [if_neg e2]at h;cases h;simp (maxDischargeDepth:=9) only [↓AC,A7,AA,AJ,↓reduceIte,Nat.reduceEqDiff,Nat.reduceLT,Int.reduceNeg,e1,e2]
noncomputable def Fy(a b:List Int)(M0:Int):Option ((Int)⊕(Int⊕Unit)):= if M0<(a.length:Int)then ck (0≤M0∧M0.toNat<a.length)<| ck (0≤M0∧M0.toNat<b.length)<| if(a.getD M0.toNat default)=(b.getD M0.toNat default)then some (Sum.inl (IntKind.i64.wrap (M0+1))) else (P5 (IntKind.i64.wrap ((a.getD M0.toNat default)-(b.getD M0.toNat default)))).bind fun Lv=> some (Sum.inr (Sum.inl Lv)) else some (Sum.inr (Sum.inr ()))
noncomputable def GR(a b:List Int)(v:Int):Option (Int⊕Unit):=Gb (fun v=>Fy a b v) v
noncomputable def PV(a b:List Int):Option (Int):=
 (GR a b 0).bind fun Au=>
 match Au with
 | .inl q2_=>
  some q2_
 | .inr q2_=>
  some 0
def Z9:SC:= .seq (.ops [oB 10 .lss 3 (tK 9) (tK 8) 3 0]) (.seq (.cond (tK 10) .skip (.exit 0)) (.seq (.block 1 (.seq (.ops [oM 11 9 3,oI 12 27 7 9,oL 13 3 12 3,oA 5 11 3,oA 6 13 3]) (.seq (.ops [oM 14 6 3,oM 15 1 27,oM 16 5 3,oI 17 27 15 16,oL 18 3 17 3,oB 19 .neq 3 (tK 14) (tK 18) 3 4]) (.cond (tK 19) (.seq (.ops [oM 20 6 3,oM 21 1 27,oM 22 5 3,oI 23 27 21 22,oL 24 3 23 3,oB 25 .sub 3 (tK 20) (tK 24) 3 3,oC 26 84 [(tK 25)] [3] 3,oA 4 26 3]) .ret) .skip)))) (.ops [oB 27 .add 3 (tK 9) (iK 1) 3 3,oM 9 27 3])))
def tF:SC:= .loop Z9
def k55:SC:= .seq (.ops [oX 4 (.assign (iK 0)) 3]) (.seq (.seq (.ops [oM 7 0 27,oN 8 7 27,oX 9 (.move (iK 0)) 3]) (.block 0 tF)) (.seq (.ops [oX 4 (.assign (iK 0)) 3]) .ret))
theorem A3N:Tryz.f55.body.map (BO lends)=some k55:=by kernel_rfl
theorem AIf:Bi Tryz.f55 2=true:=by kernel_rfl
theorem c55{a l:List D}{r:D×List D}(h:Bf Y.env k55 (EG AV l.length [ResultVar.tmp 4] r) (entry a l))(ha:a.length=2):Y.call 55 a l=some r:=
 AL (Y:=Y) rfl Tryz.func55 (ha▸AIf) A3N h
def Eh(a b:List Int)(M0:Int)(s:St):Prop:=s.v 1=D.sl 3 (AB (D.int .i64) b)∧s.v 7=D.sl 3 (AB (D.int .i64) a)∧s.v 8=D.int .i64 (a.length:Int)∧s.v 9=D.int .i64 M0
def Fz(a b:List Int)(r:Int⊕Unit)(ex:Ex)(s:St):Prop:=match r with
 | .inl q=>ex= .ret∧s.v 4=D.int .i64 q
 | .inr q=>ex= .exit 0
theorem Tz(a b:List Int){v:Int}{s:St}{r:Int⊕Unit}(h:GR a b v=some r)(hM:Eh a b v s):Bf Y.env tF (Fz a b r) s:=by
 unfold GR at h;refine BA (c:=Z9) (fun v=>Fy a b v) (fun v s=>Eh a b v s) (Fz a b) ?_ h hM;clear h hM s v r;intro M0 s o hM h;unfold Fy at h;unfold Eh at hM;obtain⟨m0,m1,m2,m3⟩:=hM;unfold Z9;by_cases e1:M0<(a.length:Int)
 ·rw [if_pos e1]at h;obtain⟨e2,h⟩:=Av h;obtain⟨e3,h⟩:=Av h;by_cases e4:(a.getD M0.toNat default)=(b.getD M0.toNat default)
  ·rw [if_pos e4]at h;cases h;simp (maxDischargeDepth:=9) only [↓AC,A7,AO,AA,AJ,↓reduceIte,Nat.reduceEqDiff,Nat.reduceLT,m0,m1,m2,m3,e1,e2.1,e2.2,e3.2,decide_eq_true e4,Eh,FD]
  ·rw [if_neg e4]at h;obtain⟨Lv,hl5,h⟩:=AU h;try dsimp only at h
   have c5:=X6 (IntKind.i64.wrap ((a.getD M0.toNat default)-(b.getD M0.toNat default))) hl5;cases h;simp (maxDischargeDepth:=9) only [↓AC,A7,AO,BM,AA,AJ,↓reduceIte,Nat.reduceEqDiff,Nat.reduceLT,Nat.reduceAdd,m0,m1,m2,m3,e1,e2.1,e2.2,e3.2,e4,c5,Eh,Fz,Pz]
 ·rw [if_neg e1]at h;cases h;simp (maxDischargeDepth:=9) only [↓AC,A7,AJ,↓reduceIte,Nat.reduceLT,m2,m3,e1,Eh,Fz,JH]
theorem Ve(a b:List Int){r:Int}(h:PV a b=some r):Y.call 55 [D.sl 3 (AB (D.int .i64) a),D.sl 3 (AB (D.int .i64) b)] []=some (D.int .i64 r,[]):=by
 refine c55 ?_ rfl;unfold k55;unfold PV at h;obtain⟨Au,hl2,h⟩:=AU h;try dsimp only at h
 simp (maxDischargeDepth:=9) only [↓AC,A7,AO,AA,AJ,↓reduceIte,Nat.reduceEqDiff,Nat.reduceLT];refine Ag (Tz a b hl2 ?_) ?_
 ·simp (maxDischargeDepth:=9) only [A7,AA,↓reduceIte,Nat.reduceEqDiff,Nat.reduceLT,Eh]
 ·intro ex2 s2 hX2;rcases Au with q2_ | q2_
  ·unfold Fz at hX2;dsimp only at hX2 h;obtain⟨rfl,n2_0⟩:=hX2;cases h;simp (maxDischargeDepth:=9) only [↓AC,A7,AA,↓reduceIte,n2_0]
  ·unfold Fz at hX2;dsimp only at hX2 h
   obtain rfl:=hX2
   cases h;simp (maxDischargeDepth:=9) only [↓AC,A7,AA,AJ,↓reduceIte,Nat.reduceEqDiff,Nat.reduceLT]
def GU(l:List Int):Bool:=Ke l (-1099511627776) 1099511627776
theorem Vf{l:List Int}(h:GU l=true){x:Int}(hx:x∈l): -1099511627776≤x∧x≤1099511627776:=by
 have:=List.all_eq_true.1 h x hx;exact MZ.1 this
theorem Xq{l:List Int}{lo hi:Int}(h:Ke l lo hi=true)(h1: -1099511627776≤lo)(h2:hi≤1099511627776):GU l=true:=by
 refine List.all_eq_true.2 fun x hx=> ?_;have:=MZ.1 (List.all_eq_true.1 h x hx)
 exact MZ.2 ⟨by omega,by omega⟩
theorem eF(n:Int):P5 n=some (if n<0 then-1 else if 0<n then 1 else 0):=by
 unfold P5;by_cases h1:n<0<;>by_cases h2:0<n<;>simp [h1,h2]<;>omega
theorem eG: ∀(a b p q:List Int),p.length=q.length→a.length=b.length→p.length+a.length<1099511627776→GU a=true→GU b=true→
  (GR (p++a) (q++b) (p.length:Int)).bind (fun r=>match r with | .inl q2=>some q2 | .inr _=>some 0)=some (cmpL a b):=by
 intro a
 induction a with
 | nil=>
  intro b p q hpq hab ha h1 h2;have:b=[]:=by cases b with | nil=>rfl | cons _ _=>simp at hab
  subst this;unfold GR;rw [Ep (r:=Sum.inr ())]
  ·rfl
  ·simp only [Fy];rw [if_neg (R4 _)]
 | cons x a ih=>
  intro b p q hpq hab ha h1 h2
  cases b with
  | nil=>simp at hab
  | cons y b=>
   simp only [List.length_cons]at ha hab;have sx1:=Vf h1 (List.mem_cons_self ..);have sy1:=Vf h2 (List.mem_cons_self ..);have ex:(p++x::a).getD (p.length:Int).toNat default=x:=by rw [Int.toNat_natCast];exact DD p (x::a) p.length rfl (by simp)
   have ey:(q++y::b).getD (p.length:Int).toNat default=y:=by rw [Int.toNat_natCast,hpq];exact DD q (y::b) q.length rfl (by simp)
   have step:Fy (p++x::a) (q++y::b) (p.length:Int)=if x=y then some (.inl (((p++[x]).length:Nat):Int))else some (.inr (.inl (if x<y then-1 else 1))):=by
    unfold Fy;rw [if_pos (Q6 ..),Az (Q7 ..),Az (by simp;omega),ex,ey,JM _ (by omega),Ie _ (by omega),eF,Option.bind_some]
    by_cases h1:x=y
    ·subst h1;simp
    ·rw [if_neg h1,if_neg h1];by_cases h2:x<y
     ·rw [if_pos (by omega),if_pos h2]
     ·rw [if_neg (by omega),if_pos (by omega),if_neg h2]
   have s1:GU a=true:=List.all_eq_true.2 fun z hz=>List.all_eq_true.1 h1 z (List.mem_cons_of_mem _ hz);have s2:GU b=true:=List.all_eq_true.2 fun z hz=>List.all_eq_true.1 h2 z (List.mem_cons_of_mem _ hz);unfold cmpL;by_cases h1:x=y
   ·rw [if_pos h1];rw [if_pos h1]at step;have:=ih b (p++[x]) (q++[y]) (by simp [hpq]) (by omega) (by simp;omega) s1 s2
    unfold GR at this ⊢;rw [KC step];simpa using this
   ·rw [if_neg h1];rw [if_neg h1]at step;unfold GR;rw [Ep step];rfl
theorem ZA(a b:List Int)(ha:a.length<1099511627776)(hab:a.length=b.length)(h1:GU a=true)(h2:GU b=true):PV a b=some (cmpL a b):=by
 have:=eG a b [] [] rfl hab (by simpa using ha) h1 h2
 unfold PV;simp only [List.nil_append,List.length_nil,Int.natCast_zero]at this;exact this
theorem RB(a b:List Int)(h0:a.length<1099511627776)(h1:a.length=b.length)(h2:GU a=true)(h3:GU b=true):Y.call 55 [D.sl 3 (AB (D.int .i64) a),D.sl 3 (AB (D.int .i64) b)] []=some (D.int .i64 (cmpL a b),[]):=Ve a b (ZA a b h0 h1 h2 h3)
def O7(l:List (List Int))(size labels:Int)(i:Nat):Bool:=
 ((decide (((l.getD i default).length:Int)=size)&&GQ (l.getD i default))&&Ke (l.getD i default) 0 (labels-1))&&(decide (i=0)||decide (cmpL (l.getD (i-1) default) (l.getD i default)<0))
def Ir(l:List (List Int))(size labels:Int):Bool:=(List.range l.length).all (O7 l size labels)
def JF(labels degree:Int)(ns es:List (List Int)):Bool:=((Ms labels 1 8&&Ms degree 1 4)&&Ir ns degree labels)&&Ir es 2 labels
theorem Ai.getD{l:List (List Int)}(h:Ai l)(i:Nat):(l.getD i default).length<1099511627776:=by
 rcases Nat.lt_or_ge i l.length with hi | hi
 ·rw [Ae _ _ hi];exact h.at i hi
 ·rw [List.getD_eq_getElem?_getD,List.getElem?_eq_none hi];decide
noncomputable def NR(list:List (List Int))(size labels BP:Int):Option ((Int)⊕(Unit⊕Unit)):= if BP<(list.length:Int)then ck (0≤BP∧BP.toNat<list.length)<| if((list.getD BP.toNat default).length:Int)=size then ck ((list.getD BP.toNat default).length<1099511627776)<| if(GQ (list.getD BP.toNat default))=true then if(Ke (list.getD BP.toNat default) (0:Int) (IntKind.i64.wrap (labels-1)))=true then if 0<BP then ck (0≤IntKind.i64.wrap (BP-1)∧(IntKind.i64.wrap (BP-1)).toNat<list.length)<| ck ((list.getD ((IntKind.i64.wrap (BP-1)).toNat) default).length<1099511627776)<| if 0≤(cmpL (list.getD ((IntKind.i64.wrap (BP-1)).toNat) default) (list.getD BP.toNat default))then some (Sum.inr (Sum.inl ())) else some (Sum.inl (IntKind.i64.wrap (BP+1))) else some (Sum.inl (IntKind.i64.wrap (BP+1))) else some (Sum.inr (Sum.inl ())) else some (Sum.inr (Sum.inl ())) else some (Sum.inr (Sum.inl ())) else some (Sum.inr (Sum.inr ()))
noncomputable def ZB(list:List (List Int))(size labels v:Int):Option (Unit⊕Unit):=Gb (fun v=>NR list size labels v) v
noncomputable def iCO(list:List (List Int))(size labels:Int):Option (Bool):=
 (ZB list size labels 0).bind fun Au=>
 match Au with
 | .inl q2_=>
  some false
 | .inr q2_=>
  some true
def ZC:SC:= .seq (.ops [oB 12 .lss 3 (tK 11) (tK 10) 3 0]) (.seq (.cond (tK 12) .skip (.exit 0)) (.seq (.block 1 (.seq (.ops [oM 13 11 3,oI 14 22 9 11,oL 15 27 14 27,oA 7 13 3,oA 8 15 27]) (.seq (.ops [oM 16 8 27,oN 17 16 27,oM 18 1 3,oB 19 .neq 3 (tK 17) (tK 18) 3 4,oM 20 19 4,⟨some 21,.move (tK 8),27,(some (some 20,false))⟩,⟨some 22,.call ⟨(.value (.func 62)), #[(tK 21)], #[27]⟩,4,(some (some 20,false))⟩,⟨some 23,.unOp .not 4 (tK 22),4,(some (some 20,false))⟩,oX 24 (.pick (tK 20) (.const (.bool true)) (tK 23)) 4,oM 25 24 4,⟨some 26,.move (tK 8),27,(some (some 25,false))⟩,⟨some 27,.move (tK 2),3,(some (some 25,false))⟩,⟨some 28,.binOp .sub 3 (tK 27) (iK 1) 3,3,(some (some 25,false))⟩,⟨some 29,.call ⟨(.value (.func 63)), #[(tK 26),(iK 0),(tK 28)], #[27,3,3]⟩,4,(some (some 25,false))⟩,⟨some 30,.unOp .not 4 (tK 29),4,(some (some 25,false))⟩,oX 31 (.pick (tK 25) (.const (.bool true)) (tK 30)) 4,oM 32 31 4,⟨some 33,.move (tK 7),3,(some (some 32,false))⟩,⟨some 34,.binOp .gtr 3 (tK 33) (iK 0) 3,4,(some (some 32,false))⟩,⟨some 35,.move (tK 34),4,(some (some 32,false))⟩,⟨some 36,.move (tK 0),22,(some (some 35,true))⟩,⟨some 37,.move (tK 7),3,(some (some 35,true))⟩,
 ⟨some 38,.binOp .sub 3 (tK 37) (iK 1) 3,3,(some (some 35,true))⟩,⟨some 39,.indexAddr 22 (tK 36) (tK 38),0,(some (some 35,true))⟩,⟨some 40,.load 27 (tK 39),27,(some (some 35,true))⟩,⟨some 41,.move (tK 8),27,(some (some 35,true))⟩,⟨some 42,.call ⟨(.value (.func 64)), #[(tK 40),(tK 41)], #[27,27]⟩,3,(some (some 35,true))⟩,⟨some 43,.binOp .geq 3 (tK 42) (iK 0) 3,4,(some (some 35,true))⟩,⟨some 44,.pick (tK 35) (tK 43) (.const (.bool false)),4,(some (some 32,false))⟩,oX 45 (.pick (tK 32) (.const (.bool true)) (tK 44)) 4]) (.cond (tK 45) (.seq (.ops [oX 6 (.assign (.const (.bool false))) 4]) .ret) .skip)))) (.ops [oB 46 .add 3 (tK 11) (iK 1) 3 3,oM 11 46 3])))
def tH:SC:= .loop ZC
def k39:SC:= .seq (.ops [oX 6 (.assign (.const (.bool false))) 4]) (.seq (.seq (.ops [oM 9 0 22,oN 10 9 22,oX 11 (.move (iK 0)) 3]) (.block 0 tH)) (.seq (.ops [oX 6 (.assign (.const (.bool true))) 4]) .ret))
theorem A3O:Tryz.f39.body.map (BO lends)=some k39:=by kernel_rfl
theorem AIi:Bi Tryz.f39 3=true:=by kernel_rfl
theorem nG{a l:List D}{r:D×List D}(h:Bf Y.env k39 (EG AV l.length [ResultVar.tmp 6] r) (entry a l))(ha:a.length=3):Y.call 39 a l=some r:=
 AL (Y:=Y) rfl Tryz.func39 (ha▸AIi) A3O h
def Hr(list:List (List Int))(size labels BP:Int)(s:St):Prop:=s.v 0=D.sl 27 (AB (fun x=>D.sl 3 (AB (D.int .i64) x)) list)∧s.v 1=D.int .i64 size∧s.v 2=D.int .i64 labels∧s.v 9=D.sl 27 (AB (fun x=>D.sl 3 (AB (D.int .i64) x)) list)∧s.v 10=D.int .i64 (list.length:Int)∧s.v 11=D.int .i64 BP
def Ja(list:List (List Int))(size labels:Int)(r:Unit⊕Unit)(ex:Ex)(s:St):Prop:=match r with
 | .inl q=>ex= .ret∧s.v 6=D.bool false
 | .inr q=>ex= .exit 0
theorem nH(list:List (List Int))(size labels:Int){v:Int}{s:St}{r:Unit⊕Unit}(h:ZB list size labels v=some r)(hM:Hr list size labels v s):Bf Y.env tH (Ja list size labels r) s:=by
 unfold ZB at h;refine BA (c:=ZC) (fun v=>NR list size labels v) (fun v s=>Hr list size labels v s) (Ja list size labels) ?_ h hM;clear h hM s v r;intro BP s o hM h;unfold NR at h;unfold Hr at hM;obtain⟨m0,m1,m2,m3,m4,m5⟩:=hM;unfold ZC;by_cases e1:BP<(list.length:Int)
 ·rw [if_pos e1]at h;obtain⟨e2,h⟩:=Av h;by_cases e3:((list.getD BP.toNat default).length:Int)=size
  ·rw [if_pos e3]at h;obtain⟨e4,h⟩:=Av h;have c5:=A3H (list.getD BP.toNat default) e4;by_cases e6:(GQ (list.getD BP.toNat default))=true
   ·rw [if_pos e6]at h;have c7:=Vd (list.getD BP.toNat default) (0:Int) (IntKind.i64.wrap (labels-1)) e4;by_cases e8:(Ke (list.getD BP.toNat default) (0:Int) (IntKind.i64.wrap (labels-1)))=true
    ·rw [if_pos e8]at h;by_cases e9:0<BP
     ·rw [if_pos e9]at h;obtain⟨e10,h⟩:=Av h;obtain⟨e11,h⟩:=Av h;have c12:=A3L (list.getD ((IntKind.i64.wrap (BP-1)).toNat) default) (list.getD BP.toNat default) e11 e4;by_cases e13:0≤(cmpL (list.getD ((IntKind.i64.wrap (BP-1)).toNat) default) (list.getD BP.toNat default))
      ·rw [if_pos e13]at h;cases h;simp (maxDischargeDepth:=9) only [↓AC,A7,AO,BM,AA,AJ,↓reduceIte,Nat.reduceEqDiff,Nat.reduceLT,Nat.reduceAdd,m0,m1,m2,m3,m4,m5,e1,e2.1,e2.2,decide_eq_true e3,c5,e6,c7,e8,e9,e10.1,e10.2,c12,e13,Hr,Ja,Pz]
      ·rw [if_neg e13]at h;cases h;simp (maxDischargeDepth:=9) only [↓AC,A7,AO,BM,AA,AJ,↓reduceIte,Nat.reduceEqDiff,Nat.reduceLT,Nat.reduceAdd,m0,m1,m2,m3,m4,m5,e1,e2.1,e2.2,decide_eq_true e3,c5,e6,c7,e8,e9,e10.1,e10.2,c12,e13,Hr,FD]
     ·rw [if_neg e9]at h;cases h;simp (maxDischargeDepth:=9) only [↓AC,A7,AO,BM,AA,AJ,↓reduceIte,Nat.reduceEqDiff,Nat.reduceLT,Nat.reduceAdd,m0,m1,m2,m3,m4,m5,e1,e2.1,e2.2,decide_eq_true e3,c5,e6,c7,e8,e9,Hr,FD]
    ·rw [if_neg e8]at h;have e8f:(Ke (list.getD BP.toNat default) (0:Int) (IntKind.i64.wrap (labels-1)))=false:=Bool.eq_false_iff.mpr e8;cases h;simp (maxDischargeDepth:=9) only [↓AC,A7,AO,BM,AA,AJ,↓reduceIte,Nat.reduceEqDiff,Nat.reduceLT,Nat.reduceAdd,m1,m2,m3,m4,m5,e1,e2.1,e2.2,decide_eq_true e3,c5,e6,c7,e8f,Hr,Ja,Pz]
   ·rw [if_neg e6]at h;have e6f:(GQ (list.getD BP.toNat default))=false:=Bool.eq_false_iff.mpr e6;cases h;simp (maxDischargeDepth:=9) only [↓AC,A7,AO,BM,AA,AJ,↓reduceIte,Nat.reduceEqDiff,Nat.reduceLT,Nat.reduceAdd,m1,m3,m4,m5,e1,e2.1,e2.2,decide_eq_true e3,c5,e6f,Hr,Ja,Pz]
  ·rw [if_neg e3]at h;cases h;simp (maxDischargeDepth:=9) only [↓AC,A7,AO,AA,AJ,↓reduceIte,Nat.reduceEqDiff,Nat.reduceLT,m1,m3,m4,m5,e1,e2.1,e2.2,e3,Hr,Ja,Pz]
 ·rw [if_neg e1]at h;cases h;simp (maxDischargeDepth:=9) only [↓AC,A7,AJ,↓reduceIte,Nat.reduceLT,m4,m5,e1,Hr,Ja,JH]
theorem tJ(list:List (List Int))(size labels:Int){r:Bool}(h:iCO list size labels=some r):Y.call 39 [D.sl 27 (AB (fun x=>D.sl 3 (AB (D.int .i64) x)) list),D.int .i64 size,D.int .i64 labels] []=some (D.bool r,[]):=by
 refine nG ?_ rfl;unfold k39;unfold iCO at h;obtain⟨Au,hl2,h⟩:=AU h;try dsimp only at h
 simp (maxDischargeDepth:=9) only [↓AC,A7,AO,AA,AJ,↓reduceIte,Nat.reduceEqDiff,Nat.reduceLT];refine Ag (nH list size labels hl2 ?_) ?_
 ·simp (maxDischargeDepth:=9) only [A7,AA,↓reduceIte,Nat.reduceEqDiff,Nat.reduceLT,Hr]
 ·intro ex2 s2 hX2;rcases Au with q2_ | q2_
  ·unfold Ja at hX2;dsimp only at hX2 h;obtain⟨rfl,n2_0⟩:=hX2;cases h;simp (maxDischargeDepth:=9) only [↓AC,A7,AA,↓reduceIte,n2_0]
  ·unfold Ja at hX2;dsimp only at hX2 h
   obtain rfl:=hX2
   cases h;simp (maxDischargeDepth:=9) only [↓AC,A7,AA,AJ,↓reduceIte,Nat.reduceEqDiff,Nat.reduceLT]
theorem A3P(l:List (List Int))(size labels:Int)(h:Ai l)(hl:1≤labels∧labels≤8):iCO l size labels=some (Ir l size labels):=by
 have h1:=h.1;unfold iCO ZB;have key:=MN (fun v=>NR l size labels v) (fun i=>(i:Int)) l.length (O7 l size labels) (.inl ()) (.inr ()) ?_ ?_
 ·simp only [Int.natCast_zero]at key;rw [key];unfold Ir
  cases (List.range l.length).all (O7 l size labels)<;>rfl
 ·intro i hi;simp only [NR];rw [if_pos (CJ hi),Az (FH hi),Int.toNat_natCast,JM i (by omega),Ie (labels-1) (by omega)]
  have hs:=h.getD i;have hs1:=h.getD (i-1);rw [Az hs];unfold O7;generalize l.getD i default=x at*;by_cases q1:(x.length:Int)=size
  ·rw [if_pos q1]
   cases q2:GQ x with
   | false=>simp
   | true=>
    rw [if_pos rfl]
    cases q3:Ke x 0 (labels-1)with
    | false=>simp
    | true=>
     rw [if_pos rfl];by_cases q4:i=0
     ·simp [q1,q4]
     ·rw [if_pos (by omega),Ie _ (by omega),Az (by omega),show((i:Int)-1).toNat=i-1 by omega,Az hs1]
      generalize l.getD (i-1) default=y at*;by_cases q5:0≤cmpL y x
      ·rw [if_pos q5,if_neg (by simp;intro _;exact⟨q4,q5⟩)]
      ·rw [if_neg q5,if_pos (by simp [q1,q4];omega)]
  ·have e:=decide_eq_false q1;rw [if_neg q1,if_neg (by rw [e];simp)]
 ·simp only [NR];rw [if_neg (Ak _)]
theorem tO(list:List (List Int))(size labels:Int)(h0:Ai list)(h1:1≤labels∧labels≤8):Y.call 39 [D.sl 27 (AB (fun x=>D.sl 3 (AB (D.int .i64) x)) list),D.int .i64 size,D.int .i64 labels] []=some (D.bool (Ir list size labels),[]):=tJ list size labels (A3P list size labels h0 h1)
noncomputable def M3(l:List (List Int))(size labels Bq k:Int):Option ((Int)⊕(Unit⊕Unit)):= if k<size then ck (0≤IntKind.i64.wrap (k-1)∧(IntKind.i64.wrap (k-1)).toNat<(l.getD Bq.toNat default).length)<| ck (0≤k∧k.toNat<(l.getD Bq.toNat default).length)<| if((l.getD Bq.toNat default).getD k.toNat default)<((l.getD Bq.toNat default).getD ((IntKind.i64.wrap (k-1)).toNat) default)then some (Sum.inr (Sum.inl ())) else some (Sum.inl (IntKind.i64.wrap (k+1))) else some (Sum.inr (Sum.inr ()))
noncomputable def Sa(l:List (List Int))(size labels Bq v:Int):Option (Unit⊕Unit):=Gb (fun v=>M3 l size labels Bq v) v
noncomputable def NS(l:List (List Int))(size labels Bq:Int):Option ((Int)⊕(Unit⊕Unit)):=
 if Bq<(l.length:Int)then
  ck (0≤Bq∧Bq.toNat<l.length)<|
  if((l.getD Bq.toNat default).length:Int)=size then
   ck ((l.getD Bq.toNat default).length<1099511627776)<|
   if(Ke (l.getD Bq.toNat default) (0:Int) (IntKind.i64.wrap (labels-1)))=true then
    if 0<Bq then
     ck (0≤IntKind.i64.wrap (Bq-1)∧(IntKind.i64.wrap (Bq-1)).toNat<l.length)<|
     ck ((l.getD ((IntKind.i64.wrap (Bq-1)).toNat) default).length<1099511627776)<|
     ck ((l.getD ((IntKind.i64.wrap (Bq-1)).toNat) default).length=(l.getD Bq.toNat default).length)<|
     ck (GU (l.getD ((IntKind.i64.wrap (Bq-1)).toNat) default)=true)<|
     ck (GU (l.getD Bq.toNat default)=true)<|
     if 0≤(cmpL (l.getD ((IntKind.i64.wrap (Bq-1)).toNat) default) (l.getD Bq.toNat default))then
      some (Sum.inr (Sum.inl ()))
     else
      (Sa l size labels Bq 1).bind fun A3Q=>
      match A3Q with
      | .inl q16_=>
       some (Sum.inr (Sum.inl ()))
      | .inr q16_=>
       some (Sum.inl (IntKind.i64.wrap (Bq+1)))
    else
     (Sa l size labels Bq 1).bind fun RD=>
     match RD with
     | .inl q9_=>
      some (Sum.inr (Sum.inl ()))
     | .inr q9_=>
      some (Sum.inl (IntKind.i64.wrap (Bq+1)))
   else
    some (Sum.inr (Sum.inl ()))
  else
   some (Sum.inr (Sum.inl ()))
 else
  some (Sum.inr (Sum.inr ()))
noncomputable def ZE(l:List (List Int))(size labels v:Int):Option (Unit⊕Unit):=Gb (fun v=>NS l size labels v) v
noncomputable def sPL(l:List (List Int))(size labels:Int):Option (Bool):=
 (ZE l size labels 0).bind fun Au=>
 match Au with
 | .inl q2_=>
  some false
 | .inr q2_=>
  some true
def ZF:SC:= .seq (.seq (.ops [oM 42 9 3,oM 43 1 3,oB 44 .lss 3 (tK 42) (tK 43) 3 4]) (.cond (tK 44) .skip (.exit 2))) (.seq (.block 3 (.seq (.draws [(⟨[47,8,8],[47,48,49,50,51,52,53,54,55,56],[47]⟩,oM 47 8 27),(⟨[48,9,9],[47,48,49,50,51,52,53,54,55,56],[48]⟩,oM 48 9 3),(⟨[49,48,9],[47,48,49,50,51,52,53,54,55,56],[49]⟩,oB 49 .sub 3 (tK 48) (iK 1) 3 3),(⟨[50,47,49,8,49],[47,48,49,50,51,52,53,54,55,56],[50]⟩,oI 50 27 47 49),(⟨[51,50,8],[47,48,49,50,51,52,53,54,55,56],[51]⟩,oL 51 3 50 3),(⟨[52,8,8],[47,48,49,50,51,52,53,54,55,56],[52]⟩,oM 52 8 27),(⟨[53,9,9],[47,48,49,50,51,52,53,54,55,56],[53]⟩,oM 53 9 3),(⟨[54,52,53,8,9],[47,48,49,50,51,52,53,54,55,56],[54]⟩,oI 54 27 52 53),(⟨[55,54,8],[47,48,49,50,51,52,53,54,55,56],[55]⟩,oL 55 3 54 3),(⟨[56,51,55,8,8],[47,48,49,50,51,52,53,54,55,56],[56]⟩,oB 56 .gtr 3 (tK 51) (tK 55) 3 4)]) (.cond (tK 56) (.seq (.ops [oX 6 (.assign (.const (.bool false))) 4]) .ret) .skip))) (.ops [oM 45 9 3,oB 46 .add 3 (tK 45) (iK 1) 3 3,oA 9 46 3]))
def tQ:SC:= .loop ZF
def ZG:SC:= .seq (.ops [oB 13 .lss 3 (tK 12) (tK 11) 3 0]) (.seq (.cond (tK 13) .skip (.exit 0)) (.seq (.block 1 (.seq (.ops [oM 14 12 3,oI 15 22 10 12,oL 16 27 15 27,oA 7 14 3,oA 8 16 27]) (.seq (.seq (.ops [oM 17 8 27,oN 18 17 27,oM 19 1 3,oB 20 .neq 3 (tK 18) (tK 19) 3 4,oM 21 20 4,⟨some 22,.move (tK 8),27,(some (some 21,false))⟩,⟨some 23,.move (tK 2),3,(some (some 21,false))⟩,⟨some 24,.binOp .sub 3 (tK 23) (iK 1) 3,3,(some (some 21,false))⟩,⟨some 25,.call ⟨(.value (.func 54)), #[(tK 22),(iK 0),(tK 24)], #[27,3,3]⟩,4,(some (some 21,false))⟩,⟨some 26,.unOp .not 4 (tK 25),4,(some (some 21,false))⟩,oX 27 (.pick (tK 21) (.const (.bool true)) (tK 26)) 4,oM 28 27 4,⟨some 29,.move (tK 7),3,(some (some 28,false))⟩,⟨some 30,.binOp .gtr 3 (tK 29) (iK 0) 3,4,(some (some 28,false))⟩,⟨some 31,.move (tK 30),4,(some (some 28,false))⟩,⟨some 32,.move (tK 0),22,(some (some 31,true))⟩,⟨some 33,.move (tK 7),3,(some (some 31,true))⟩,⟨some 34,.binOp .sub 3 (tK 33) (iK 1) 3,3,(some (some 31,true))⟩,⟨some 35,.indexAddr 22 (tK 32) (tK 34),0,(some (some 31,true))⟩,⟨some 36,.load 27 (tK 35),27,(some (some 31,true))⟩,⟨some 37,.move (tK 8),27,(some (some 31,true))⟩,⟨some 38,.call ⟨(.value (.func 55)), #[(tK 36),(tK 37)], #[27,27]⟩,3,(some (some 31,true))⟩,
 ⟨some 39,.binOp .geq 3 (tK 38) (iK 0) 3,4,(some (some 31,true))⟩,⟨some 40,.pick (tK 31) (tK 39) (.const (.bool false)),4,(some (some 28,false))⟩,oX 41 (.pick (tK 28) (.const (.bool true)) (tK 40)) 4]) (.cond (tK 41) (.seq (.ops [oX 6 (.assign (.const (.bool false))) 4]) .ret) .skip)) (.seq (.ops [oX 9 (.assign (iK 1)) 3]) (.block 2 tQ))))) (.ops [oB 57 .add 3 (tK 12) (iK 1) 3 3,oM 12 57 3])))
def tT:SC:= .loop ZG
def k34:SC:= .seq (.ops [oX 6 (.assign (.const (.bool false))) 4]) (.seq (.seq (.ops [oM 10 0 22,oN 11 10 22,oX 12 (.move (iK 0)) 3]) (.block 0 tT)) (.seq (.ops [oX 6 (.assign (.const (.bool true))) 4]) .ret))
theorem A3R:Tryz.f34.body.map (BO lends)=some k34:=by kernel_rfl
theorem AIk:Bi Tryz.f34 3=true:=by kernel_rfl
theorem eH{a l:List D}{r:D×List D}(h:Bf Y.env k34 (EG AV l.length [ResultVar.tmp 6] r) (entry a l))(ha:a.length=3):Y.call 34 a l=some r:=
 AL (Y:=Y) rfl Tryz.func34 (ha▸AIk) A3R h
def Kh(l:List (List Int))(size labels Bq k:Int)(s:St):Prop:=s.v 0=D.sl 27 (AB (fun x=>D.sl 3 (AB (D.int .i64) x)) l)∧s.v 1=D.int .i64 size∧s.v 2=D.int .i64 labels∧s.v 8=D.sl 3 (AB (D.int .i64) (l.getD Bq.toNat default))∧s.v 9=D.int .i64 k∧s.v 10=D.sl 27 (AB (fun x=>D.sl 3 (AB (D.int .i64) x)) l)∧s.v 11=D.int .i64 (l.length:Int)∧s.v 12=D.int .i64 Bq
def Ki(l:List (List Int))(size labels Bq:Int)(r:Unit⊕Unit)(ex:Ex)(s:St):Prop:=match r with
 | .inl q=>ex= .ret∧s.v 6=D.bool false
 | .inr q=>ex= .exit 2∧s.v 0=D.sl 27 (AB (fun x=>D.sl 3 (AB (D.int .i64) x)) l)∧s.v 1=D.int .i64 size∧s.v 2=D.int .i64 labels∧s.v 10=D.sl 27 (AB (fun x=>D.sl 3 (AB (D.int .i64) x)) l)∧s.v 11=D.int .i64 (l.length:Int)∧s.v 12=D.int .i64 Bq
theorem Xr(l:List (List Int))(size labels Bq:Int){v:Int}{s:St}{r:Unit⊕Unit}(h:Sa l size labels Bq v=some r)(hM:Kh l size labels Bq v s):Bf Y.env tQ (Ki l size labels Bq r) s:=by
 unfold Sa at h;refine BA (c:=ZF) (fun v=>M3 l size labels Bq v) (fun v s=>Kh l size labels Bq v s) (Ki l size labels Bq) ?_ h hM;clear h hM s v r;intro k s o hM h;unfold M3 at h;unfold Kh at hM;obtain⟨m0,m1,m2,m3,m4,m5,m6,m7⟩:=hM;unfold ZF;by_cases e15:k<size
 ·rw [if_pos e15]at h;obtain⟨e16,h⟩:=Av h;obtain⟨e17,h⟩:=Av h;by_cases e18:((l.getD Bq.toNat default).getD k.toNat default)<((l.getD Bq.toNat default).getD ((IntKind.i64.wrap (k-1)).toNat) default)
  ·rw [if_pos e18]at h;cases h;simp (maxDischargeDepth:=9) only [↓AC,A7,AO,AA,AJ,↓reduceIte,Nat.reduceEqDiff,Nat.reduceLT,m1,m3,m4,e15,e16.1,e16.2,e17.1,e17.2,e18,Kh,Ki,Pz]
  ·rw [if_neg e18]at h;cases h;simp (maxDischargeDepth:=9) only [↓AC,A7,AO,AA,AJ,↓reduceIte,Nat.reduceEqDiff,Nat.reduceLT,m0,m1,m2,m3,m4,m5,m6,m7,e15,e16.1,e16.2,e17.1,e17.2,e18,Kh,FD]
 ·rw [if_neg e15]at h;cases h;simp (maxDischargeDepth:=9) only [↓AC,A7,AJ,↓reduceIte,Nat.reduceEqDiff,Nat.reduceLT,m0,m1,m2,m4,m5,m6,m7,e15,Kh,Ki,JH]
def Gd(l:List (List Int))(size labels Bq:Int)(s:St):Prop:=s.v 0=D.sl 27 (AB (fun x=>D.sl 3 (AB (D.int .i64) x)) l)∧s.v 1=D.int .i64 size∧s.v 2=D.int .i64 labels∧s.v 10=D.sl 27 (AB (fun x=>D.sl 3 (AB (D.int .i64) x)) l)∧s.v 11=D.int .i64 (l.length:Int)∧s.v 12=D.int .i64 Bq
def Iu(l:List (List Int))(size labels:Int)(r:Unit⊕Unit)(ex:Ex)(s:St):Prop:=match r with
 | .inl q=>ex= .ret∧s.v 6=D.bool false
 | .inr q=>ex= .exit 0
theorem nI(l:List (List Int))(size labels:Int){v:Int}{s:St}{r:Unit⊕Unit}(h:ZE l size labels v=some r)(hM:Gd l size labels v s):Bf Y.env tT (Iu l size labels r) s:=by
 unfold ZE at h;refine BA (c:=ZG) (fun v=>NS l size labels v) (fun v s=>Gd l size labels v s) (Iu l size labels) ?_ h hM;clear h hM s v r;intro Bq s o hM h;unfold NS at h;unfold Gd at hM;obtain⟨m0,m1,m2,m3,m4,m5⟩:=hM;unfold ZG;by_cases e1:Bq<(l.length:Int)
 ·rw [if_pos e1]at h;obtain⟨e2,h⟩:=Av h;by_cases e3:((l.getD Bq.toNat default).length:Int)=size
  ·rw [if_pos e3]at h;obtain⟨e4,h⟩:=Av h;have c5:=jO (l.getD Bq.toNat default) (0:Int) (IntKind.i64.wrap (labels-1)) e4;by_cases e6:(Ke (l.getD Bq.toNat default) (0:Int) (IntKind.i64.wrap (labels-1)))=true
   ·rw [if_pos e6]at h;by_cases e7:0<Bq
    ·rw [if_pos e7]at h;obtain⟨e8,h⟩:=Av h;obtain⟨e9,h⟩:=Av h;obtain⟨e10,h⟩:=Av h;obtain⟨e11,h⟩:=Av h;obtain⟨e12,h⟩:=Av h;have c13:=RB (l.getD ((IntKind.i64.wrap (Bq-1)).toNat) default) (l.getD Bq.toNat default) e9 e10 e11 e12;by_cases e14:0≤(cmpL (l.getD ((IntKind.i64.wrap (Bq-1)).toNat) default) (l.getD Bq.toNat default))
     ·rw [if_pos e14]at h;cases h;simp (maxDischargeDepth:=9) only [↓AC,A7,AO,BM,AA,AJ,↓reduceIte,Nat.reduceEqDiff,Nat.reduceLT,Nat.reduceAdd,m0,m1,m2,m3,m4,m5,e1,e2.1,e2.2,decide_eq_true e3,c5,e6,e7,e8.1,e8.2,c13,e14,Gd,Iu,Pz]
     ·rw [if_neg e14]at h;obtain⟨A3Q,hl16,h⟩:=AU h;try dsimp only at h
      simp (maxDischargeDepth:=9) only [↓AC,A7,AO,BM,AA,AJ,↓reduceIte,Nat.reduceEqDiff,Nat.reduceLT,Nat.reduceAdd,m0,m1,m2,m3,m4,m5,e1,e2.1,e2.2,decide_eq_true e3,c5,e6,e7,e8.1,e8.2,c13,e14];refine Ag (Xr l size labels Bq hl16 ?_) ?_
      ·simp (maxDischargeDepth:=9) only [A7,↓reduceIte,Nat.reduceEqDiff,m0,m1,m2,m3,m4,m5,Kh]
      ·intro ex16 s16 hX16;rcases A3Q with q16_ | q16_
       ·unfold Ki at hX16;dsimp only at hX16 h;obtain⟨rfl,n16_0⟩:=hX16;cases h;simp (maxDischargeDepth:=9) only [↓AC,A7,n16_0,Gd,Iu,Pz]
       ·unfold Ki at hX16;dsimp only at hX16 h;obtain⟨rfl,n16_0,n16_1,n16_2,n16_3,n16_4,n16_5⟩:=hX16;cases h;simp (maxDischargeDepth:=9) only [↓AC,A7,AJ,↓reduceIte,Nat.reduceEqDiff,Nat.reduceLT,n16_0,n16_1,n16_2,n16_3,n16_4,n16_5,Gd,FD]
    ·rw [if_neg e7]at h;obtain⟨RD,hl9,h⟩:=AU h;try dsimp only at h
     simp (maxDischargeDepth:=9) only [↓AC,A7,AO,BM,AA,AJ,↓reduceIte,Nat.reduceEqDiff,Nat.reduceLT,Nat.reduceAdd,m1,m2,m3,m4,m5,e1,e2.1,e2.2,decide_eq_true e3,c5,e6,e7];refine Ag (Xr l size labels Bq hl9 ?_) ?_
     ·simp (maxDischargeDepth:=9) only [A7,↓reduceIte,Nat.reduceEqDiff,m0,m1,m2,m3,m4,m5,Kh]
     ·intro ex9 s9 hX9;rcases RD with q9_ | q9_
      ·unfold Ki at hX9;dsimp only at hX9 h;obtain⟨rfl,n9_0⟩:=hX9;cases h;simp (maxDischargeDepth:=9) only [↓AC,A7,n9_0,Gd,Iu,Pz]
      ·unfold Ki at hX9;dsimp only at hX9 h;obtain⟨rfl,n9_0,n9_1,n9_2,n9_3,n9_4,n9_5⟩:=hX9;cases h;simp (maxDischargeDepth:=9) only [↓AC,A7,AJ,↓reduceIte,Nat.reduceEqDiff,Nat.reduceLT,n9_0,n9_1,n9_2,n9_3,n9_4,n9_5,Gd,FD]
   ·rw [if_neg e6]at h;have e6f:(Ke (l.getD Bq.toNat default) (0:Int) (IntKind.i64.wrap (labels-1)))=false:=Bool.eq_false_iff.mpr e6;cases h;simp (maxDischargeDepth:=9) only [↓AC,A7,AO,BM,AA,AJ,↓reduceIte,Nat.reduceEqDiff,Nat.reduceLT,Nat.reduceAdd,m1,m2,m3,m4,m5,e1,e2.1,e2.2,decide_eq_true e3,c5,e6f,Gd,Iu,Pz]
  ·rw [if_neg e3]at h;cases h;simp (maxDischargeDepth:=9) only [↓AC,A7,AO,AA,AJ,↓reduceIte,Nat.reduceEqDiff,Nat.reduceLT,m1,m3,m4,m5,e1,e2.1,e2.2,e3,Gd,Iu,Pz]
 ·rw [if_neg e1]at h;cases h;simp (maxDischargeDepth:=9) only [↓AC,A7,AJ,↓reduceIte,Nat.reduceLT,m4,m5,e1,Gd,Iu,JH]
theorem tV(l:List (List Int))(size labels:Int){r:Bool}(h:sPL l size labels=some r):Y.call 34 [D.sl 27 (AB (fun x=>D.sl 3 (AB (D.int .i64) x)) l),D.int .i64 size,D.int .i64 labels] []=some (D.bool r,[]):=by
 refine eH ?_ rfl;unfold k34;unfold sPL at h;obtain⟨Au,hl2,h⟩:=AU h;try dsimp only at h
 simp (maxDischargeDepth:=9) only [↓AC,A7,AO,AA,AJ,↓reduceIte,Nat.reduceEqDiff,Nat.reduceLT];refine Ag (nI l size labels hl2 ?_) ?_
 ·simp (maxDischargeDepth:=9) only [A7,AA,↓reduceIte,Nat.reduceEqDiff,Nat.reduceLT,Gd]
 ·intro ex2 s2 hX2;rcases Au with q2_ | q2_
  ·unfold Iu at hX2;dsimp only at hX2 h;obtain⟨rfl,n2_0⟩:=hX2;cases h;simp (maxDischargeDepth:=9) only [↓AC,A7,AA,↓reduceIte,n2_0]
  ·unfold Iu at hX2;dsimp only at hX2 h
   obtain rfl:=hX2
   cases h;simp (maxDischargeDepth:=9) only [↓AC,A7,AA,AJ,↓reduceIte,Nat.reduceEqDiff,Nat.reduceLT]
theorem X7(l:List (List Int))(size labels t:Int)(x:List Int)(hx:l.getD t.toNat default=x)(hs:(x.length:Int)=size)(hb:x.length<1099511627776):
  Sa l size labels t 1=some (if GQ x=true then .inr ()else .inl ()):=by
 unfold Sa;rcases Nat.eq_zero_or_pos x.length with h0 | h0
 ·rw [Ep (r:=Sum.inr ())]
  ·simp [GQ,h0]
  ·simp only [M3];rw [if_neg (by omega)]
 ·have key:=MN (fun v=>M3 l size labels t v) (fun j=>(j:Int)+1) (x.length-1) (fun i=>decide (x.getD i default≤x.getD (i+1) default)) (.inl ()) (.inr ()) ?_ ?_
  ·simp only [Int.natCast_zero,Int.zero_add]at key;rw [key];rfl
  ·intro i hi;simp only [M3];rw [hx,if_pos (by omega),Ie _ (by omega),Ie _ (by omega),Az (by omega),Az (by omega),show((i:Int)+1).toNat=i+1 by omega,show((i:Int)+1-1).toNat=i by omega]
   simp only [decide_eq_true_eq];by_cases hq:x.getD (i+1) default<x.getD i default
   ·rw [if_pos hq,if_neg (by omega)]
   ·rw [if_neg hq,if_pos (by omega)];rfl
  ·simp only [M3];rw [if_neg (by omega)]
theorem A3S(l:List (List Int))(size labels:Int)(h:Ai l)(hl:1≤labels∧labels≤8):sPL l size labels=some (Ir l size labels):=by
 have h1:=h.1;unfold sPL ZE;have key:=dR (fun v=>NS l size labels v) (fun i=>(i:Int)) l.length (O7 l size labels) (.inl ()) (.inr ()) ?_ ?_
 ·simp only [Int.natCast_zero]at key;rw [key];unfold Ir
  cases (List.range l.length).all (O7 l size labels)<;>rfl
 ·intro i hi hp;simp only [NS];rw [if_pos (CJ hi),Az (FH hi),JM i (by omega),Ie (labels-1) (by omega)]
  have hs:=h.getD i;have hs1:=h.getD (i-1);rw [Int.toNat_natCast,Az hs];by_cases q1:((l.getD i default).length:Int)=size
  ·rw [if_pos q1];have inner:=X7 l size labels (i:Int) (l.getD i default) (by rw [Int.toNat_natCast]) q1 hs
   rw [inner];have hprev:=hp (i-1);unfold O7 at hprev ⊢;generalize l.getD i default=x at*
   cases q3:Ke x 0 (labels-1)with
   | false=>simp
   | true=>
    rw [if_pos rfl];by_cases q4:i=0
    ·rw [if_neg (by omega)]
     cases q2:GQ x<;>simp [q1,q4]
    ·rw [if_pos (by omega),Ie _ (by omega),Az (by omega),show((i:Int)-1).toNat=i-1 by omega,Az hs1]
     have hprev:=hprev (by omega)
     generalize l.getD (i-1) default=y at*;simp only [Bool.and_eq_true,decide_eq_true_eq]at hprev;rw [Az (by omega),Az (Xq hprev.1.2 (by omega) (by omega)),Az (Xq q3 (by omega) (by omega))]
     by_cases q5:0≤cmpL y x
     ·rw [if_pos q5,if_neg (by simp;intro _ _;exact⟨q4,q5⟩)]
     ·rw [if_neg q5];have q6:cmpL y x<0:=by omega
      cases q2:GQ x<;>simp [q1,q6]
  ·have e:=decide_eq_false q1;unfold O7;rw [if_neg q1,if_neg (by rw [e];simp)]
 ·intro _;simp only [NS];rw [if_neg (Ak _)]
theorem tX(l:List (List Int))(size labels:Int)(h0:Ai l)(h1:1≤labels∧labels≤8):Y.call 34 [D.sl 27 (AB (fun x=>D.sl 3 (AB (D.int .i64) x)) l),D.int .i64 size,D.int .i64 labels] []=some (D.bool (Ir l size labels),[]):=tV l size labels (A3S l size labels h0 h1)
noncomputable def Md(pL pD:Int)(pN pE:List (List Int)):Option (Bool):= if(Ms pL (1:Int) (8:Int))=true then if(Ms pD (1:Int) (4:Int))=true then ck (Ai pN)<| ck (1≤pL∧pL≤8)<| if(Ir pN pD pL)=true then ck (Ai pE)<| some (Ir pE (2:Int) pL) else some false else some false else some false
def k24:SC:= .seq (.ops [oX 1 (.box 26 (tK 0)) 0,oX 2 (.assign (.const (.bool false))) 4]) (.seq (.ops [oF 3 26 1 0,oL 4 3 3 3,oC 5 38 [(tK 4),(iK 1),(iK 8)] [3,3,3] 4,oM 6 5 4,⟨some 7,.fieldAddr 26 (tK 1) 1,0,(some (some 6,true))⟩,⟨some 8,.load 3 (tK 7),3,(some (some 6,true))⟩,⟨some 9,.call ⟨(.value (.func 38)), #[(tK 8),(iK 1),(iK 4)], #[3,3,3]⟩,4,(some (some 6,true))⟩,oX 10 (.pick (tK 6) (tK 9) (.const (.bool false))) 4,oM 11 10 4,⟨some 12,.fieldAddr 26 (tK 1) 2,0,(some (some 11,true))⟩,⟨some 13,.load 22 (tK 12),22,(some (some 11,true))⟩,⟨some 14,.fieldAddr 26 (tK 1) 1,0,(some (some 11,true))⟩,⟨some 15,.load 3 (tK 14),3,(some (some 11,true))⟩,⟨some 16,.fieldAddr 26 (tK 1) 0,0,(some (some 11,true))⟩,⟨some 17,.load 3 (tK 16),3,(some (some 11,true))⟩,⟨some 18,.call ⟨(.value (.func 39)), #[(tK 13),(tK 15),(tK 17)], #[22,3,3]⟩,4,(some (some 11,true))⟩,oX 19 (.pick (tK 11) (tK 18) (.const (.bool false))) 4,oM 20 19 4,⟨some 21,.fieldAddr 26 (tK 1) 3,0,(some (some 20,true))⟩,⟨some 22,.load 22 (tK 21),22,(some (some 20,true))⟩,⟨some 23,.fieldAddr 26 (tK 1) 0,0,(some (some 20,true))⟩,⟨some 24,.load 3 (tK 23),3,(some (some 20,true))⟩,⟨some 25,.call ⟨(.value (.func 39)), #[(tK 22),(iK 2),(tK 24)], #[22,3,3]⟩,4,(some (some 20,true))⟩,
 oX 26 (.pick (tK 20) (tK 25) (.const (.bool false))) 4,oA 2 26 4]) .ret)
theorem A3T:Tryz.f24.body.map (BO lends)=some k24:=by kernel_rfl
theorem AIm:Bi Tryz.f24 1=true:=by kernel_rfl
theorem c24{a l:List D}{r:D×List D}(h:Bf Y.env k24 (EG AV l.length [ResultVar.tmp 2] r) (entry a l))(ha:a.length=1):Y.call 24 a l=some r:=
 AL (Y:=Y) rfl Tryz.func24 (ha▸AIm) A3T h
theorem Sb(pL pD:Int)(pN pE:List (List Int)){r:Bool}(h:Md pL pD pN pE=some r):Y.call 24 [D.agg [D.int .i64 pL,D.int .i64 pD,D.sl 27 (AB (fun x=>D.sl 3 (AB (D.int .i64) x)) pN),D.sl 27 (AB (fun x=>D.sl 3 (AB (D.int .i64) x)) pE)]] []=some (D.bool r,[]):=by
 refine c24 ?_ rfl;unfold k24;unfold Md at h;have c1:=Ma pL (1:Int) (8:Int);by_cases e2:(Ms pL (1:Int) (8:Int))=true
 ·rw [if_pos e2]at h;have c3:=Ma pD (1:Int) (4:Int);by_cases e4:(Ms pD (1:Int) (4:Int))=true
  ·rw [if_pos e4]at h;obtain⟨e5,h⟩:=Av h;obtain⟨e6,h⟩:=Av h;have c7:=tO pN pD pL e5 e6;by_cases e8:(Ir pN pD pL)=true
   ·rw [if_pos e8]at h;obtain⟨e9,h⟩:=Av h;have c10:=tO pE (2:Int) pL e9 e6;cases h;simp (maxDischargeDepth:=9) only [↓AC,A7,BM,AA,AJ,↓reduceIte,Nat.reduceEqDiff,Nat.reduceLT,Nat.reduceAdd,c1,e2,c3,e4,c7,e8,c10]
   ·rw [if_neg e8]at h;have e8f:(Ir pN pD pL)=false:=Bool.eq_false_iff.mpr e8;cases h;simp (maxDischargeDepth:=9) only [↓AC,A7,BM,AA,AJ,↓reduceIte,Nat.reduceEqDiff,Nat.reduceLT,Nat.reduceAdd,c1,e2,c3,e4,c7,e8f]
  ·rw [if_neg e4]at h;have e4f:(Ms pD (1:Int) (4:Int))=false:=Bool.eq_false_iff.mpr e4;cases h;simp (maxDischargeDepth:=9) only [↓AC,A7,BM,AA,AJ,↓reduceIte,Nat.reduceEqDiff,Nat.reduceLT,Nat.reduceAdd,c1,e2,c3,e4f]
 ·rw [if_neg e2]at h;have e2f:(Ms pL (1:Int) (8:Int))=false:=Bool.eq_false_iff.mpr e2;cases h;simp (maxDischargeDepth:=9) only [↓AC,A7,BM,AA,AJ,↓reduceIte,Nat.reduceEqDiff,Nat.reduceLT,Nat.reduceAdd,c1,e2f]
noncomputable def RF(pL pD:Int)(pN pE:List (List Int)):Option (Bool):= if(Ms pL (1:Int) (8:Int))=true then if(Ms pD (1:Int) (4:Int))=true then ck (Ai pN)<| ck (1≤pL∧pL≤8)<| if(Ir pN pD pL)=true then ck (Ai pE)<| some (Ir pE (2:Int) pL) else some false else some false else some false
def k21:SC:= .seq (.ops [oX 1 (.box 26 (tK 0)) 0,oX 2 (.assign (.const (.bool false))) 4]) (.seq (.ops [oF 3 26 1 0,oL 4 3 3 3,oC 5 33 [(tK 4),(iK 1),(iK 8)] [3,3,3] 4,oM 6 5 4,⟨some 7,.fieldAddr 26 (tK 1) 1,0,(some (some 6,true))⟩,⟨some 8,.load 3 (tK 7),3,(some (some 6,true))⟩,⟨some 9,.call ⟨(.value (.func 33)), #[(tK 8),(iK 1),(iK 4)], #[3,3,3]⟩,4,(some (some 6,true))⟩,oX 10 (.pick (tK 6) (tK 9) (.const (.bool false))) 4,oM 11 10 4,⟨some 12,.fieldAddr 26 (tK 1) 2,0,(some (some 11,true))⟩,⟨some 13,.load 22 (tK 12),22,(some (some 11,true))⟩,⟨some 14,.fieldAddr 26 (tK 1) 1,0,(some (some 11,true))⟩,⟨some 15,.load 3 (tK 14),3,(some (some 11,true))⟩,⟨some 16,.fieldAddr 26 (tK 1) 0,0,(some (some 11,true))⟩,⟨some 17,.load 3 (tK 16),3,(some (some 11,true))⟩,⟨some 18,.call ⟨(.value (.func 34)), #[(tK 13),(tK 15),(tK 17)], #[22,3,3]⟩,4,(some (some 11,true))⟩,oX 19 (.pick (tK 11) (tK 18) (.const (.bool false))) 4,oM 20 19 4,⟨some 21,.fieldAddr 26 (tK 1) 3,0,(some (some 20,true))⟩,⟨some 22,.load 22 (tK 21),22,(some (some 20,true))⟩,⟨some 23,.fieldAddr 26 (tK 1) 0,0,(some (some 20,true))⟩,⟨some 24,.load 3 (tK 23),3,(some (some 20,true))⟩,⟨some 25,.call ⟨(.value (.func 34)), #[(tK 22),(iK 2),(tK 24)], #[22,3,3]⟩,4,(some (some 20,true))⟩,
 oX 26 (.pick (tK 20) (tK 25) (.const (.bool false))) 4,oA 2 26 4]) .ret)
theorem A3U:Tryz.f21.body.map (BO lends)=some k21:=by kernel_rfl
theorem AIo:Bi Tryz.f21 1=true:=by kernel_rfl
theorem c21{a l:List D}{r:D×List D}(h:Bf Y.env k21 (EG AV l.length [ResultVar.tmp 2] r) (entry a l))(ha:a.length=1):Y.call 21 a l=some r:=
 AL (Y:=Y) rfl Tryz.func21 (ha▸AIo) A3U h
theorem X8(pL pD:Int)(pN pE:List (List Int)){r:Bool}(h:RF pL pD pN pE=some r):Y.call 21 [D.agg [D.int .i64 pL,D.int .i64 pD,D.sl 27 (AB (fun x=>D.sl 3 (AB (D.int .i64) x)) pN),D.sl 27 (AB (fun x=>D.sl 3 (AB (D.int .i64) x)) pE)]] []=some (D.bool r,[]):=by
 refine c21 ?_ rfl;unfold k21;unfold RF at h;have c1:=PU pL (1:Int) (8:Int);by_cases e2:(Ms pL (1:Int) (8:Int))=true
 ·rw [if_pos e2]at h;have c3:=PU pD (1:Int) (4:Int);by_cases e4:(Ms pD (1:Int) (4:Int))=true
  ·rw [if_pos e4]at h;obtain⟨e5,h⟩:=Av h;obtain⟨e6,h⟩:=Av h;have c7:=tX pN pD pL e5 e6;by_cases e8:(Ir pN pD pL)=true
   ·rw [if_pos e8]at h;obtain⟨e9,h⟩:=Av h;have c10:=tX pE (2:Int) pL e9 e6;cases h;simp (maxDischargeDepth:=9) only [↓AC,A7,BM,AA,AJ,↓reduceIte,Nat.reduceEqDiff,Nat.reduceLT,Nat.reduceAdd,c1,e2,c3,e4,c7,e8,c10]
   ·rw [if_neg e8]at h;have e8f:(Ir pN pD pL)=false:=Bool.eq_false_iff.mpr e8;cases h;simp (maxDischargeDepth:=9) only [↓AC,A7,BM,AA,AJ,↓reduceIte,Nat.reduceEqDiff,Nat.reduceLT,Nat.reduceAdd,c1,e2,c3,e4,c7,e8f]
  ·rw [if_neg e4]at h;have e4f:(Ms pD (1:Int) (4:Int))=false:=Bool.eq_false_iff.mpr e4;cases h;simp (maxDischargeDepth:=9) only [↓AC,A7,BM,AA,AJ,↓reduceIte,Nat.reduceEqDiff,Nat.reduceLT,Nat.reduceAdd,c1,e2,c3,e4f]
 ·rw [if_neg e2]at h;have e2f:(Ms pL (1:Int) (8:Int))=false:=Bool.eq_false_iff.mpr e2;cases h;simp (maxDischargeDepth:=9) only [↓AC,A7,BM,AA,AJ,↓reduceIte,Nat.reduceEqDiff,Nat.reduceLT,Nat.reduceAdd,c1,e2f]
theorem Vg(a b:Int)(n e:List (List Int))(hn:Ai n)(he:Ai e):Md a b n e=some (JF a b n e):=by
 unfold Md JF;by_cases h1:Ms a 1 8=true
 ·have h1':=MZ.1 h1;by_cases h2:Ms b 1 4=true
  ·rw [if_pos h1,if_pos h2,Az hn,Az h1',Az he]
   cases h3:Ir n b a<;>simp [h1,h2]
  ·rw [if_pos h1,if_neg h2];simp [h2]
 ·rw [if_neg h1];simp [h1]
theorem eO(a b:Int)(n e:List (List Int))(hn:Ai n)(he:Ai e):RF a b n e=some (JF a b n e):=by
 unfold RF JF;by_cases h1:Ms a 1 8=true
 ·have h1':=MZ.1 h1;by_cases h2:Ms b 1 4=true
  ·rw [if_pos h1,if_pos h2,Az hn,Az h1',Az he]
   cases h3:Ir n b a<;>simp [h1,h2]
  ·rw [if_pos h1,if_neg h2];simp [h2]
 ·rw [if_neg h1];simp [h1]
theorem Vh(pL pD:Int)(pN pE:List (List Int))(h0:Ai pN)(h1:Ai pE):Y.call 24 [D.agg [D.int .i64 pL,D.int .i64 pD,D.sl 27 (AB (fun x=>D.sl 3 (AB (D.int .i64) x)) pN),D.sl 27 (AB (fun x=>D.sl 3 (AB (D.int .i64) x)) pE)]] []=some (D.bool (JF pL pD pN pE),[]):=Sb pL pD pN pE (Vg pL pD pN pE h0 h1)
theorem eP(pL pD:Int)(pN pE:List (List Int))(h0:Ai pN)(h1:Ai pE):Y.call 21 [D.agg [D.int .i64 pL,D.int .i64 pD,D.sl 27 (AB (fun x=>D.sl 3 (AB (D.int .i64) x)) pN),D.sl 27 (AB (fun x=>D.sl 3 (AB (D.int .i64) x)) pE)]] []=some (D.bool (JF pL pD pN pE),[]):=X8 pL pD pN pE (eO pL pD pN pE h0 h1)
end Go.Proofs.YtjhjkfoabhplfaaGreat
