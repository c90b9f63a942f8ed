/- When lists are a problem, as plain functions. Conditions: the lists are short. -/
import Derived.Test.YtiehjihckndgkaaGreatL6
import Derived.Test.YtiehjihckndgkaaGreatPB
namespace Go.Proofs.YtiehjihckndgkaaGreat
open Go Dv
set_option linter.unusedSimpArgs false
set_option linter.unusedVariables false
set_option maxRecDepth 100000
set_option maxHeartbeats 4000000
def La(n lo hi:Int):Bool:=decide (lo≤n∧n≤hi)
theorem Fg{n lo hi:Int}:La n lo hi=true↔lo≤n∧n≤hi:=by simp [La]
noncomputable def Vw(n_:Int)(low:Int)(high:Int):Option (Bool):= if low≤n_ then some (decide (n_≤high)) else some false
def k64:SC:= .seq (.ops [oX 6 CY 4]) (.seq (.ops [oM 7 1 3,oM 8 0 3,oB 9 .leq 3 (tK 7) (tK 8) 3 4,oM 10 9 4,⟨(some 11),(.move (tK 0)),3,(some (some 10,true))⟩,⟨(some 12),(.move (tK 2)),3,(some (some 10,true))⟩,⟨(some 13),(.binOp .leq 3 (tK 11) (tK 12) 3),4,(some (some 10,true))⟩,oX 14 (.pick (tK 10) (tK 13) MS) 4,oA 6 14 4]) .ret)
theorem A9v:Tryz.f64.body.map (BX lends)=some k64:=by kernel_rfl
theorem AMm:Bj Tryz.f64 3=true:=by kernel_rfl
theorem c64{a l:List D}{r:D×List D}(h:Br Y.env k64 (fin Ap l.length [ResultVar.tmp 6] r) (entry a l))(ha:a.length=3):Y.call 64 a l=some r:=
 AZ (Y:=Y) rfl Tryz.func64 (ha▸AMm) A9v h
theorem gI(n_:Int)(low:Int)(high:Int){r:Bool}(h:Vw n_ low high=some r):Y.call 64 [D.int .i64 n_,D.int .i64 low,D.int .i64 high] []=some (D.bool r,[]):=by
 refine c64 ?_ rfl;unfold k64;unfold Vw at h;rcases iS h with⟨e1,h⟩|⟨e1,h⟩
 ·obtain rfl:=Option.some.inj h
  simp (maxDischargeDepth:=9) only [↓AL,AO,↓reduceIte,Nat.reduceEqDiff,Nat.reduceLT,e1]
 ·obtain rfl:=Option.some.inj h
  simp (maxDischargeDepth:=9) only [↓AL,AO,↓reduceIte,Nat.reduceEqDiff,Nat.reduceLT,e1]
noncomputable def lH(n_:Int)(lo:Int)(hi:Int):Option (Bool):= if lo≤n_ then some (decide (n_≤hi)) else some false
def k82:SC:= .seq (.ops [oX 6 CY 4]) (.seq (.ops [oM 7 0 3,oM 8 1 3,oB 9 .geq 3 (tK 7) (tK 8) 3 4,oM 10 9 4,⟨(some 11),(.move (tK 0)),3,(some (some 10,true))⟩,⟨(some 12),(.move (tK 2)),3,(some (some 10,true))⟩,⟨(some 13),(.binOp .leq 3 (tK 11) (tK 12) 3),4,(some (some 10,true))⟩,oX 14 (.pick (tK 10) (tK 13) MS) 4,oA 6 14 4]) .ret)
theorem A9w:Tryz.f82.body.map (BX lends)=some k82:=by kernel_rfl
theorem AMo:Bj Tryz.f82 3=true:=by kernel_rfl
theorem c82{a l:List D}{r:D×List D}(h:Br Y.env k82 (fin Ap l.length [ResultVar.tmp 6] r) (entry a l))(ha:a.length=3):Y.call 82 a l=some r:=
 AZ (Y:=Y) rfl Tryz.func82 (ha▸AMo) A9w h
theorem qz(n_:Int)(lo:Int)(hi:Int){r:Bool}(h:lH n_ lo hi=some r):Y.call 82 [D.int .i64 n_,D.int .i64 lo,D.int .i64 hi] []=some (D.bool r,[]):=by
 refine c82 ?_ rfl;unfold k82;unfold lH at h;rcases iS h with⟨e1,h⟩|⟨e1,h⟩
 ·obtain rfl:=Option.some.inj h
  simp (maxDischargeDepth:=9) only [↓AL,AO,↓reduceIte,Nat.reduceEqDiff,Nat.reduceLT,e1]
 ·obtain rfl:=Option.some.inj h
  simp (maxDischargeDepth:=9) only [↓AL,AO,↓reduceIte,Nat.reduceEqDiff,Nat.reduceLT,e1]
theorem rA(n lo hi:Int):Vw n lo hi=some (La n lo hi):=by unfold Vw La;by_cases h1:lo≤n<;>by_cases h2:n≤hi<;>simp [h1,h2]
theorem zh(n lo hi:Int):lH n lo hi=some (La n lo hi):=by unfold lH La;by_cases h1:lo≤n<;>by_cases h2:n≤hi<;>simp [h1,h2]
theorem KY(n_:Int)(low:Int)(high:Int):Y.call 64 [D.int .i64 n_,D.int .i64 low,D.int .i64 high] []=some (D.bool (La n_ low high),[]):=gI n_ low high (rA n_ low high)
theorem MG(n_:Int)(lo:Int)(hi:Int):Y.call 82 [D.int .i64 n_,D.int .i64 lo,D.int .i64 hi] []=some (D.bool (La n_ lo hi),[]):=qz n_ lo hi (zh n_ lo hi)
noncomputable def Kq(l:AB)(lo:Int)(hi:Int)(Aj:Int):Option ((Int)⊕(Unit⊕Unit)):= if Aj<(l.length:Int)then ck (0≤Aj∧Aj.toNat<l.length)<| if(La (l.getD Aj.toNat default) lo hi)=true then some (Sum.inl (IntKind.i64.wrap (Aj+1))) else some (Sum.inr (Sum.inl ())) else some (Sum.inr (Sum.inr ()))
noncomputable def Re(l:AB)(lo:Int)(hi:Int)(v:Int):Option (Unit⊕Unit):=Fb (fun v=>Kq l lo hi v) v
noncomputable def Yy(l:AB)(lo:Int)(hi:Int):Option (Bool):=
 (Re l lo hi 0).bind fun Aa=>
 match Aa with
 | .inl q1000_=>
  some false
 | .inr q1000_=>
  some true
def lI:SC:= .seq (.ops [oB 12 .lss 3 (tK 11) (tK 10) 3 0]) (.seq (.cond (tK 12) .skip (.exit 0)) (.seq (.block 1 (.seq (.ops [oI 13 26 9 11,oL 14 3 13 3,oA 8 14 3]) (.seq (.ops [oM 15 8 3,oM 16 1 3,oM 17 2 3,oC 18 82 [(tK 15),(tK 16),(tK 17)] [3,3,3] 4,oX 19 (.unOp .not 4 (tK 18)) 4]) (.cond (tK 19) (.seq (.ops [oX 6 CY 4]) .ret) .skip)))) (.ops [oB 20 .add 3 (tK 11) (iK 1) 3 3,oM 11 20 3])))
def A1w:SC:= .loop lI
def k59:SC:= .seq (.ops [oX 6 CY 4]) (.seq (.seq (.ops [oM 9 0 26,oN 10 9 26,oX 11 (.move (iK 0)) 3]) (.block 0 A1w)) (.seq (.ops [oX 6 (.assign F7) 4]) .ret))
theorem A9x:Tryz.f59.body.map (BX lends)=some k59:=by kernel_rfl
theorem AMq:Bj Tryz.f59 3=true:=by kernel_rfl
theorem c59{a l:List D}{r:D×List D}(h:Br Y.env k59 (fin Ap l.length [ResultVar.tmp 6] r) (entry a l))(ha:a.length=3):Y.call 59 a l=some r:=
 AZ (Y:=Y) rfl Tryz.func59 (ha▸AMq) A9x h
def Ip(l:AB)(lo:Int)(hi:Int)(Aj:Int)(s:St):Prop:=s.v 1=D.int .i64 lo∧s.v 2=D.int .i64 hi∧s.v 9=D.sl 3 (AQ (D.int .i64) l)∧s.v 10=D.int .i64 (l.length:Int)∧s.v 11=D.int .i64 Aj
def Kr(l:AB)(lo:Int)(hi:Int)(r:Unit⊕Unit)(ex:Ex)(s:St):Prop:=match r with
 | .inl q=>ex= .ret∧s.v 6=D.bool false
 | .inr q=>ex= .exit 0
theorem gJ(l:AB)(lo:Int)(hi:Int){v:Int}{s:St}{r:Unit⊕Unit}(h:Re l lo hi v=some r)(hM:Ip l lo hi v s):Br Y.env A1w (Kr l lo hi r) s:=by
 unfold Re at h;refine BH (c:=lI) (fun v=>Kq l lo hi v) (fun v s=>Ip l lo hi v s) (Kr l lo hi) ?_ h hM;clear h hM s v r;intro Aj s o hM h;unfold Kq at h;unfold Ip at hM;obtain⟨m0,m1,m2,m3,m4⟩:=hM;unfold lI;rcases iS h with⟨e1,h⟩|⟨e1,h⟩
 ·obtain⟨e2,h⟩:=ES h;have c3:=MG (l.getD Aj.toNat default) lo hi;rcases iS h with⟨e4,h⟩|⟨e4,h⟩
  ·obtain rfl:=Option.some.inj h
   simp (maxDischargeDepth:=9) only [↓AL,AO,↓reduceIte,Nat.reduceEqDiff,Nat.reduceLT,Nat.reduceAdd,m0,m1,m2,m3,m4,e1,e2.1,e2.2,c3,e4,Ip,En]
  ·have e4f:(La (l.getD Aj.toNat default) lo hi)=false:=Jw.mpr e4
   obtain rfl:=Option.some.inj h
   simp (maxDischargeDepth:=9) only [↓AL,AO,↓reduceIte,Nat.reduceEqDiff,Nat.reduceLT,Nat.reduceAdd,m0,m1,m2,m3,m4,e1,e2.1,e2.2,c3,e4f,Ip,Kr,Qu]
 ·obtain rfl:=Option.some.inj h
  simp (maxDischargeDepth:=9) only [↓AL,AO,↓reduceIte,Nat.reduceLT,m3,m4,e1,Ip,Kr,K3]
theorem lJ(l:AB)(lo:Int)(hi:Int){r:Bool}(h:Yy l lo hi=some r):Y.call 59 [D.sl 3 (AQ (D.int .i64) l),D.int .i64 lo,D.int .i64 hi] []=some (D.bool r,[]):=by
 refine c59 ?_ rfl;unfold k59;unfold Yy at h;obtain⟨Aa,hl2,h⟩:=Ak h;try dsimp only at h
 simp (maxDischargeDepth:=9) only [↓AL,AO,↓reduceIte,Nat.reduceEqDiff,Nat.reduceLT];refine Aw (gJ l lo hi hl2 ?_) ?_
 ·simp (maxDischargeDepth:=9) only [BZ,Ei,↓reduceIte,Nat.reduceEqDiff,Nat.reduceLT,Ip]
 ·intro ex2 s2 hX2;rcases Aa with q1000_|q1000_
  ·unfold Kr at hX2;dsimp only at hX2 h;obtain⟨rfl,n2_0⟩:=hX2
   obtain rfl:=Option.some.inj h
   simp (maxDischargeDepth:=9) only [↓AL,AO,↓reduceIte,n2_0]
  ·unfold Kr at hX2;dsimp only at hX2 h
   obtain rfl:=hX2
   obtain rfl:=Option.some.inj h
   simp (maxDischargeDepth:=9) only [↓AL,AO,↓reduceIte,Nat.reduceEqDiff,Nat.reduceLT]
def GG(l:AB)(lo hi:Int):Bool:=l.all fun x=>La x lo hi
theorem vO(l:AB)(lo hi:Int)(h:l.length<1099511627776):Yy l lo hi=some (GG l lo hi):=by
 unfold Yy Re;have key:=Fe (fun v=>Kq l lo hi v) (fun i=>(i:Int)) l.length (fun i=>La (l.getD i default) lo hi) (.inl ()) (.inr ()) ?_ ?_
 ·simp only [Gn]at key;rw [key,aO (fun x=>La x lo hi)];unfold GG
  cases l.all (fun x=>La x lo hi)<;>rfl
 ·intro i hi;simp only [Kq];rw [if_pos (CL hi),BL (Ff hi),EC,K4 i (by omega)]
 ·simp only [Kq];rw [if_neg (Az _)]
theorem aZ(l:AB)(lo:Int)(hi:Int)(h0:l.length<1099511627776):Y.call 59 [D.sl 3 (AQ (D.int .i64) l),D.int .i64 lo,D.int .i64 hi] []=some (D.bool (GG l lo hi),[]):=lJ l lo hi (vO l lo hi h0)
noncomputable def BI(s_:AB)(f:Int→Option Bool)(Iq:Int):Option ((Int)⊕(Int⊕Unit)):= if Iq<(s_.length:Int)then ck (0≤Iq∧Iq.toNat<s_.length)<| (f (s_.getD Iq.toNat default)).bind fun TN=> if TN=true then some (Sum.inr (Sum.inl Iq)) else some (Sum.inl (IntKind.i64.wrap (Iq+1))) else some (Sum.inr (Sum.inr ()))
noncomputable def Dj(s_:AB)(f:Int→Option Bool)(v:Int):Option (Int⊕Unit):=Fb (fun v=>BI s_ f v) v
noncomputable def DN(s_:AB)(f:Int→Option Bool):Option (Int):=
 (Dj s_ f 0).bind fun Aa=>
 match Aa with
 | .inl q1000_=>
  some q1000_
 | .inr q1000_=>
  some (-1)
def aa:SC:= .seq (.ops [oB 9 .lss 3 (tK 8) (tK 7) 3 0]) (.seq (.cond (tK 9) .skip (.exit 0)) (.seq (.block 1 (.seq (.ops [oM 10 8 3,oA 5 10 3]) (.seq (.ops [oM 11 1 105,oM 12 0 26,oM 13 5 3,oI 14 26 12 13,oL 15 3 14 3,oX 16 (.call ⟨(.value (tK 11)), #[(tK 15)], #[3]⟩) 4]) (.cond (tK 16) (.seq (.ops [oM 17 5 3,oA 4 17 3]) .ret) .skip)))) (.ops [oB 18 .add 3 (tK 8) (iK 1) 3 3,oM 8 18 3])))
def xP:SC:= .loop aa
def A9y:SC:= .seq (.ops [oX 4 (.assign (iK 0)) 3]) (.seq (.seq (.ops [oM 6 0 26,oN 7 6 26,oX 8 (.move (iK 0)) 3]) (.block 0 xP)) (.seq (.ops [oX 4 SL 3]) .ret))
theorem A4F:Tryz.f129.body.map (BX lends)=some A9y:=by kernel_rfl
theorem AHf:Bj Tryz.f129 2=true:=by kernel_rfl
theorem AMr{a l:List D}{r:D×List D}(h:Br Y.env A9y (fin Ap l.length [ResultVar.tmp 4] r) (entry a l))(ha:a.length=2):Y.call 129 a l=some r:=
 AZ (Y:=Y) rfl Tryz.func129 (ha▸AHf) A4F h
def Bb(s_:AB)(f:Int→Option Bool)(f_f:FuncId)(f_c:List D)(Iq:Int)(s:St):Prop:=s.v 0=D.sl 3 (AQ (D.int .i64) s_)∧s.v 1=D.clo f_f f_c∧s.v 7=D.int .i64 (s_.length:Int)∧s.v 8=D.int .i64 Iq
def CB(s_:AB)(f:Int→Option Bool)(f_f:FuncId)(f_c:List D)(r:Int⊕Unit)(ex:Ex)(s:St):Prop:=match r with
 | .inl q=>ex= .ret∧s.v 4=D.int .i64 q
 | .inr q=>ex= .exit 0
theorem ML(s_:AB)(f:Int→Option Bool)(f_f:FuncId)(f_c:List D)(f_h: ∀(a0:Int) (r:Bool),f a0=some r→Y.call f_f (D.int .i64 a0::f_c) []=some (D.bool r,[]))(f_l:lends f_f=false){v:Int}{s:St}{r:Int⊕Unit}(h:Dj s_ f v=some r)(hM:Bb s_ f f_f f_c v s):Br Y.env xP (CB s_ f f_f f_c r) s:=by
 unfold Dj at h;refine BH (c:=aa) (fun v=>BI s_ f v) (fun v s=>Bb s_ f f_f f_c v s) (CB s_ f f_f f_c) ?_ h hM;clear h hM s v r;intro Iq s o hM h;unfold BI at h;unfold Bb at hM;obtain⟨m0,m1,m2,m3⟩:=hM;unfold aa;rcases iS h with⟨e1,h⟩|⟨e1,h⟩
 ·obtain⟨e2,h⟩:=ES h;obtain⟨TN,hl3,h⟩:=Ak h;have c3:=f_h _ _ hl3;rcases iS h with⟨e4,h⟩|⟨e4,h⟩
  ·obtain rfl:=Option.some.inj h
   simp (maxDischargeDepth:=9) only [↓AL,AO,↓reduceIte,Nat.reduceEqDiff,Nat.reduceLT,Nat.reduceAdd,m0,m1,m2,m3,f_l,e1,e2.1,e2.2,c3,e4,Bb,CB,Qu]
  ·have e4f:TN=false:=Jw.mpr e4
   obtain rfl:=Option.some.inj h
   simp (maxDischargeDepth:=9) only [↓AL,AO,↓reduceIte,Nat.reduceEqDiff,Nat.reduceLT,Nat.reduceAdd,m0,m1,m2,m3,f_l,e1,e2.1,e2.2,c3,e4f,Bb,En]
 ·obtain rfl:=Option.some.inj h
  simp (maxDischargeDepth:=9) only [↓AL,AO,↓reduceIte,Nat.reduceLT,m2,m3,e1,Bb,CB,K3]
theorem Mc(s_:AB)(f:Int→Option Bool)(f_f:FuncId)(f_c:List D)(f_h: ∀(a0:Int) (r:Bool),f a0=some r→Y.call f_f (D.int .i64 a0::f_c) []=some (D.bool r,[]))(f_l:lends f_f=false){r:Int}(h:DN s_ f=some r):Y.call 129 [D.sl 3 (AQ (D.int .i64) s_),D.clo f_f f_c] []=some (D.int .i64 r,[]):=by
 refine AMr ?_ rfl;unfold A9y;unfold DN at h;obtain⟨Aa,hl2,h⟩:=Ak h;try dsimp only at h
 simp (maxDischargeDepth:=9) only [↓AL,AO,↓reduceIte,Nat.reduceEqDiff,Nat.reduceLT,Int.reduceNeg];refine Aw (ML s_ f f_f f_c f_h f_l hl2 ?_) ?_
 ·simp (maxDischargeDepth:=9) only [BZ,Ei,↓reduceIte,Nat.reduceEqDiff,Nat.reduceLT,Bb]
 ·intro ex2 s2 hX2;rcases Aa with q1000_|q1000_
  ·unfold CB at hX2;dsimp only at hX2 h;obtain⟨rfl,n2_0⟩:=hX2
   obtain rfl:=Option.some.inj h
   simp (maxDischargeDepth:=9) only [↓AL,AO,↓reduceIte,n2_0]
  ·unfold CB at hX2;dsimp only at hX2 h
   obtain rfl:=hX2
   obtain rfl:=Option.some.inj h
   simp (maxDischargeDepth:=9) only [↓AL,AO,↓reduceIte,Nat.reduceEqDiff,Nat.reduceLT,Int.reduceNeg]
noncomputable def Cr(s_:AB)(f:Int→Option Bool):Option (Bool):= (DN s_ f).bind fun r7_=> some (decide (0≤r7_))
def A9z:SC:= .seq (.ops [oX 4 CY 4]) (.seq (.ops [oM 5 0 26,oM 6 1 105,oC 7 129 [(tK 5),(tK 6)] [26,105] 3,oB 8 .geq 3 (tK 7) (iK 0) 3 4,oA 4 8 4]) .ret)
theorem A4G:Tryz.f103.body.map (BX lends)=some A9z:=by kernel_rfl
theorem AHg:Bj Tryz.f103 2=true:=by kernel_rfl
theorem AMs{a l:List D}{r:D×List D}(h:Br Y.env A9z (fin Ap l.length [ResultVar.tmp 4] r) (entry a l))(ha:a.length=2):Y.call 103 a l=some r:=
 AZ (Y:=Y) rfl Tryz.func103 (ha▸AHg) A4G h
theorem Li(s_:AB)(f:Int→Option Bool)(f_f:FuncId)(f_c:List D)(f_h: ∀(a0:Int) (r:Bool),f a0=some r→Y.call f_f (D.int .i64 a0::f_c) []=some (D.bool r,[]))(f_l:lends f_f=false){r:Bool}(h:Cr s_ f=some r):Y.call 103 [D.sl 3 (AQ (D.int .i64) s_),D.clo f_f f_c] []=some (D.bool r,[]):=by
 refine AMs ?_ rfl;unfold A9z;unfold Cr at h;obtain⟨r7_,hl1,h⟩:=Ak h;try dsimp only at h
 have c1:=Mc s_ f f_f f_c f_h f_l hl1
 obtain rfl:=Option.some.inj h
 simp (maxDischargeDepth:=9) only [↓AL,AO,↓reduceIte,Nat.reduceEqDiff,Nat.reduceLT,Nat.reduceAdd,c1]
noncomputable def Lj(n_:Int)(c0_:Int)(c1_:Int):Option (Bool):= some (!(La n_ c0_ c1_))
def AA0:SC:= .seq (.ops [oX 4 CY 4]) (.seq (.ops [oM 5 0 3,oL 6 3 1 3,oL 7 3 2 3,oC 8 64 [(tK 5),(tK 6),(tK 7)] [3,3,3] 4,oX 9 (.unOp .not 4 (tK 8)) 4,oA 4 9 4]) .ret)
theorem A4H:Tryz.f104.body.map (BX lends)=some AA0:=by kernel_rfl
theorem AHh:Bj Tryz.f104 3=true:=by kernel_rfl
theorem AMt{a l:List D}{r:D×List D}(h:Br Y.env AA0 (fin Ap l.length [ResultVar.tmp 4] r) (entry a l))(ha:a.length=3):Y.call 104 a l=some r:=
 AZ (Y:=Y) rfl Tryz.func104 (ha▸AHh) A4H h
theorem Un(n_:Int)(c0_:Int)(c1_:Int){r:Bool}(h:Lj n_ c0_ c1_=some r):Y.call 104 [D.int .i64 n_,D.cptr [D.int .i64 c0_],D.cptr [D.int .i64 c1_]] []=some (D.bool r,[]):=by
 refine AMt ?_ rfl;unfold AA0;unfold Lj at h;have c1:=KY n_ c0_ c1_
 obtain rfl:=Option.some.inj h
 simp (maxDischargeDepth:=9) only [↓AL,AO,↓reduceIte,Nat.reduceEqDiff,Nat.reduceLT,Nat.reduceAdd,c1]
noncomputable def QH(list:AB)(low:Int)(high:Int):Option (Bool):= (Cr list (fun a0=>Lj a0 low high)).bind fun xQ=> some (!xQ)
def k71:SC:= .seq (.ops [oX 4 (.box 3 (tK 1)) 0,oX 5 (.box 3 (tK 2)) 0,oX 6 CY 4]) (.seq (.ops [oM 7 0 26,oX 8 (.makeFunc (Fn.func 104) #[] #[(tK 4),(tK 5)]) 105,oC 9 103 [(tK 7),(tK 8)] [26,105] 4,oX 10 (.unOp .not 4 (tK 9)) 4,oA 6 10 4]) .ret)
theorem AA1:Tryz.f71.body.map (BX lends)=some k71:=by kernel_rfl
theorem AMv:Bj Tryz.f71 3=true:=by kernel_rfl
theorem c71{a l:List D}{r:D×List D}(h:Br Y.env k71 (fin Ap l.length [ResultVar.tmp 6] r) (entry a l))(ha:a.length=3):Y.call 71 a l=some r:=
 AZ (Y:=Y) rfl Tryz.func71 (ha▸AMv) AA1 h
theorem XA(list:AB)(low:Int)(high:Int){r:Bool}(h:QH list low high=some r):Y.call 71 [D.sl 3 (AQ (D.int .i64) list),D.int .i64 low,D.int .i64 high] []=some (D.bool r,[]):=by
 refine c71 ?_ rfl;unfold k71;unfold QH at h;obtain⟨xQ,hl1,h⟩:=Ak h;try dsimp only at h
 have c1:=Li list (fun a0=>Lj a0 low high) 104 [D.cptr [D.int .i64 low],D.cptr [D.int .i64 high]] (fun a0 _ hh=>Un a0 low high hh) A1k hl1
 obtain rfl:=Option.some.inj h
 simp (maxDischargeDepth:=9) only [↓AL,AO,↓reduceIte,Nat.reduceEqDiff,Nat.reduceLT,Nat.reduceAdd,c1]
theorem lK(l:AB)(f:Int→Option Bool)(p:Int→Bool)(h:l.length<1099511627776)(hf: ∀x∈l,f x=some (p x)):
  ∃r,DN l f=some r∧(0≤r↔l.any p=true):=by
 unfold DN Dj;by_cases ha: ∀i,i<l.length→(!p (l.getD i default))=true
 ·have key:=Cf (fun v=>BI l f v) (fun i=>(i:Int)) l.length (.inr ()) ?_ ?_
  ·simp only [Gn]at key;rw [key]
   refine⟨-1,rfl,by simp,fun hc=> ?_⟩
   obtain⟨x,hx,hpx⟩:=List.any_eq_true.1 hc;obtain⟨i,hi,rfl⟩:=jm hx;have:=ha i hi
   rw [Ao _ _ hi,hpx]at this;cases this
  ·intro i hi;simp only [BI];have e:=ha i hi;rw [Ao _ _ hi]at e;rw [if_pos (CL hi),BL (Ff hi),Gr _ _ hi,hf _ (Nh hi),Cz,if_neg (by cases hp:p l[i]<;>simp_all),K4 i (by omega)]
  ·simp only [BI];rw [if_neg (Az _)]
 ·obtain⟨m,h1,h2,h3⟩:=Uk (P:=fun i=> !p (l.getD i default)) ha;have key:=Cf (fun v=>BI l f v) (fun i=>(i:Int)) m (.inl (m:Int)) ?_ ?_
  ·simp only [Gn]at key;rw [key]
   refine⟨(m:Int),rfl,fun _=> ?_,fun _=>by omega⟩
   have h2':p l[m]=true:=by rw [Ao _ _ h1]at h2;simpa using h2
   exact List.any_eq_true.2 ⟨_,Nh h1,h2'⟩
  ·intro i hi;simp only [BI];have e:=h3 i hi;rw [Ao _ _ (by omega)]at e
   rw [if_pos (CL (by omega)),BL (Ff (by omega)),Gr _ _ (by omega),hf _ (Nh _),Cz,if_neg (by cases hp:p l[i]<;>simp_all),K4 i (by omega)]
  ·simp only [BI];have h2':p l[m]=true:=by rw [Ao _ _ h1]at h2;simpa using h2
   rw [if_pos (CL h1),BL (Ff h1),Gr _ _ h1,hf _ (Nh _),Cz,if_pos h2']
theorem YT(l:AB)(f:Int→Option Bool)(p:Int→Bool)(h:l.length<1099511627776)(hf: ∀x∈l,f x=some (p x)):Cr l f=some (l.any p):=by
 obtain⟨r,h1,h2⟩:=lK l f p h hf;unfold Cr;rw [h1,Cz]
 congr 1
 rw [VE];simpa using h2
theorem ae(l:AB)(lo hi:Int)(h:l.length<1099511627776):QH l lo hi=some (GG l lo hi):=by
 unfold QH;rw [YT l (fun a0=>Lj a0 lo hi) (fun x=> !La x lo hi) h (fun x _=>rfl),Cz];unfold GG;rw [List.all_eq_not_any_not]
theorem TP(list:AB)(low:Int)(high:Int)(h0:list.length<1099511627776):Y.call 71 [D.sl 3 (AQ (D.int .i64) list),D.int .i64 low,D.int .i64 high] []=some (D.bool (GG list low high),[]):=XA list low high (ae list low high h0)
noncomputable def Ej(x_:Int):Option (Bool):= some false
def AA2:SC:= .seq (.ops [oX 2 CY 4]) (.seq (.ops [oM 3 0 3,oM 4 0 3,oB 5 .neq 3 (tK 3) (tK 4) 3 4,oA 2 5 4]) .ret)
theorem A4I:Tryz.f141.body.map (BX lends)=some AA2:=by kernel_rfl
theorem AHi:Bj Tryz.f141 1=true:=by kernel_rfl
theorem AMw{a l:List D}{r:D×List D}(h:Br Y.env AA2 (fin Ap l.length [ResultVar.tmp 2] r) (entry a l))(ha:a.length=1):Y.call 141 a l=some r:=
 AZ (Y:=Y) rfl Tryz.func141 (ha▸AHi) A4I h
theorem Gs(x_:Int){r:Bool}(h:Ej x_=some r):Y.call 141 [D.int .i64 x_] []=some (D.bool r,[]):=by
 refine AMw ?_ rfl;unfold AA2;unfold Ej at h
 obtain rfl:=Option.some.inj h
 simp (maxDischargeDepth:=9) only [↓AL,AO,↓reduceIte,Nat.reduceEqDiff,Nat.reduceLT]
noncomputable def KZ(x_:Int)(y:Int):Option (Bool):= (Ej x_).bind fun r6_=> if r6_=true then (Ej y).bind fun xQ=> if xQ=true then some (decide (x_<y)) else some true else some (decide (x_<y))
def AA3:SC:= .seq (.ops [oX 4 CY 4]) (.seq (.ops [oM 5 0 3,oC 6 141 [(tK 5)] [3] 4,oM 7 6 4,⟨(some 8),(.move (tK 1)),3,(some (some 7,true))⟩,⟨(some 9),(.call ⟨(.value (.func 141)), #[(tK 8)], #[3]⟩),4,(some (some 7,true))⟩,⟨(some 10),(.unOp .not 4 (tK 9)),4,(some (some 7,true))⟩,oX 11 (.pick (tK 7) (tK 10) MS) 4,oM 12 11 4,⟨(some 13),(.move (tK 0)),3,(some (some 12,false))⟩,⟨(some 14),(.move (tK 1)),3,(some (some 12,false))⟩,⟨(some 15),(.binOp .lss 3 (tK 13) (tK 14) 3),4,(some (some 12,false))⟩,oX 16 (.pick (tK 12) F7 (tK 15)) 4,oA 4 16 4]) .ret)
theorem A4J:Tryz.f125.body.map (BX lends)=some AA3:=by kernel_rfl
theorem AHj:Bj Tryz.f125 2=true:=by kernel_rfl
theorem AMy{a l:List D}{r:D×List D}(h:Br Y.env AA3 (fin Ap l.length [ResultVar.tmp 4] r) (entry a l))(ha:a.length=2):Y.call 125 a l=some r:=
 AZ (Y:=Y) rfl Tryz.func125 (ha▸AHj) A4J h
theorem UK(x_:Int)(y:Int){r:Bool}(h:KZ x_ y=some r):Y.call 125 [D.int .i64 x_,D.int .i64 y] []=some (D.bool r,[]):=by
 refine AMy ?_ rfl;unfold AA3;unfold KZ at h;obtain⟨r6_,hl1,h⟩:=Ak h;have c1:=Gs x_ hl1;rcases iS h with⟨e2,h⟩|⟨e2,h⟩
 ·obtain⟨xQ,hl3,h⟩:=Ak h;have c3:=Gs y hl3;rcases iS h with⟨e4,h⟩|⟨e4,h⟩
  ·obtain rfl:=Option.some.inj h
   simp (maxDischargeDepth:=9) only [↓AL,AO,↓reduceIte,Nat.reduceEqDiff,Nat.reduceLT,Nat.reduceAdd,c1,e2,c3,e4]
  ·have e4f:xQ=false:=Jw.mpr e4
   obtain rfl:=Option.some.inj h
   simp (maxDischargeDepth:=9) only [↓AL,AO,↓reduceIte,Nat.reduceEqDiff,Nat.reduceLT,Nat.reduceAdd,c1,e2,c3,e4f]
 ·have e2f:r6_=false:=Jw.mpr e2
  obtain rfl:=Option.some.inj h
  simp (maxDischargeDepth:=9) only [↓AL,AO,↓reduceIte,Nat.reduceEqDiff,Nat.reduceLT,Nat.reduceAdd,c1,e2f]
noncomputable def Bg(x_:AB)(i:Int):Option ((Int)⊕(Unit⊕Unit)):= if 0<i then ck (0≤i∧i.toNat<x_.length)<| ck (0≤IntKind.i64.wrap (i-1)∧(IntKind.i64.wrap (i-1)).toNat<x_.length)<| (KZ (x_.getD i.toNat default) (x_.getD ((IntKind.i64.wrap (i-1)).toNat) default)).bind fun vP=> if vP=true then some (Sum.inr (Sum.inl ())) else some (Sum.inl (IntKind.i64.wrap (i-1))) else some (Sum.inr (Sum.inr ()))
noncomputable def Dr(x_:AB)(v:Int):Option (Unit⊕Unit):=Fb (fun v=>Bg x_ v) v
noncomputable def EW(x_:AB):Option (Bool):=
 (Dr x_ (IntKind.i64.wrap ((x_.length:Int)-1))).bind fun Aa=>
 match Aa with
 | .inl q1000_=>
  some false
 | .inr q1000_=>
  some true
abbrev qd6:List Nat:=[11,12,13,14,15,16,17,18,19,20]
def lL:SC:= .seq (.seq (.ops [oM 7 3 3,oB 8 .gtr 3 (tK 7) (iK 0) 3 4]) (.cond (tK 8) .skip (.exit 0))) (.seq (.block 1 (.seq (.draws [(⟨[11,0,0],qd6,[11]⟩,oM 11 0 26),(⟨[12,3,3],qd6,[12]⟩,oM 12 3 3),(⟨[13,11,12,0,3],qd6,[13]⟩,oI 13 26 11 12),(⟨[14,13,0],qd6,[14]⟩,oL 14 3 13 3),(⟨[15,0,0],qd6,[15]⟩,oM 15 0 26),(⟨[16,3,3],qd6,[16]⟩,oM 16 3 3),(⟨[17,16,3],qd6,[17]⟩,oB 17 .sub 3 (tK 16) (iK 1) 3 3),(⟨[18,15,17,0,17],qd6,[18]⟩,oI 18 26 15 17),(⟨[19,18,0],qd6,[19]⟩,oL 19 3 18 3),(⟨[20,14,19,0,0],qd6,[20]⟩,oC 20 125 [(tK 14),(tK 19)] [3,3] 4)]) (.cond (tK 20) (.seq (.ops [oX 2 CY 4]) .ret) .skip))) (.ops [oM 9 3 3,oB 10 .sub 3 (tK 9) (iK 1) 3 3,oA 3 10 3]))
def A1x:SC:= .loop lL
def k97:SC:= .seq (.ops [oX 2 CY 4]) (.seq (.seq (.ops [oM 4 0 26,oN 5 4 26,oB 6 .sub 3 (tK 5) (iK 1) 3 3,oA 3 6 3]) (.block 0 A1x)) (.seq (.ops [oX 2 (.assign F7) 4]) .ret))
theorem AA4:Tryz.f97.body.map (BX lends)=some k97:=by kernel_rfl
theorem AN0:Bj Tryz.f97 1=true:=by kernel_rfl
theorem c97{a l:List D}{r:D×List D}(h:Br Y.env k97 (fin Ap l.length [ResultVar.tmp 2] r) (entry a l))(ha:a.length=1):Y.call 97 a l=some r:=
 AZ (Y:=Y) rfl Tryz.func97 (ha▸AN0) AA4 h
def Bh(x_:AB)(i:Int)(s:St):Prop:=s.v 0=D.sl 3 (AQ (D.int .i64) x_)∧s.v 3=D.int .i64 i
def CK(x_:AB)(r:Unit⊕Unit)(ex:Ex)(s:St):Prop:=match r with
 | .inl q=>ex= .ret∧s.v 2=D.bool false
 | .inr q=>ex= .exit 0
theorem Md(x_:AB){v:Int}{s:St}{r:Unit⊕Unit}(h:Dr x_ v=some r)(hM:Bh x_ v s):Br Y.env A1x (CK x_ r) s:=by
 unfold Dr at h;refine BH (c:=lL) (fun v=>Bg x_ v) (fun v s=>Bh x_ v s) (CK x_) ?_ h hM;clear h hM s v r;intro i s o hM h;unfold Bg at h;unfold Bh at hM;obtain⟨m0,m1⟩:=hM;unfold lL;rcases iS h with⟨e1,h⟩|⟨e1,h⟩
 ·obtain⟨e2,e3,h⟩:=GX h;obtain⟨vP,hl4,h⟩:=Ak h;have c4:=UK (x_.getD i.toNat default) (x_.getD ((IntKind.i64.wrap (i-1)).toNat) default) hl4;rcases iS h with⟨e5,h⟩|⟨e5,h⟩
  ·obtain rfl:=Option.some.inj h
   simp (maxDischargeDepth:=9) only [↓AL,AO,↓reduceIte,Nat.reduceEqDiff,Nat.reduceLT,Nat.reduceAdd,m0,m1,e1,e2.1,e2.2,e3.1,e3.2,c4,e5,Bh,CK,Qu]
  ·have e5f:vP=false:=Jw.mpr e5
   obtain rfl:=Option.some.inj h
   simp (maxDischargeDepth:=9) only [↓AL,AO,↓reduceIte,Nat.reduceEqDiff,Nat.reduceLT,Nat.reduceAdd,m0,m1,e1,e2.1,e2.2,e3.1,e3.2,c4,e5f,Bh,En]
 ·obtain rfl:=Option.some.inj h
  simp (maxDischargeDepth:=9) only [↓AL,AO,↓reduceIte,Nat.reduceLT,m1,e1,Bh,CK,K3]
theorem NC(x_:AB){r:Bool}(h:EW x_=some r):Y.call 97 [D.sl 3 (AQ (D.int .i64) x_)] []=some (D.bool r,[]):=by
 refine c97 ?_ rfl;unfold k97;unfold EW at h;obtain⟨Aa,hl2,h⟩:=Ak h;try dsimp only at h
 simp (maxDischargeDepth:=9) only [↓AL,AO,↓reduceIte,Nat.reduceEqDiff,Nat.reduceLT];refine Aw (Md x_ hl2 ?_) ?_
 ·simp (maxDischargeDepth:=9) only [BZ,Ei,↓reduceIte,Nat.reduceEqDiff,Nat.reduceLT,Bh]
 ·intro ex2 s2 hX2;rcases Aa with q1000_|q1000_
  ·unfold CK at hX2;dsimp only at hX2 h;obtain⟨rfl,n2_0⟩:=hX2
   obtain rfl:=Option.some.inj h
   simp (maxDischargeDepth:=9) only [↓AL,AO,↓reduceIte,n2_0]
  ·unfold CK at hX2;dsimp only at hX2 h
   obtain rfl:=hX2
   obtain rfl:=Option.some.inj h
   simp (maxDischargeDepth:=9) only [↓AL,AO,↓reduceIte,Nat.reduceEqDiff,Nat.reduceLT]
def Gt(l:AB):Bool:=(List.range (l.length-1)).all fun i=>decide (l.getD i default≤l.getD (i+1) default)
theorem Nq(l:AB)(h:l.length<1099511627776):EW l=some (Gt l):=by
 unfold EW Dr;rw [I7 _ (by omega)]
 rcases Nat.eq_zero_or_pos l.length with h0|h0
 ·rw [Hy (r:=Sum.inr ())]
  ·simp [Gt,h0]
  ·simp only [Bg];rw [if_neg (by omega)]
 ·have key:=Fe (fun v=>Bg l v) (fun j=>(l.length:Int)-1-j) (l.length-1) (fun j=>decide (l.getD (l.length-1-j-1) default≤l.getD (l.length-1-j) default)) (.inl ()) (.inr ()) ?_ ?_
  ·simp only [Gn,Int.sub_zero]at key;rw [key]
   have e:(List.range (l.length-1)).all (fun j=>decide (l.getD (l.length-1-j-1) default≤l.getD (l.length-1-j) default))=Gt l:=by
    unfold Gt;rw [VE,DV,DV]
    constructor
    ·intro hh i hi;have:=hh (l.length-1-i-1) (by omega)
     rwa [show l.length-1-(l.length-1-i-1)=i+1 by omega,Nat.add_sub_cancel]at this
    ·intro hh i hi;have:=hh (l.length-1-i-1) (by omega)
     rwa [show l.length-1-i-1+1=l.length-1-i by omega]at this
   rw [e]
   cases Gt l<;>rfl
  ·intro i hi;simp only [Bg];rw [if_pos (by omega),I7 _ (by omega)]
   rw [BL (by omega),BL (by omega),show((l.length:Int)-1-i).toNat=l.length-1-i by omega,show((l.length:Int)-1-i-1).toNat=l.length-1-i-1 by omega]
   have e:KZ (l.getD (l.length-1-i) default) (l.getD (l.length-1-i-1) default)=some (decide (l.getD (l.length-1-i) default<l.getD (l.length-1-i-1) default)):=by
    unfold KZ Ej;by_cases hq:l.getD (l.length-1-i) default<l.getD (l.length-1-i-1) default<;>simp [hq]
   rw [e,Cz];simp only [decide_eq_true_eq];by_cases hq:l.getD (l.length-1-i) default<l.getD (l.length-1-i-1) default
   ·rw [if_pos hq,if_neg (by omega)]
   ·rw [if_neg hq,if_pos (by omega),show(l.length:Int)-1-i-1=(l.length:Int)-1-((i+1:Nat):Int) by omega]
  ·simp only [Bg];rw [if_neg (by omega)]
theorem Nr(x_:AB)(h0:x_.length<1099511627776):Y.call 97 [D.sl 3 (AQ (D.int .i64) x_)] []=some (D.bool (Gt x_),[]):=NC x_ (Nq x_ h0)
def Ij:AB→AB→Int
 | [],[]=>0
 | [],_::_=> -1
 |_::_,[]=>1
 |x::a,y::b=>if x=y then Ij a b else if x<y then-1 else 1
noncomputable def Gu(x_:Int)(y:Int):Option (Int):= (Ej x_).bind fun V8=> (Ej y).bind fun Uo=> if V8=true then if Uo=true then some 0 else some (-1) else if Uo=true then some 1 else if x_<y then some (-1) else if y<x_ then some 1 else some 0
def AA5:SC:= .seq (.ops [oX 4 (.assign (iK 0)) 3]) (.seq (.ops [oM 7 0 3,oC 8 141 [(tK 7)] [3] 4,oA 5 8 4]) (.seq (.ops [oM 9 1 3,oC 10 141 [(tK 9)] [3] 4,oA 6 10 4]) (.seq (.seq (.ops [oM 11 5 4]) (.cond (tK 11) (.seq (.seq (.ops [oM 12 6 4]) (.cond (tK 12) (.seq (.ops [oX 4 (.assign (iK 0)) 3]) .ret) .skip)) (.seq (.ops [oX 4 SL 3]) .ret)) .skip)) (.seq (.seq (.ops [oM 13 6 4]) (.cond (tK 13) (.seq (.ops [oX 4 (.assign (iK 1)) 3]) .ret) .skip)) (.seq (.seq (.ops [oM 14 0 3,oM 15 1 3,oB 16 .lss 3 (tK 14) (tK 15) 3 4]) (.cond (tK 16) (.seq (.ops [oX 4 SL 3]) .ret) .skip)) (.seq (.seq (.ops [oM 17 0 3,oM 18 1 3,oB 19 .gtr 3 (tK 17) (tK 18) 3 4]) (.cond (tK 19) (.seq (.ops [oX 4 (.assign (iK 1)) 3]) .ret) .skip)) (.seq (.ops [oX 4 (.assign (iK 0)) 3]) .ret)))))))
theorem A4K:Tryz.f126.body.map (BX lends)=some AA5:=by kernel_rfl
theorem AHk:Bj Tryz.f126 2=true:=by kernel_rfl
theorem AN1{a l:List D}{r:D×List D}(h:Br Y.env AA5 (fin Ap l.length [ResultVar.tmp 4] r) (entry a l))(ha:a.length=2):Y.call 126 a l=some r:=
 AZ (Y:=Y) rfl Tryz.func126 (ha▸AHk) A4K h
theorem Rf(x_:Int)(y:Int){r:Int}(h:Gu x_ y=some r):Y.call 126 [D.int .i64 x_,D.int .i64 y] []=some (D.int .i64 r,[]):=by
 refine AN1 ?_ rfl;unfold AA5;unfold Gu at h;obtain⟨V8,hl1,h⟩:=Ak h;have c1:=Gs x_ hl1;obtain⟨Uo,hl2,h⟩:=Ak h;have c2:=Gs y hl2;rcases iS h with⟨e3,h⟩|⟨e3,h⟩
 ·rcases iS h with⟨e4,h⟩|⟨e4,h⟩
  ·obtain rfl:=Option.some.inj h
   simp (maxDischargeDepth:=9) only [↓AL,AO,↓reduceIte,Nat.reduceEqDiff,Nat.reduceLT,Nat.reduceAdd,Int.reduceNeg,c1,c2,e3,e4]
  ·have e4f:Uo=false:=Jw.mpr e4
   obtain rfl:=Option.some.inj h
   simp (maxDischargeDepth:=9) only [↓AL,AO,↓reduceIte,Nat.reduceEqDiff,Nat.reduceLT,Nat.reduceAdd,Int.reduceNeg,c1,c2,e3,e4f]
 ·have e3f:V8=false:=Jw.mpr e3;rcases iS h with⟨e4,h⟩|⟨e4,h⟩
  ·obtain rfl:=Option.some.inj h
   simp (maxDischargeDepth:=9) only [↓AL,AO,↓reduceIte,Nat.reduceEqDiff,Nat.reduceLT,Nat.reduceAdd,Int.reduceNeg,c1,c2,e3f,e4]
  ·have e4f:Uo=false:=Jw.mpr e4;rcases iS h with⟨e5,h⟩|⟨e5,h⟩
   ·obtain rfl:=Option.some.inj h
    simp (maxDischargeDepth:=9) only [↓AL,AO,↓reduceIte,Nat.reduceEqDiff,Nat.reduceLT,Nat.reduceAdd,Int.reduceNeg,c1,c2,e3f,e4f,e5]
   ·rcases iS h with⟨e6,h⟩|⟨e6,h⟩
    ·obtain rfl:=Option.some.inj h
     simp (maxDischargeDepth:=9) only [↓AL,AO,↓reduceIte,Nat.reduceEqDiff,Nat.reduceLT,Nat.reduceAdd,Int.reduceNeg,c1,c2,e3f,e4f,e5,e6]
    ·obtain rfl:=Option.some.inj h
     simp (maxDischargeDepth:=9) only [↓AL,AO,↓reduceIte,Nat.reduceEqDiff,Nat.reduceLT,Nat.reduceAdd,Int.reduceNeg,c1,c2,e3f,e4f,e5,e6]
noncomputable def Bl(s1_:AB)(s2_:AB)(Aj:Int):Option ((Int)⊕(Int⊕Unit)):= if Aj<(s1_.length:Int)then ck (0≤Aj∧Aj.toNat<s1_.length)<| if(s2_.length:Int)≤Aj then some (Sum.inr (Sum.inl 1)) else ck (0≤Aj∧Aj.toNat<s2_.length)<| (Gu (s1_.getD Aj.toNat default) (s2_.getD Aj.toNat default)).bind fun af=> if af=0 then some (Sum.inl (IntKind.i64.wrap (Aj+1))) else some (Sum.inr (Sum.inl af)) else some (Sum.inr (Sum.inr ()))
noncomputable def Be(s1_:AB)(s2_:AB)(v:Int):Option (Int⊕Unit):=Fb (fun v=>Bl s1_ s2_ v) v
noncomputable def Ca(s1_:AB)(s2_:AB):Option (Int):=
 (Be s1_ s2_ 0).bind fun Aa=>
 match Aa with
 | .inl q1000_=>
  some q1000_
 | .inr q1000_=>
  if(s1_.length:Int)<(s2_.length:Int)then
   some (-1)
  else
   some 0
def lM:SC:= .seq (.ops [oB 12 .lss 3 (tK 11) (tK 10) 3 0]) (.seq (.cond (tK 12) .skip (.exit 0)) (.seq (.block 1 (.seq (.ops [oM 13 11 3,oI 14 26 9 11,oL 15 3 14 3,oA 5 13 3,oA 6 15 3]) (.seq (.seq (.ops [oM 16 5 3,oM 17 1 26,oN 18 17 26,oB 19 .geq 3 (tK 16) (tK 18) 3 4]) (.cond (tK 19) (.seq (.ops [oX 4 (.assign (iK 1)) 3]) .ret) .skip)) (.seq (.ops [oM 20 1 26,oM 21 5 3,oI 22 26 20 21,oL 23 3 22 3,oA 7 23 3]) (.seq (.ops [oM 24 6 3,oM 25 7 3,oC 26 126 [(tK 24),(tK 25)] [3,3] 3,oA 8 26 3]) (.seq (.ops [oM 27 8 3,oB 28 .neq 3 (tK 27) (iK 0) 3 4]) (.cond (tK 28) (.seq (.ops [oM 29 8 3,oA 4 29 3]) .ret) .skip))))))) (.ops [oB 30 .add 3 (tK 11) (iK 1) 3 3,oM 11 30 3])))
def A1y:SC:= .loop lM
def k98:SC:= .seq (.ops [oX 4 (.assign (iK 0)) 3]) (.seq (.seq (.ops [oM 9 0 26,oN 10 9 26,oX 11 (.move (iK 0)) 3]) (.block 0 A1y)) (.seq (.seq (.ops [oM 31 0 26,oN 32 31 26,oM 33 1 26,oN 34 33 26,oB 35 .lss 3 (tK 32) (tK 34) 3 4]) (.cond (tK 35) (.seq (.ops [oX 4 SL 3]) .ret) .skip)) (.seq (.ops [oX 4 (.assign (iK 0)) 3]) .ret)))
theorem AA6:Tryz.f98.body.map (BX lends)=some k98:=by kernel_rfl
theorem AN3:Bj Tryz.f98 2=true:=by kernel_rfl
theorem c98{a l:List D}{r:D×List D}(h:Br Y.env k98 (fin Ap l.length [ResultVar.tmp 4] r) (entry a l))(ha:a.length=2):Y.call 98 a l=some r:=
 AZ (Y:=Y) rfl Tryz.func98 (ha▸AN3) AA6 h
def BR(s1_:AB)(s2_:AB)(Aj:Int)(s:St):Prop:=s.v 0=D.sl 3 (AQ (D.int .i64) s1_)∧s.v 1=D.sl 3 (AQ (D.int .i64) s2_)∧s.v 9=D.sl 3 (AQ (D.int .i64) s1_)∧s.v 10=D.int .i64 (s1_.length:Int)∧s.v 11=D.int .i64 Aj
def Bn(s1_:AB)(s2_:AB)(r:Int⊕Unit)(ex:Ex)(s:St):Prop:=match r with
 | .inl q=>ex= .ret∧s.v 4=D.int .i64 q
 | .inr q=>ex= .exit 0∧s.v 0=D.sl 3 (AQ (D.int .i64) s1_)∧s.v 1=D.sl 3 (AQ (D.int .i64) s2_)
theorem ND(s1_:AB)(s2_:AB){v:Int}{s:St}{r:Int⊕Unit}(h:Be s1_ s2_ v=some r)(hM:BR s1_ s2_ v s):Br Y.env A1y (Bn s1_ s2_ r) s:=by
 unfold Be at h;refine BH (c:=lM) (fun v=>Bl s1_ s2_ v) (fun v s=>BR s1_ s2_ v s) (Bn s1_ s2_) ?_ h hM;clear h hM s v r;intro Aj s o hM h;unfold Bl at h;unfold BR at hM;obtain⟨m0,m1,m2,m3,m4⟩:=hM;unfold lM;rcases iS h with⟨e1,h⟩|⟨e1,h⟩
 ·obtain⟨e2,h⟩:=ES h;rcases iS h with⟨e3,h⟩|⟨e3,h⟩
  ·obtain rfl:=Option.some.inj h
   simp (maxDischargeDepth:=9) only [↓AL,AO,↓reduceIte,Nat.reduceEqDiff,Nat.reduceLT,m1,m2,m3,m4,e1,e2.1,e2.2,e3,BR,Bn,Qu]
  ·obtain⟨e4,h⟩:=ES h;obtain⟨af,hl5,h⟩:=Ak h;have c5:=Rf (s1_.getD Aj.toNat default) (s2_.getD Aj.toNat default) hl5;rcases iS h with⟨e6,h⟩|⟨e6,h⟩
   ·obtain rfl:=Option.some.inj h
    simp (maxDischargeDepth:=9) only [↓AL,AO,↓reduceIte,Nat.reduceEqDiff,Nat.reduceLT,Nat.reduceAdd,m0,m1,m2,m3,m4,e1,e2.1,e2.2,e3,e4.2,c5,decide_eq_true e6,BR,En]
   ·obtain rfl:=Option.some.inj h
    simp (maxDischargeDepth:=9) only [↓AL,AO,↓reduceIte,Nat.reduceEqDiff,Nat.reduceLT,Nat.reduceAdd,m1,m2,m3,m4,e1,e2.1,e2.2,e3,e4.2,c5,e6,BR,Bn,Qu]
 ·obtain rfl:=Option.some.inj h
  simp (maxDischargeDepth:=9) only [↓AL,AO,↓reduceIte,Nat.reduceEqDiff,Nat.reduceLT,m0,m1,m3,m4,e1,BR,Bn,K3]
theorem IG(s1_:AB)(s2_:AB){r:Int}(h:Ca s1_ s2_=some r):Y.call 98 [D.sl 3 (AQ (D.int .i64) s1_),D.sl 3 (AQ (D.int .i64) s2_)] []=some (D.int .i64 r,[]):=by
 refine c98 ?_ rfl;unfold k98;unfold Ca at h;obtain⟨Aa,hl2,h⟩:=Ak h;try dsimp only at h
 simp (maxDischargeDepth:=9) only [↓AL,AO,↓reduceIte,Nat.reduceEqDiff,Nat.reduceLT,Int.reduceNeg];refine Aw (ND s1_ s2_ hl2 ?_) ?_
 ·simp (maxDischargeDepth:=9) only [BZ,Ei,↓reduceIte,Nat.reduceEqDiff,Nat.reduceLT,BR]
 ·intro ex2 s2 hX2;rcases Aa with q1000_|q1000_
  ·unfold Bn at hX2;dsimp only at hX2 h;obtain⟨rfl,n2_0⟩:=hX2
   obtain rfl:=Option.some.inj h
   simp (maxDischargeDepth:=9) only [↓AL,AO,↓reduceIte,n2_0]
  ·unfold Bn at hX2;dsimp only at hX2 h;obtain⟨rfl,n2_0,n2_1⟩:=hX2;rcases iS h with⟨e3,h⟩|⟨e3,h⟩
   ·obtain rfl:=Option.some.inj h
    simp (maxDischargeDepth:=9) only [↓AL,AO,↓reduceIte,Nat.reduceEqDiff,Nat.reduceLT,Int.reduceNeg,n2_0,n2_1,e3]
   ·obtain rfl:=Option.some.inj h
    simp (maxDischargeDepth:=9) only [↓AL,AO,↓reduceIte,Nat.reduceEqDiff,Nat.reduceLT,Int.reduceNeg,n2_0,n2_1,e3]
theorem XB(x y:Int):Gu x y=some (if x<y then-1 else if y<x then 1 else 0):=by
 unfold Gu Ej;by_cases h1:x<y<;>by_cases h2:y<x<;>simp [h1,h2]
theorem gK: ∀(a b p q:AB),p.length=q.length→p.length+a.length<1099511627776→q.length+b.length<1099511627776→
  (Be (p++a) (q++b) (p.length:Int)).bind (fun r=>match r with| .inl q2=>some q2| .inr _=>if((p++a).length:Int)<((q++b).length:Int)then some (-1)else some 0)=some (Ij a b):=by
 intro a
 induction a with
 |nil=>
  intro b p q hpq ha hb;unfold Be;rw [Hy (r:=Sum.inr ())]
  ·simp only [Cz,VD,Nf,hpq]
   cases b with
   |nil=>rw [if_neg (by simp)];rfl
   |cons y b=>rw [if_pos (by simp;omega)];rfl
  ·simp only [Bl];rw [if_neg (xM _)]
 |cons x a ih=>
  intro b p q hpq ha hb;simp only [Lb]at ha hb;have ex:(p++x::a).getD (p.length:Int).toNat default=x:=by rw [EC];exact KX p (x::a) p.length rfl (by simp)
  cases b with
  |nil=>
   unfold Be;rw [Hy (r:=Sum.inl 1)]
   ·rfl
   ·simp only [Bl];rw [if_pos (vL ..),BL (vM ..),if_pos (by simp;omega)]
  |cons y b=>
   simp only [Lb]at hb;have ey:(q++y::b).getD (p.length:Int).toNat default=y:=by rw [EC,hpq];exact KX q (y::b) q.length rfl (by simp)
   have step:Bl (p++x::a) (q++y::b) (p.length:Int)=if x=y then some (.inl (((p++[x]).length:Nat):Int))else some (.inr (.inl (if x<y then-1 else 1))):=by
    unfold Bl;rw [if_pos (vL ..),BL (vM ..),if_neg (by simp;omega),BL (by simp;omega),ex,ey,XB,Cz,K4 _ (by omega)]
    by_cases h1:x=y
    ·subst h1;simp
    ·rw [if_neg h1];by_cases h2:x<y
     ·simp [h2]
     ·have h3:y<x:=by omega
      simp [h2,h3]
   unfold Ij;by_cases h1:x=y
   ·rw [if_pos h1];rw [if_pos h1]at step;have:=ih b (p++[x]) (q++[y]) (by simp [hpq]) (by simp;omega) (by simp;omega)
    unfold Be at this ⊢;rw [QB step];simpa using this
   ·rw [if_neg h1];rw [if_neg h1]at step;unfold Be;rw [Hy step];rfl
theorem JF(a b:AB)(ha:a.length<1099511627776)(hb:b.length<1099511627776):Ca a b=some (Ij a b):=by
 have:=gK a b [] [] rfl (by simpa using ha) (by simpa using hb)
 unfold Ca;simp only [Ue,Sd,Gn]at this;exact this
theorem OE(s1_:AB)(s2_:AB)(h0:s1_.length<1099511627776)(h1:s2_.length<1099511627776):Y.call 98 [D.sl 3 (AQ (D.int .i64) s1_),D.sl 3 (AQ (D.int .i64) s2_)] []=some (D.int .i64 (Ij s1_ s2_),[]):=IG s1_ s2_ (JF s1_ s2_ h0 h1)
noncomputable def TQ(n_:Int):Option (Int):= if 0<n_ then some 1 else if n_<0 then some (-1) else some 0
def AA7:SC:= .seq (.ops [oX 2 (.assign (iK 0)) 3]) (.seq (.block 0 (.seq (.ops [oM 4 0 3,oB 5 .gtr 3 (tK 4) (iK 0) 3 4,oA 3 5 4]) (.cond (tK 3) (.seq (.ops [oX 2 (.assign (iK 1)) 3]) .ret) (.seq (.ops [oM 7 0 3,oB 8 .lss 3 (tK 7) (iK 0) 3 4,oA 6 8 4]) (.cond (tK 6) (.seq (.ops [oX 2 SL 3]) .ret) .skip))))) (.seq (.ops [oX 2 (.assign (iK 0)) 3]) .ret))
theorem A4L:Tryz.f139.body.map (BX lends)=some AA7:=by kernel_rfl
theorem AHl:Bj Tryz.f139 1=true:=by kernel_rfl
theorem AN4{a l:List D}{r:D×List D}(h:Br Y.env AA7 (fin Ap l.length [ResultVar.tmp 2] r) (entry a l))(ha:a.length=1):Y.call 139 a l=some r:=
 AZ (Y:=Y) rfl Tryz.func139 (ha▸AHl) A4L h
theorem gL(n_:Int){r:Int}(h:TQ n_=some r):Y.call 139 [D.int .i64 n_] []=some (D.int .i64 r,[]):=by
 refine AN4 ?_ rfl;unfold AA7;unfold TQ at h;rcases iS h with⟨e1,h⟩|⟨e1,h⟩
 ·obtain rfl:=Option.some.inj h
  simp (maxDischargeDepth:=9) only [↓AL,AO,↓reduceIte,Nat.reduceEqDiff,Nat.reduceLT,Int.reduceNeg,e1]
 ·rcases iS h with⟨e2,h⟩|⟨e2,h⟩
  ·obtain rfl:=Option.some.inj h
   simp (maxDischargeDepth:=9) only [↓AL,AO,↓reduceIte,Nat.reduceEqDiff,Nat.reduceLT,Int.reduceNeg,e1,e2]
  ·obtain rfl:=Option.some.inj h
   simp (maxDischargeDepth:=9) only [↓AL,AO,↓reduceIte,Nat.reduceEqDiff,Nat.reduceLT,Int.reduceNeg,e1,e2]
noncomputable def II(a:AB)(b:AB)(Gv:Int):Option ((Int)⊕(Int⊕Unit)):= if Gv<(a.length:Int)then ck (0≤Gv∧Gv.toNat<a.length)<| ck (0≤Gv∧Gv.toNat<b.length)<| if(a.getD Gv.toNat default)=(b.getD Gv.toNat default)then some (Sum.inl (IntKind.i64.wrap (Gv+1))) else (TQ (IntKind.i64.wrap ((a.getD Gv.toNat default)-(b.getD Gv.toNat default)))).bind fun af=> some (Sum.inr (Sum.inl af)) else some (Sum.inr (Sum.inr ()))
noncomputable def Ir(a:AB)(b:AB)(v:Int):Option (Int⊕Unit):=Fb (fun v=>II a b v) v
noncomputable def U5(a:AB)(b:AB):Option (Int):=
 (Ir a b 0).bind fun Aa=>
 match Aa with
 | .inl q1000_=>
  some q1000_
 | .inr q1000_=>
  some 0
def ah:SC:= .seq (.ops [oB 10 .lss 3 (tK 9) (tK 8) 3 0]) (.seq (.cond (tK 10) .skip (.exit 0)) (.seq (.block 1 (.seq (.ops [oM 11 9 3,oI 12 26 7 9,oL 13 3 12 3,oA 5 11 3,oA 6 13 3]) (.seq (.ops [oM 14 6 3,oM 15 1 26,oM 16 5 3,oI 17 26 15 16,oL 18 3 17 3,oB 19 .neq 3 (tK 14) (tK 18) 3 4]) (.cond (tK 19) (.seq (.ops [oM 20 6 3,oM 21 1 26,oM 22 5 3,oI 23 26 21 22,oL 24 3 23 3,oB 25 .sub 3 (tK 20) (tK 24) 3 3,oC 26 139 [(tK 25)] [3] 3,oA 4 26 3]) .ret) .skip)))) (.ops [oB 27 .add 3 (tK 9) (iK 1) 3 3,oM 9 27 3])))
def xR:SC:= .loop ah
def AA8:SC:= .seq (.ops [oX 4 (.assign (iK 0)) 3]) (.seq (.seq (.ops [oM 7 0 26,oN 8 7 26,oX 9 (.move (iK 0)) 3]) (.block 0 xR)) (.seq (.ops [oX 4 (.assign (iK 0)) 3]) .ret))
theorem A4M:Tryz.f121.body.map (BX lends)=some AA8:=by kernel_rfl
theorem AHm:Bj Tryz.f121 2=true:=by kernel_rfl
theorem AN5{a l:List D}{r:D×List D}(h:Br Y.env AA8 (fin Ap l.length [ResultVar.tmp 4] r) (entry a l))(ha:a.length=2):Y.call 121 a l=some r:=
 AZ (Y:=Y) rfl Tryz.func121 (ha▸AHm) A4M h
def GH(a:AB)(b:AB)(Gv:Int)(s:St):Prop:=s.v 1=D.sl 3 (AQ (D.int .i64) b)∧s.v 7=D.sl 3 (AQ (D.int .i64) a)∧s.v 8=D.int .i64 (a.length:Int)∧s.v 9=D.int .i64 Gv
def IJ(a:AB)(b:AB)(r:Int⊕Unit)(ex:Ex)(s:St):Prop:=match r with
 | .inl q=>ex= .ret∧s.v 4=D.int .i64 q
 | .inr q=>ex= .exit 0
theorem YU(a:AB)(b:AB){v:Int}{s:St}{r:Int⊕Unit}(h:Ir a b v=some r)(hM:GH a b v s):Br Y.env xR (IJ a b r) s:=by
 unfold Ir at h;refine BH (c:=ah) (fun v=>II a b v) (fun v s=>GH a b v s) (IJ a b) ?_ h hM;clear h hM s v r;intro Gv s o hM h;unfold II at h;unfold GH at hM;obtain⟨m0,m1,m2,m3⟩:=hM;unfold ah;rcases iS h with⟨e1,h⟩|⟨e1,h⟩
 ·obtain⟨e2,e3,h⟩:=GX h;rcases iS h with⟨e4,h⟩|⟨e4,h⟩
  ·obtain rfl:=Option.some.inj h
   simp (maxDischargeDepth:=9) only [↓AL,AO,↓reduceIte,Nat.reduceEqDiff,Nat.reduceLT,m0,m1,m2,m3,e1,e2.1,e2.2,e3.2,decide_eq_true e4,GH,En]
  ·obtain⟨af,hl5,h⟩:=Ak h;try dsimp only at h
   have c5:=gL (IntKind.i64.wrap ((a.getD Gv.toNat default)-(b.getD Gv.toNat default))) hl5
   obtain rfl:=Option.some.inj h
   simp (maxDischargeDepth:=9) only [↓AL,AO,↓reduceIte,Nat.reduceEqDiff,Nat.reduceLT,Nat.reduceAdd,m0,m1,m2,m3,e1,e2.1,e2.2,e3.2,e4,c5,GH,IJ,Qu]
 ·obtain rfl:=Option.some.inj h
  simp (maxDischargeDepth:=9) only [↓AL,AO,↓reduceIte,Nat.reduceLT,m2,m3,e1,GH,IJ,K3]
theorem ai(a:AB)(b:AB){r:Int}(h:U5 a b=some r):Y.call 121 [D.sl 3 (AQ (D.int .i64) a),D.sl 3 (AQ (D.int .i64) b)] []=some (D.int .i64 r,[]):=by
 refine AN5 ?_ rfl;unfold AA8;unfold U5 at h;obtain⟨Aa,hl2,h⟩:=Ak h;try dsimp only at h
 simp (maxDischargeDepth:=9) only [↓AL,AO,↓reduceIte,Nat.reduceEqDiff,Nat.reduceLT];refine Aw (YU a b hl2 ?_) ?_
 ·simp (maxDischargeDepth:=9) only [BZ,Ei,↓reduceIte,Nat.reduceEqDiff,Nat.reduceLT,GH]
 ·intro ex2 s2 hX2;rcases Aa with q1000_|q1000_
  ·unfold IJ at hX2;dsimp only at hX2 h;obtain⟨rfl,n2_0⟩:=hX2
   obtain rfl:=Option.some.inj h
   simp (maxDischargeDepth:=9) only [↓AL,AO,↓reduceIte,n2_0]
  ·unfold IJ at hX2;dsimp only at hX2 h
   obtain rfl:=hX2
   obtain rfl:=Option.some.inj h
   simp (maxDischargeDepth:=9) only [↓AL,AO,↓reduceIte,Nat.reduceEqDiff,Nat.reduceLT]
def OG(l:AB):Bool:=GG l (-1099511627776) 1099511627776
theorem aj{l:AB}(h:OG l=true){x:Int}(hx:x∈l): -1099511627776≤x∧x≤1099511627776:=by
 have:=KN.1 h x hx;exact Fg.1 this
theorem jO{l:AB}{lo hi:Int}(h:GG l lo hi=true)(h1: -1099511627776≤lo)(h2:hi≤1099511627776):OG l=true:=by
 refine KN.2 fun x hx=> ?_;have:=Fg.1 (KN.1 h x hx)
 exact Fg.2 ⟨by omega,by omega⟩
theorem rC(n:Int):TQ n=some (if n<0 then-1 else if 0<n then 1 else 0):=by
 unfold TQ;by_cases h1:n<0<;>by_cases h2:0<n<;>simp [h1,h2]<;>omega
theorem rD: ∀(a b p q:AB),p.length=q.length→a.length=b.length→p.length+a.length<1099511627776→OG a=true→OG b=true→
  (Ir (p++a) (q++b) (p.length:Int)).bind (fun r=>match r with| .inl q2=>some q2| .inr _=>some 0)=some (Ij a b):=by
 intro a
 induction a with
 |nil=>
  intro b p q hpq hab ha h1 h2;have:b=[]:=by cases b with|nil=>rfl|cons _ _=>simp at hab
  subst this;unfold Ir;rw [Hy (r:=Sum.inr ())]
  ·rfl
  ·simp only [II];rw [if_neg (xM _)]
 |cons x a ih=>
  intro b p q hpq hab ha h1 h2
  cases b with
  |nil=>simp at hab
  |cons y b=>
   simp only [Lb]at ha hab;have sx1:=aj h1 (KM ..);have sy1:=aj h2 (KM ..);have ex:(p++x::a).getD (p.length:Int).toNat default=x:=by rw [EC];exact KX p (x::a) p.length rfl (by simp)
   have ey:(q++y::b).getD (p.length:Int).toNat default=y:=by rw [EC,hpq];exact KX q (y::b) q.length rfl (by simp)
   have step:II (p++x::a) (q++y::b) (p.length:Int)=if x=y then some (.inl (((p++[x]).length:Nat):Int))else some (.inr (.inl (if x<y then-1 else 1))):=by
    unfold II;rw [if_pos (vL ..),BL (vM ..),BL (by simp;omega),ex,ey,K4 _ (by omega),I7 _ (by omega),rC,Cz]
    by_cases h1:x=y
    ·subst h1;simp
    ·rw [if_neg h1,if_neg h1];by_cases h2:x<y
     ·rw [if_pos (by omega),if_pos h2]
     ·rw [if_neg (by omega),if_pos (by omega),if_neg h2]
   have s1:OG a=true:=KN.2 fun z hz=>KN.1 h1 z (RL _ hz);have s2:OG b=true:=KN.2 fun z hz=>KN.1 h2 z (RL _ hz);unfold Ij;by_cases h1:x=y
   ·rw [if_pos h1];rw [if_pos h1]at step;have:=ih b (p++[x]) (q++[y]) (by simp [hpq]) (by omega) (by simp;omega) s1 s2
    unfold Ir at this ⊢;rw [QB step];simpa using this
   ·rw [if_neg h1];rw [if_neg h1]at step;unfold Ir;rw [Hy step];rfl
theorem lN(a b:AB)(ha:a.length<1099511627776)(hab:a.length=b.length)(h1:OG a=true)(h2:OG b=true):U5 a b=some (Ij a b):=by
 have:=rD a b [] [] rfl hab (by simpa using ha) h1 h2
 unfold U5;simp only [Ue,Sd,Gn]at this;exact this
theorem lQ(a:AB)(b:AB)(h0:a.length<1099511627776)(h1:a.length=b.length)(h2:OG a=true)(h3:OG b=true):Y.call 121 [D.sl 3 (AQ (D.int .i64) a),D.sl 3 (AQ (D.int .i64) b)] []=some (D.int .i64 (Ij a b),[]):=ai a b (lN a b h0 h1 h2 h3)
def Qa(l:AY)(size labels:Int)(i:Nat):Bool:=
 ((decide (((l.getD i default).length:Int)=size)&&Gt (l.getD i default))&&GG (l.getD i default) 0 (labels-1))&&(decide (i=0)||decide (Ij (l.getD (i-1) default) (l.getD i default)<0))
def MH(l:AY)(size labels:Int):Bool:=(List.range l.length).all (Qa l size labels)
def MC(labels degree:Int)(ns es:AY):Bool:=((La labels 1 8&&La degree 1 4)&&MH ns degree labels)&&MH es 2 labels
theorem Bv.getD{l:AY}(h:Bv l)(i:Nat):(l.getD i default).length<1099511627776:=by
 rcases Nat.lt_or_ge i l.length with hi|hi
 ·rw [Ao _ _ hi];exact h.at i hi
 ·rw [Le,eu hi];decide
noncomputable def DW(list:AY)(size:Int)(labels:Int)(Aj:Int):Option ((Int)⊕(Unit⊕Unit)):= if Aj<(list.length:Int)then ck (0≤Aj∧Aj.toNat<list.length)<| if((list.getD Aj.toNat default).length:Int)=size then ck ((list.getD Aj.toNat default).length<1099511627776)<| if(Gt (list.getD Aj.toNat default))=true then if(GG (list.getD Aj.toNat default) (0:Int) (IntKind.i64.wrap (labels-1)))=true then if 0<Aj then ck (0≤IntKind.i64.wrap (Aj-1)∧(IntKind.i64.wrap (Aj-1)).toNat<list.length)<| ck ((list.getD ((IntKind.i64.wrap (Aj-1)).toNat) default).length<1099511627776)<| if 0≤(Ij (list.getD ((IntKind.i64.wrap (Aj-1)).toNat) default) (list.getD Aj.toNat default))then some (Sum.inr (Sum.inl ())) else some (Sum.inl (IntKind.i64.wrap (Aj+1))) else some (Sum.inl (IntKind.i64.wrap (Aj+1))) else some (Sum.inr (Sum.inl ())) else some (Sum.inr (Sum.inl ())) else some (Sum.inr (Sum.inl ())) else some (Sum.inr (Sum.inr ()))
noncomputable def GV(list:AY)(size:Int)(labels:Int)(v:Int):Option (Unit⊕Unit):=Fb (fun v=>DW list size labels v) v
noncomputable def Iu(list:AY)(size:Int)(labels:Int):Option (Bool):=
 (GV list size labels 0).bind fun Aa=>
 match Aa with
 | .inl q1000_=>
  some false
 | .inr q1000_=>
  some true
def lS:SC:= .seq (.ops [oB 12 .lss 3 (tK 11) (tK 10) 3 0]) (.seq (.cond (tK 12) .skip (.exit 0)) (.seq (.block 1 (.seq (.ops [oM 13 11 3,oI 14 22 9 11,oL 15 26 14 26,oA 7 13 3,oA 8 15 26]) (.seq (.ops [oM 16 8 26,oN 17 16 26,oM 18 1 3,oB 19 .neq 3 (tK 17) (tK 18) 3 4,oM 20 19 4,⟨(some 21),(.move (tK 8)),26,(some (some 20,false))⟩,⟨(some 22),(.call ⟨(.value (.func 97)), #[(tK 21)], #[26]⟩),4,(some (some 20,false))⟩,⟨(some 23),(.unOp .not 4 (tK 22)),4,(some (some 20,false))⟩,oX 24 (.pick (tK 20) F7 (tK 23)) 4,oM 25 24 4,⟨(some 26),(.move (tK 8)),26,(some (some 25,false))⟩,⟨(some 27),(.move (tK 2)),3,(some (some 25,false))⟩,⟨(some 28),(.binOp .sub 3 (tK 27) (iK 1) 3),3,(some (some 25,false))⟩,⟨(some 29),(.call ⟨(.value (.func 71)), #[(tK 26),(iK 0),(tK 28)], #[26,3,3]⟩),4,(some (some 25,false))⟩,⟨(some 30),(.unOp .not 4 (tK 29)),4,(some (some 25,false))⟩,oX 31 (.pick (tK 25) F7 (tK 30)) 4,oM 32 31 4,⟨(some 33),(.move (tK 7)),3,(some (some 32,false))⟩,⟨(some 34),(.binOp .gtr 3 (tK 33) (iK 0) 3),4,(some (some 32,false))⟩,⟨(some 35),(.move (tK 34)),4,(some (some 32,false))⟩,⟨(some 36),(.move (tK 0)),22,(some (some 35,true))⟩,⟨(some 37),(.move (tK 7)),3,(some (some 35,true))⟩,
 ⟨(some 38),(.binOp .sub 3 (tK 37) (iK 1) 3),3,(some (some 35,true))⟩,⟨(some 39),(.indexAddr 22 (tK 36) (tK 38)),0,(some (some 35,true))⟩,⟨(some 40),(.load 26 (tK 39)),26,(some (some 35,true))⟩,⟨(some 41),(.move (tK 8)),26,(some (some 35,true))⟩,⟨(some 42),(.call ⟨(.value (.func 98)), #[(tK 40),(tK 41)], #[26,26]⟩),3,(some (some 35,true))⟩,⟨(some 43),(.binOp .geq 3 (tK 42) (iK 0) 3),4,(some (some 35,true))⟩,⟨(some 44),(.pick (tK 35) (tK 43) MS),4,(some (some 32,false))⟩,oX 45 (.pick (tK 32) F7 (tK 44)) 4]) (.cond (tK 45) (.seq (.ops [oX 6 CY 4]) .ret) .skip)))) (.ops [oB 46 .add 3 (tK 11) (iK 1) 3 3,oM 11 46 3])))
def A1z:SC:= .loop lS
def k65:SC:= .seq (.ops [oX 6 CY 4]) (.seq (.seq (.ops [oM 9 0 22,oN 10 9 22,oX 11 (.move (iK 0)) 3]) (.block 0 A1z)) (.seq (.ops [oX 6 (.assign F7) 4]) .ret))
theorem AA9:Tryz.f65.body.map (BX lends)=some k65:=by kernel_rfl
theorem AN7:Bj Tryz.f65 3=true:=by kernel_rfl
theorem c65{a l:List D}{r:D×List D}(h:Br Y.env k65 (fin Ap l.length [ResultVar.tmp 6] r) (entry a l))(ha:a.length=3):Y.call 65 a l=some r:=
 AZ (Y:=Y) rfl Tryz.func65 (ha▸AN7) AA9 h
def BS(list:AY)(size:Int)(labels:Int)(Aj:Int)(s:St):Prop:=s.v 0=D.sl 26 (AQ Bw list)∧s.v 1=D.int .i64 size∧s.v 2=D.int .i64 labels∧s.v 9=D.sl 26 (AQ Bw list)∧s.v 10=D.int .i64 (list.length:Int)∧s.v 11=D.int .i64 Aj
def CE(list:AY)(size:Int)(labels:Int)(r:Unit⊕Unit)(ex:Ex)(s:St):Prop:=match r with
 | .inl q=>ex= .ret∧s.v 6=D.bool false
 | .inr q=>ex= .exit 0
theorem Qb(list:AY)(size:Int)(labels:Int){v:Int}{s:St}{r:Unit⊕Unit}(h:GV list size labels v=some r)(hM:BS list size labels v s):Br Y.env A1z (CE list size labels r) s:=by
 unfold GV at h;refine BH (c:=lS) (fun v=>DW list size labels v) (fun v s=>BS list size labels v s) (CE list size labels) ?_ h hM;clear h hM s v r;intro Aj s o hM h;unfold DW at h;unfold BS at hM;obtain⟨m0,m1,m2,m3,m4,m5⟩:=hM;unfold lS;rcases iS h with⟨e1,h⟩|⟨e1,h⟩
 ·obtain⟨e2,h⟩:=ES h;rcases iS h with⟨e3,h⟩|⟨e3,h⟩
  ·obtain⟨e4,h⟩:=ES h;have c5:=Nr (list.getD Aj.toNat default) e4;rcases iS h with⟨e6,h⟩|⟨e6,h⟩
   ·have c7:=TP (list.getD Aj.toNat default) (0:Int) (IntKind.i64.wrap (labels-1)) e4;rcases iS h with⟨e8,h⟩|⟨e8,h⟩
    ·rcases iS h with⟨e9,h⟩|⟨e9,h⟩
     ·obtain⟨e10,e11,h⟩:=GX h;have zi:=OE (list.getD ((IntKind.i64.wrap (Aj-1)).toNat) default) (list.getD Aj.toNat default) e11 e4;rcases iS h with⟨e13,h⟩|⟨e13,h⟩
      ·obtain rfl:=Option.some.inj h
       simp (maxDischargeDepth:=9) only [↓AL,AO,↓reduceIte,Nat.reduceEqDiff,Nat.reduceLT,Nat.reduceAdd,m0,m1,m2,m3,m4,m5,e1,e2.1,e2.2,decide_eq_true e3,c5,e6,c7,e8,e9,e10.1,e10.2,zi,e13,BS,CE,Qu]
      ·obtain rfl:=Option.some.inj h
       simp (maxDischargeDepth:=9) only [↓AL,AO,↓reduceIte,Nat.reduceEqDiff,Nat.reduceLT,Nat.reduceAdd,m0,m1,m2,m3,m4,m5,e1,e2.1,e2.2,decide_eq_true e3,c5,e6,c7,e8,e9,e10.1,e10.2,zi,e13,BS,En]
     ·obtain rfl:=Option.some.inj h
      simp (maxDischargeDepth:=9) only [↓AL,AO,↓reduceIte,Nat.reduceEqDiff,Nat.reduceLT,Nat.reduceAdd,m0,m1,m2,m3,m4,m5,e1,e2.1,e2.2,decide_eq_true e3,c5,e6,c7,e8,e9,BS,En]
    ·have e8f:(GG (list.getD Aj.toNat default) (0:Int) (IntKind.i64.wrap (labels-1)))=false:=Jw.mpr e8
     obtain rfl:=Option.some.inj h
     simp (maxDischargeDepth:=9) only [↓AL,AO,↓reduceIte,Nat.reduceEqDiff,Nat.reduceLT,Nat.reduceAdd,m1,m2,m3,m4,m5,e1,e2.1,e2.2,decide_eq_true e3,c5,e6,c7,e8f,BS,CE,Qu]
   ·have e6f:(Gt (list.getD Aj.toNat default))=false:=Jw.mpr e6
    obtain rfl:=Option.some.inj h
    simp (maxDischargeDepth:=9) only [↓AL,AO,↓reduceIte,Nat.reduceEqDiff,Nat.reduceLT,Nat.reduceAdd,m1,m3,m4,m5,e1,e2.1,e2.2,decide_eq_true e3,c5,e6f,BS,CE,Qu]
  ·obtain rfl:=Option.some.inj h
   simp (maxDischargeDepth:=9) only [↓AL,AO,↓reduceIte,Nat.reduceEqDiff,Nat.reduceLT,m1,m3,m4,m5,e1,e2.1,e2.2,e3,BS,CE,Qu]
 ·obtain rfl:=Option.some.inj h
  simp (maxDischargeDepth:=9) only [↓AL,AO,↓reduceIte,Nat.reduceLT,m4,m5,e1,BS,CE,K3]
theorem Qy(list:AY)(size:Int)(labels:Int){r:Bool}(h:Iu list size labels=some r):Y.call 65 [D.sl 26 (AQ Bw list),D.int .i64 size,D.int .i64 labels] []=some (D.bool r,[]):=by
 refine c65 ?_ rfl;unfold k65;unfold Iu at h;obtain⟨Aa,hl2,h⟩:=Ak h;try dsimp only at h
 simp (maxDischargeDepth:=9) only [↓AL,AO,↓reduceIte,Nat.reduceEqDiff,Nat.reduceLT];refine Aw (Qb list size labels hl2 ?_) ?_
 ·simp (maxDischargeDepth:=9) only [BZ,Ei,↓reduceIte,Nat.reduceEqDiff,Nat.reduceLT,BS]
 ·intro ex2 s2 hX2;rcases Aa with q1000_|q1000_
  ·unfold CE at hX2;dsimp only at hX2 h;obtain⟨rfl,n2_0⟩:=hX2
   obtain rfl:=Option.some.inj h
   simp (maxDischargeDepth:=9) only [↓AL,AO,↓reduceIte,n2_0]
  ·unfold CE at hX2;dsimp only at hX2 h
   obtain rfl:=hX2
   obtain rfl:=Option.some.inj h
   simp (maxDischargeDepth:=9) only [↓AL,AO,↓reduceIte,Nat.reduceEqDiff,Nat.reduceLT]
theorem SN(l:AY)(size labels:Int)(h:Bv l)(hl:1≤labels∧labels≤8):Iu l size labels=some (MH l size labels):=by
 have h1:=h.1;unfold Iu GV;have key:=Fe (fun v=>DW l size labels v) (fun i=>(i:Int)) l.length (Qa l size labels) (.inl ()) (.inr ()) ?_ ?_
 ·simp only [Gn]at key;rw [key];unfold MH
  cases (List.range l.length).all (Qa l size labels)<;>rfl
 ·intro i hi;simp only [DW];rw [if_pos (CL hi),BL (Ff hi),EC,K4 i (by omega),I7 (labels-1) (by omega)]
  have hs:=h.getD i;have hs1:=h.getD (i-1);rw [BL hs];unfold Qa;generalize l.getD i default=x at*;by_cases q1:(x.length:Int)=size
  ·rw [if_pos q1]
   cases q2:Gt x with
   |false=>simp
   |true=>
    rw [if_pos rfl]
    cases q3:GG x 0 (labels-1)with
    |false=>simp
    |true=>
     rw [if_pos rfl];by_cases q4:i=0
     ·simp [q1,q4]
     ·rw [if_pos (by omega),I7 _ (by omega),BL (by omega),show((i:Int)-1).toNat=i-1 by omega,BL hs1]
      generalize l.getD (i-1) default=y at*;by_cases q5:0≤Ij y x
      ·rw [if_pos q5,if_neg (by simp;intro _;exact⟨q4,q5⟩)]
      ·rw [if_neg q5,if_pos (by simp [q1,q4];omega)]
  ·have e:=decide_eq_false q1;rw [if_neg q1,if_neg (by rw [e];simp)]
 ·simp only [DW];rw [if_neg (Az _)]
theorem NF(list:AY)(size:Int)(labels:Int)(h0:Bv list)(h1:1≤labels∧labels≤8):Y.call 65 [D.sl 26 (AQ Bw list),D.int .i64 size,D.int .i64 labels] []=some (D.bool (MH list size labels),[]):=Qy list size labels (SN list size labels h0 h1)
noncomputable def GI(l:AY)(size:Int)(labels:Int)(Fw:Int)(k:Int):Option ((Int)⊕(Unit⊕Unit)):= if k<size then ck (0≤IntKind.i64.wrap (k-1)∧(IntKind.i64.wrap (k-1)).toNat<(l.getD Fw.toNat default).length)<| ck (0≤k∧k.toNat<(l.getD Fw.toNat default).length)<| if((l.getD Fw.toNat default).getD k.toNat default)<((l.getD Fw.toNat default).getD ((IntKind.i64.wrap (k-1)).toNat) default)then some (Sum.inr (Sum.inl ())) else some (Sum.inl (IntKind.i64.wrap (k+1))) else some (Sum.inr (Sum.inr ()))
noncomputable def Kt(l:AY)(size:Int)(labels:Int)(Fw:Int)(v:Int):Option (Unit⊕Unit):=Fb (fun v=>GI l size labels Fw v) v
noncomputable def IK(l:AY)(size:Int)(labels:Int)(Fw:Int):Option ((Int)⊕(Unit⊕Unit)):=
 if Fw<(l.length:Int)then
  ck (0≤Fw∧Fw.toNat<l.length)<|
  if((l.getD Fw.toNat default).length:Int)=size then
   ck ((l.getD Fw.toNat default).length<1099511627776)<|
   if(GG (l.getD Fw.toNat default) (0:Int) (IntKind.i64.wrap (labels-1)))=true then
    if 0<Fw then
     ck (0≤IntKind.i64.wrap (Fw-1)∧(IntKind.i64.wrap (Fw-1)).toNat<l.length)<|
     ck ((l.getD ((IntKind.i64.wrap (Fw-1)).toNat) default).length<1099511627776)<|
     ck ((l.getD ((IntKind.i64.wrap (Fw-1)).toNat) default).length=(l.getD Fw.toNat default).length)<|
     ck (OG (l.getD ((IntKind.i64.wrap (Fw-1)).toNat) default)=true)<|
     ck (OG (l.getD Fw.toNat default)=true)<|
     if 0≤(Ij (l.getD ((IntKind.i64.wrap (Fw-1)).toNat) default) (l.getD Fw.toNat default))then
      some (Sum.inr (Sum.inl ()))
     else
      (Kt l size labels Fw 1).bind fun Aa=>
      match Aa with
      | .inl q1000_=>
       some (Sum.inr (Sum.inl ()))
      | .inr q1000_=>
       some (Sum.inl (IntKind.i64.wrap (Fw+1)))
    else
     (Kt l size labels Fw 1).bind fun Aa=>
     match Aa with
     | .inl q1000_=>
      some (Sum.inr (Sum.inl ()))
     | .inr q1000_=>
      some (Sum.inl (IntKind.i64.wrap (Fw+1)))
   else
    some (Sum.inr (Sum.inl ()))
  else
   some (Sum.inr (Sum.inl ()))
 else
  some (Sum.inr (Sum.inr ()))
noncomputable def OY(l:AY)(size:Int)(labels:Int)(v:Int):Option (Unit⊕Unit):=Fb (fun v=>IK l size labels v) v
noncomputable def U6(l:AY)(size:Int)(labels:Int):Option (Bool):=
 (OY l size labels 0).bind fun BA=>
 match BA with
 | .inl q1001_=>
  some false
 | .inr q1001_=>
  some true
abbrev qd7:List Nat:=[47,48,49,50,51,52,53,54,55,56]
def lT:SC:= .seq (.seq (.ops [oM 42 9 3,oM 43 1 3,oB 44 .lss 3 (tK 42) (tK 43) 3 4]) (.cond (tK 44) .skip (.exit 2))) (.seq (.block 3 (.seq (.draws [(⟨[47,8,8],qd7,[47]⟩,oM 47 8 26),(⟨[48,9,9],qd7,[48]⟩,oM 48 9 3),(⟨[49,48,9],qd7,[49]⟩,oB 49 .sub 3 (tK 48) (iK 1) 3 3),(⟨[50,47,49,8,49],qd7,[50]⟩,oI 50 26 47 49),(⟨[51,50,8],qd7,[51]⟩,oL 51 3 50 3),(⟨[52,8,8],qd7,[52]⟩,oM 52 8 26),(⟨[53,9,9],qd7,[53]⟩,oM 53 9 3),(⟨[54,52,53,8,9],qd7,[54]⟩,oI 54 26 52 53),(⟨[55,54,8],qd7,[55]⟩,oL 55 3 54 3),(⟨[56,51,55,8,8],qd7,[56]⟩,oB 56 .gtr 3 (tK 51) (tK 55) 3 4)]) (.cond (tK 56) (.seq (.ops [oX 6 CY 4]) .ret) .skip))) (.ops [oM 45 9 3,oB 46 .add 3 (tK 45) (iK 1) 3 3,oA 9 46 3]))
def A20:SC:= .loop lT
def lU:SC:= .seq (.ops [oB 13 .lss 3 (tK 12) (tK 11) 3 0]) (.seq (.cond (tK 13) .skip (.exit 0)) (.seq (.block 1 (.seq (.ops [oM 14 12 3,oI 15 22 10 12,oL 16 26 15 26,oA 7 14 3,oA 8 16 26]) (.seq (.seq (.ops [oM 17 8 26,oN 18 17 26,oM 19 1 3,oB 20 .neq 3 (tK 18) (tK 19) 3 4,oM 21 20 4,⟨(some 22),(.move (tK 8)),26,(some (some 21,false))⟩,⟨(some 23),(.move (tK 2)),3,(some (some 21,false))⟩,⟨(some 24),(.binOp .sub 3 (tK 23) (iK 1) 3),3,(some (some 21,false))⟩,⟨(some 25),(.call ⟨(.value (.func 59)), #[(tK 22),(iK 0),(tK 24)], #[26,3,3]⟩),4,(some (some 21,false))⟩,⟨(some 26),(.unOp .not 4 (tK 25)),4,(some (some 21,false))⟩,oX 27 (.pick (tK 21) F7 (tK 26)) 4,oM 28 27 4,⟨(some 29),(.move (tK 7)),3,(some (some 28,false))⟩,⟨(some 30),(.binOp .gtr 3 (tK 29) (iK 0) 3),4,(some (some 28,false))⟩,⟨(some 31),(.move (tK 30)),4,(some (some 28,false))⟩,⟨(some 32),(.move (tK 0)),22,(some (some 31,true))⟩,⟨(some 33),(.move (tK 7)),3,(some (some 31,true))⟩,⟨(some 34),(.binOp .sub 3 (tK 33) (iK 1) 3),3,(some (some 31,true))⟩,⟨(some 35),(.indexAddr 22 (tK 32) (tK 34)),0,(some (some 31,true))⟩,⟨(some 36),(.load 26 (tK 35)),26,(some (some 31,true))⟩,⟨(some 37),(.move (tK 8)),26,(some (some 31,true))⟩,
 ⟨(some 38),(.call ⟨(.value (.func 121)), #[(tK 36),(tK 37)], #[26,26]⟩),3,(some (some 31,true))⟩,⟨(some 39),(.binOp .geq 3 (tK 38) (iK 0) 3),4,(some (some 31,true))⟩,⟨(some 40),(.pick (tK 31) (tK 39) MS),4,(some (some 28,false))⟩,oX 41 (.pick (tK 28) F7 (tK 40)) 4]) (.cond (tK 41) (.seq (.ops [oX 6 CY 4]) .ret) .skip)) (.seq (.ops [oX 9 (.assign (iK 1)) 3]) (.block 2 A20))))) (.ops [oB 57 .add 3 (tK 12) (iK 1) 3 3,oM 12 57 3])))
def A21:SC:= .loop lU
def k90:SC:= .seq (.ops [oX 6 CY 4]) (.seq (.seq (.ops [oM 10 0 22,oN 11 10 22,oX 12 (.move (iK 0)) 3]) (.block 0 A21)) (.seq (.ops [oX 6 (.assign F7) 4]) .ret))
theorem AAA:Tryz.f90.body.map (BX lends)=some k90:=by kernel_rfl
theorem AN9:Bj Tryz.f90 3=true:=by kernel_rfl
theorem c90{a l:List D}{r:D×List D}(h:Br Y.env k90 (fin Ap l.length [ResultVar.tmp 6] r) (entry a l))(ha:a.length=3):Y.call 90 a l=some r:=
 AZ (Y:=Y) rfl Tryz.func90 (ha▸AN9) AAA h
def F8(l:AY)(size:Int)(labels:Int)(Fw:Int)(k:Int)(s:St):Prop:=s.v 0=D.sl 26 (AQ Bw l)∧s.v 1=D.int .i64 size∧s.v 2=D.int .i64 labels∧s.v 8=D.sl 3 (AQ (D.int .i64) (l.getD Fw.toNat default))∧s.v 9=D.int .i64 k∧s.v 10=D.sl 26 (AQ Bw l)∧s.v 11=D.int .i64 (l.length:Int)∧s.v 12=D.int .i64 Fw
def F9(l:AY)(size:Int)(labels:Int)(Fw:Int)(r:Unit⊕Unit)(ex:Ex)(s:St):Prop:=match r with
 | .inl q=>ex= .ret∧s.v 6=D.bool false
 | .inr q=>ex= .exit 2∧s.v 0=D.sl 26 (AQ Bw l)∧s.v 1=D.int .i64 size∧s.v 2=D.int .i64 labels∧s.v 10=D.sl 26 (AQ Bw l)∧s.v 11=D.int .i64 (l.length:Int)∧s.v 12=D.int .i64 Fw
theorem SF(l:AY)(size:Int)(labels:Int)(Fw:Int){v:Int}{s:St}{r:Unit⊕Unit}(h:Kt l size labels Fw v=some r)(hM:F8 l size labels Fw v s):Br Y.env A20 (F9 l size labels Fw r) s:=by
 unfold Kt at h;refine BH (c:=lT) (fun v=>GI l size labels Fw v) (fun v s=>F8 l size labels Fw v s) (F9 l size labels Fw) ?_ h hM;clear h hM s v r;intro k s o hM h;unfold GI at h;unfold F8 at hM;obtain⟨m0,m1,m2,m3,m4,m5,m6,m7⟩:=hM;unfold lT;rcases iS h with⟨e15,h⟩|⟨e15,h⟩
 ·obtain⟨e16,e17,h⟩:=GX h;rcases iS h with⟨e18,h⟩|⟨e18,h⟩
  ·obtain rfl:=Option.some.inj h
   simp (maxDischargeDepth:=9) only [↓AL,AO,↓reduceIte,Nat.reduceEqDiff,Nat.reduceLT,m1,m3,m4,e15,e16.1,e16.2,e17.1,e17.2,e18,F8,F9,Qu]
  ·obtain rfl:=Option.some.inj h
   simp (maxDischargeDepth:=9) only [↓AL,AO,↓reduceIte,Nat.reduceEqDiff,Nat.reduceLT,m0,m1,m2,m3,m4,m5,m6,m7,e15,e16.1,e16.2,e17.1,e17.2,e18,F8,En]
 ·obtain rfl:=Option.some.inj h
  simp (maxDischargeDepth:=9) only [↓AL,AO,↓reduceIte,Nat.reduceEqDiff,Nat.reduceLT,m0,m1,m2,m4,m5,m6,m7,e15,F8,F9,K3]
def DJ(l:AY)(size:Int)(labels:Int)(Fw:Int)(s:St):Prop:=s.v 0=D.sl 26 (AQ Bw l)∧s.v 1=D.int .i64 size∧s.v 2=D.int .i64 labels∧s.v 10=D.sl 26 (AQ Bw l)∧s.v 11=D.int .i64 (l.length:Int)∧s.v 12=D.int .i64 Fw
def Dw(l:AY)(size:Int)(labels:Int)(r:Unit⊕Unit)(ex:Ex)(s:St):Prop:=match r with
 | .inl q=>ex= .ret∧s.v 6=D.bool false
 | .inr q=>ex= .exit 0
theorem YV(l:AY)(size:Int)(labels:Int){v:Int}{s:St}{r:Unit⊕Unit}(h:OY l size labels v=some r)(hM:DJ l size labels v s):Br Y.env A21 (Dw l size labels r) s:=by
 unfold OY at h;refine BH (c:=lU) (fun v=>IK l size labels v) (fun v s=>DJ l size labels v s) (Dw l size labels) ?_ h hM;clear h hM s v r;intro Fw s o hM h;unfold IK at h;unfold DJ at hM;obtain⟨m0,m1,m2,m3,m4,m5⟩:=hM;unfold lU;rcases iS h with⟨e1,h⟩|⟨e1,h⟩
 ·obtain⟨e2,h⟩:=ES h;rcases iS h with⟨e3,h⟩|⟨e3,h⟩
  ·obtain⟨e4,h⟩:=ES h;have c5:=aZ (l.getD Fw.toNat default) (0:Int) (IntKind.i64.wrap (labels-1)) e4;rcases iS h with⟨e6,h⟩|⟨e6,h⟩
   ·rcases iS h with⟨e7,h⟩|⟨e7,h⟩
    ·obtain⟨e8,e9,e10,e11,h⟩:=A1S h;obtain⟨e12,h⟩:=ES h;have c13:=lQ (l.getD ((IntKind.i64.wrap (Fw-1)).toNat) default) (l.getD Fw.toNat default) e9 e10 e11 e12;rcases iS h with⟨e14,h⟩|⟨e14,h⟩
     ·obtain rfl:=Option.some.inj h
      simp (maxDischargeDepth:=9) only [↓AL,AO,↓reduceIte,Nat.reduceEqDiff,Nat.reduceLT,Nat.reduceAdd,m0,m1,m2,m3,m4,m5,e1,e2.1,e2.2,decide_eq_true e3,c5,e6,e7,e8.1,e8.2,c13,e14,DJ,Dw,Qu]
     ·obtain⟨Aa,hl16,h⟩:=Ak h;try dsimp only at h
      simp (maxDischargeDepth:=9) only [↓AL,AO,↓reduceIte,Nat.reduceEqDiff,Nat.reduceLT,Nat.reduceAdd,m0,m1,m2,m3,m4,m5,e1,e2.1,e2.2,decide_eq_true e3,c5,e6,e7,e8.1,e8.2,c13,e14];refine Aw (SF l size labels Fw hl16 ?_) ?_
      ·simp (maxDischargeDepth:=9) only [BZ,↓reduceIte,Nat.reduceEqDiff,m0,m1,m2,m3,m4,m5,F8]
      ·intro ex16 s16 hX16;rcases Aa with q1000_|q1000_
       ·unfold F9 at hX16;dsimp only at hX16 h;obtain⟨rfl,n16_0⟩:=hX16
        obtain rfl:=Option.some.inj h
        simp (maxDischargeDepth:=9) only [↓AL,AO,n16_0,DJ,Dw,Qu]
       ·unfold F9 at hX16;dsimp only at hX16 h;obtain⟨rfl,n16_0,n16_1,n16_2,n16_3,n16_4,n16_5⟩:=hX16
        obtain rfl:=Option.some.inj h
        simp (maxDischargeDepth:=9) only [↓AL,AO,↓reduceIte,Nat.reduceEqDiff,Nat.reduceLT,n16_0,n16_1,n16_2,n16_3,n16_4,n16_5,DJ,En]
    ·obtain⟨Aa,hl9,h⟩:=Ak h;try dsimp only at h
     simp (maxDischargeDepth:=9) only [↓AL,AO,↓reduceIte,Nat.reduceEqDiff,Nat.reduceLT,Nat.reduceAdd,m1,m2,m3,m4,m5,e1,e2.1,e2.2,decide_eq_true e3,c5,e6,e7];refine Aw (SF l size labels Fw hl9 ?_) ?_
     ·simp (maxDischargeDepth:=9) only [BZ,↓reduceIte,Nat.reduceEqDiff,m0,m1,m2,m3,m4,m5,F8]
     ·intro ex9 s9 hX9;rcases Aa with q1000_|q1000_
      ·unfold F9 at hX9;dsimp only at hX9 h;obtain⟨rfl,n9_0⟩:=hX9
       obtain rfl:=Option.some.inj h
       simp (maxDischargeDepth:=9) only [↓AL,AO,n9_0,DJ,Dw,Qu]
      ·unfold F9 at hX9;dsimp only at hX9 h;obtain⟨rfl,n9_0,n9_1,n9_2,n9_3,n9_4,n9_5⟩:=hX9
       obtain rfl:=Option.some.inj h
       simp (maxDischargeDepth:=9) only [↓AL,AO,↓reduceIte,Nat.reduceEqDiff,Nat.reduceLT,n9_0,n9_1,n9_2,n9_3,n9_4,n9_5,DJ,En]
   ·have e6f:(GG (l.getD Fw.toNat default) (0:Int) (IntKind.i64.wrap (labels-1)))=false:=Jw.mpr e6
    obtain rfl:=Option.some.inj h
    simp (maxDischargeDepth:=9) only [↓AL,AO,↓reduceIte,Nat.reduceEqDiff,Nat.reduceLT,Nat.reduceAdd,m1,m2,m3,m4,m5,e1,e2.1,e2.2,decide_eq_true e3,c5,e6f,DJ,Dw,Qu]
  ·obtain rfl:=Option.some.inj h
   simp (maxDischargeDepth:=9) only [↓AL,AO,↓reduceIte,Nat.reduceEqDiff,Nat.reduceLT,m1,m3,m4,m5,e1,e2.1,e2.2,e3,DJ,Dw,Qu]
 ·obtain rfl:=Option.some.inj h
  simp (maxDischargeDepth:=9) only [↓AL,AO,↓reduceIte,Nat.reduceLT,m4,m5,e1,DJ,Dw,K3]
theorem ak(l:AY)(size:Int)(labels:Int){r:Bool}(h:U6 l size labels=some r):Y.call 90 [D.sl 26 (AQ Bw l),D.int .i64 size,D.int .i64 labels] []=some (D.bool r,[]):=by
 refine c90 ?_ rfl;unfold k90;unfold U6 at h;obtain⟨BA,hl2,h⟩:=Ak h;try dsimp only at h
 simp (maxDischargeDepth:=9) only [↓AL,AO,↓reduceIte,Nat.reduceEqDiff,Nat.reduceLT];refine Aw (YV l size labels hl2 ?_) ?_
 ·simp (maxDischargeDepth:=9) only [BZ,Ei,↓reduceIte,Nat.reduceEqDiff,Nat.reduceLT,DJ]
 ·intro ex2 s2 hX2;rcases BA with q1001_|q1001_
  ·unfold Dw at hX2;dsimp only at hX2 h;obtain⟨rfl,n2_0⟩:=hX2
   obtain rfl:=Option.some.inj h
   simp (maxDischargeDepth:=9) only [↓AL,AO,↓reduceIte,n2_0]
  ·unfold Dw at hX2;dsimp only at hX2 h
   obtain rfl:=hX2
   obtain rfl:=Option.some.inj h
   simp (maxDischargeDepth:=9) only [↓AL,AO,↓reduceIte,Nat.reduceEqDiff,Nat.reduceLT]
theorem gM(l:AY)(size labels t:Int)(x:AB)(hx:l.getD t.toNat default=x)(hs:(x.length:Int)=size)(hb:x.length<1099511627776):
  Kt l size labels t 1=some (if Gt x=true then .inr ()else .inl ()):=by
 unfold Kt;rcases Nat.eq_zero_or_pos x.length with h0|h0
 ·rw [Hy (r:=Sum.inr ())]
  ·simp [Gt,h0]
  ·simp only [GI];rw [if_neg (by omega)]
 ·have key:=Fe (fun v=>GI l size labels t v) (fun j=>(j:Int)+1) (x.length-1) (fun i=>decide (x.getD i default≤x.getD (i+1) default)) (.inl ()) (.inr ()) ?_ ?_
  ·simp only [Gn,Int.zero_add]at key;rw [key];rfl
  ·intro i hi;simp only [GI];rw [hx,if_pos (by omega),I7 _ (by omega),I7 _ (by omega),BL (by omega),BL (by omega),show((i:Int)+1).toNat=i+1 by omega,show((i:Int)+1-1).toNat=i by omega]
   simp only [decide_eq_true_eq];by_cases hq:x.getD (i+1) default<x.getD i default
   ·rw [if_pos hq,if_neg (by omega)]
   ·rw [if_neg hq,if_pos (by omega)];rfl
  ·simp only [GI];rw [if_neg (by omega)]
theorem lV(l:AY)(size labels:Int)(h:Bv l)(hl:1≤labels∧labels≤8):U6 l size labels=some (MH l size labels):=by
 have h1:=h.1;unfold U6 OY;have key:=qj (fun v=>IK l size labels v) (fun i=>(i:Int)) l.length (Qa l size labels) (.inl ()) (.inr ()) ?_ ?_
 ·simp only [Gn]at key;rw [key];unfold MH
  cases (List.range l.length).all (Qa l size labels)<;>rfl
 ·intro i hi hp;simp only [IK];rw [if_pos (CL hi),BL (Ff hi),K4 i (by omega),I7 (labels-1) (by omega)]
  have hs:=h.getD i;have hs1:=h.getD (i-1);rw [EC,BL hs];by_cases q1:((l.getD i default).length:Int)=size
  ·rw [if_pos q1];have inner:=gM l size labels (i:Int) (l.getD i default) (by rw [EC]) q1 hs
   rw [inner];have hprev:=hp (i-1);unfold Qa at hprev ⊢;generalize l.getD i default=x at*
   cases q3:GG x 0 (labels-1)with
   |false=>simp
   |true=>
    rw [if_pos rfl];by_cases q4:i=0
    ·rw [if_neg (by omega)]
     cases q2:Gt x<;>simp [q1,q4]
    ·rw [if_pos (by omega),I7 _ (by omega),BL (by omega),show((i:Int)-1).toNat=i-1 by omega,BL hs1]
     have hprev:=hprev (by omega)
     generalize l.getD (i-1) default=y at*;simp only [Gb,decide_eq_true_eq]at hprev;rw [BL (by omega),BL (jO hprev.1.2 (by omega) (by omega)),BL (jO q3 (by omega) (by omega))]
     by_cases q5:0≤Ij y x
     ·rw [if_pos q5,if_neg (by simp;intro _ _;exact⟨q4,q5⟩)]
     ·rw [if_neg q5];have q6:Ij y x<0:=by omega
      cases q2:Gt x<;>simp [q1,q6]
  ·have e:=decide_eq_false q1;unfold Qa;rw [if_neg q1,if_neg (by rw [e];simp)]
 ·intro _;simp only [IK];rw [if_neg (Az _)]
theorem Vx(l:AY)(size:Int)(labels:Int)(h0:Bv l)(h1:1≤labels∧labels≤8):Y.call 90 [D.sl 26 (AQ Bw l),D.int .i64 size,D.int .i64 labels] []=some (D.bool (MH l size labels),[]):=ak l size labels (lV l size labels h0 h1)
noncomputable def QI(AP:Int)(AU:Int)(AV:AY)(AX:AY):Option (Bool):= if(La AP (1:Int) (8:Int))=true then if(La AU (1:Int) (4:Int))=true then ck (Bv AV)<| ck (1≤AP∧AP≤8)<| if(MH AV AU AP)=true then ck (Bv AX)<| some (MH AX (2:Int) AP) else some false else some false else some false
def k39:SC:= .seq (.ops [oX 1 (.box 34 (tK 0)) 0,oX 2 CY 4]) (.seq (.ops [oF 3 34 1 0,oL 4 3 3 3,oC 5 64 [(tK 4),(iK 1),(iK 8)] [3,3,3] 4,oM 6 5 4,⟨(some 7),(.fieldAddr 34 (tK 1) 1),0,(some (some 6,true))⟩,⟨(some 8),(.load 3 (tK 7)),3,(some (some 6,true))⟩,⟨(some 9),(.call ⟨(.value (.func 64)), #[(tK 8),(iK 1),(iK 4)], #[3,3,3]⟩),4,(some (some 6,true))⟩,oX 10 (.pick (tK 6) (tK 9) MS) 4,oM 11 10 4,⟨(some 12),(.fieldAddr 34 (tK 1) 2),0,(some (some 11,true))⟩,⟨(some 13),(.load 22 (tK 12)),22,(some (some 11,true))⟩,⟨(some 14),(.fieldAddr 34 (tK 1) 1),0,(some (some 11,true))⟩,⟨(some 15),(.load 3 (tK 14)),3,(some (some 11,true))⟩,⟨(some 16),(.fieldAddr 34 (tK 1) 0),0,(some (some 11,true))⟩,⟨(some 17),(.load 3 (tK 16)),3,(some (some 11,true))⟩,⟨(some 18),(.call ⟨(.value (.func 65)), #[(tK 13),(tK 15),(tK 17)], #[22,3,3]⟩),4,(some (some 11,true))⟩,oX 19 (.pick (tK 11) (tK 18) MS) 4,oM 20 19 4,⟨(some 21),(.fieldAddr 34 (tK 1) 3),0,(some (some 20,true))⟩,⟨(some 22),(.load 22 (tK 21)),22,(some (some 20,true))⟩,⟨(some 23),(.fieldAddr 34 (tK 1) 0),0,(some (some 20,true))⟩,⟨(some 24),(.load 3 (tK 23)),3,(some (some 20,true))⟩,⟨(some 25),(.call ⟨(.value (.func 65)), #[(tK 22),(iK 2),(tK 24)], #[22,3,3]⟩),4,(some (some 20,true))⟩,
 oX 26 (.pick (tK 20) (tK 25) MS) 4,oA 2 26 4]) .ret)
theorem AAB:Tryz.f39.body.map (BX lends)=some k39:=by kernel_rfl
theorem ANB:Bj Tryz.f39 1=true:=by kernel_rfl
theorem c39{a l:List D}{r:D×List D}(h:Br Y.env k39 (fin Ap l.length [ResultVar.tmp 2] r) (entry a l))(ha:a.length=1):Y.call 39 a l=some r:=
 AZ (Y:=Y) rfl Tryz.func39 (ha▸ANB) AAB h
theorem XC(AP:Int)(AU:Int)(AV:AY)(AX:AY){r:Bool}(h:QI AP AU AV AX=some r):Y.call 39 [D.agg [D.int .i64 AP,D.int .i64 AU,D.sl 26 (AQ Bw AV),D.sl 26 (AQ Bw AX)]] []=some (D.bool r,[]):=by
 refine c39 ?_ rfl;unfold k39;unfold QI at h;have c1:=KY AP (1:Int) (8:Int);rcases iS h with⟨e2,h⟩|⟨e2,h⟩
 ·have c3:=KY AU (1:Int) (4:Int);rcases iS h with⟨e4,h⟩|⟨e4,h⟩
  ·obtain⟨e5,e6,h⟩:=GX h;have c7:=NF AV AU AP e5 e6;rcases iS h with⟨e8,h⟩|⟨e8,h⟩
   ·obtain⟨e9,h⟩:=ES h;have jP:=NF AX (2:Int) AP e9 e6
    obtain rfl:=Option.some.inj h
    simp (maxDischargeDepth:=9) only [↓AL,AO,↓reduceIte,Nat.reduceEqDiff,Nat.reduceLT,Nat.reduceAdd,c1,e2,c3,e4,c7,e8,jP]
   ·have e8f:(MH AV AU AP)=false:=Jw.mpr e8
    obtain rfl:=Option.some.inj h
    simp (maxDischargeDepth:=9) only [↓AL,AO,↓reduceIte,Nat.reduceEqDiff,Nat.reduceLT,Nat.reduceAdd,c1,e2,c3,e4,c7,e8f]
  ·have e4f:(La AU (1:Int) (4:Int))=false:=Jw.mpr e4
   obtain rfl:=Option.some.inj h
   simp (maxDischargeDepth:=9) only [↓AL,AO,↓reduceIte,Nat.reduceEqDiff,Nat.reduceLT,Nat.reduceAdd,c1,e2,c3,e4f]
 ·have e2f:(La AP (1:Int) (8:Int))=false:=Jw.mpr e2
  obtain rfl:=Option.some.inj h
  simp (maxDischargeDepth:=9) only [↓AL,AO,↓reduceIte,Nat.reduceEqDiff,Nat.reduceLT,Nat.reduceAdd,c1,e2f]
noncomputable def Vy(AP:Int)(AU:Int)(AV:AY)(AX:AY):Option (Bool):= if(La AP (1:Int) (8:Int))=true then if(La AU (1:Int) (4:Int))=true then ck (Bv AV)<| ck (1≤AP∧AP≤8)<| if(MH AV AU AP)=true then ck (Bv AX)<| some (MH AX (2:Int) AP) else some false else some false else some false
def k57:SC:= .seq (.ops [oX 1 (.box 34 (tK 0)) 0,oX 2 CY 4]) (.seq (.ops [oF 3 34 1 0,oL 4 3 3 3,oC 5 82 [(tK 4),(iK 1),(iK 8)] [3,3,3] 4,oM 6 5 4,⟨(some 7),(.fieldAddr 34 (tK 1) 1),0,(some (some 6,true))⟩,⟨(some 8),(.load 3 (tK 7)),3,(some (some 6,true))⟩,⟨(some 9),(.call ⟨(.value (.func 82)), #[(tK 8),(iK 1),(iK 4)], #[3,3,3]⟩),4,(some (some 6,true))⟩,oX 10 (.pick (tK 6) (tK 9) MS) 4,oM 11 10 4,⟨(some 12),(.fieldAddr 34 (tK 1) 2),0,(some (some 11,true))⟩,⟨(some 13),(.load 22 (tK 12)),22,(some (some 11,true))⟩,⟨(some 14),(.fieldAddr 34 (tK 1) 1),0,(some (some 11,true))⟩,⟨(some 15),(.load 3 (tK 14)),3,(some (some 11,true))⟩,⟨(some 16),(.fieldAddr 34 (tK 1) 0),0,(some (some 11,true))⟩,⟨(some 17),(.load 3 (tK 16)),3,(some (some 11,true))⟩,⟨(some 18),(.call ⟨(.value (.func 90)), #[(tK 13),(tK 15),(tK 17)], #[22,3,3]⟩),4,(some (some 11,true))⟩,oX 19 (.pick (tK 11) (tK 18) MS) 4,oM 20 19 4,⟨(some 21),(.fieldAddr 34 (tK 1) 3),0,(some (some 20,true))⟩,⟨(some 22),(.load 22 (tK 21)),22,(some (some 20,true))⟩,⟨(some 23),(.fieldAddr 34 (tK 1) 0),0,(some (some 20,true))⟩,⟨(some 24),(.load 3 (tK 23)),3,(some (some 20,true))⟩,⟨(some 25),(.call ⟨(.value (.func 90)), #[(tK 22),(iK 2),(tK 24)], #[22,3,3]⟩),4,(some (some 20,true))⟩,
 oX 26 (.pick (tK 20) (tK 25) MS) 4,oA 2 26 4]) .ret)
theorem AAC:Tryz.f57.body.map (BX lends)=some k57:=by kernel_rfl
theorem ANE:Bj Tryz.f57 1=true:=by kernel_rfl
theorem c57{a l:List D}{r:D×List D}(h:Br Y.env k57 (fin Ap l.length [ResultVar.tmp 2] r) (entry a l))(ha:a.length=1):Y.call 57 a l=some r:=
 AZ (Y:=Y) rfl Tryz.func57 (ha▸ANE) AAC h
theorem gN(AP:Int)(AU:Int)(AV:AY)(AX:AY){r:Bool}(h:Vy AP AU AV AX=some r):Y.call 57 [D.agg [D.int .i64 AP,D.int .i64 AU,D.sl 26 (AQ Bw AV),D.sl 26 (AQ Bw AX)]] []=some (D.bool r,[]):=by
 refine c57 ?_ rfl;unfold k57;unfold Vy at h;have c1:=MG AP (1:Int) (8:Int);rcases iS h with⟨e2,h⟩|⟨e2,h⟩
 ·have c3:=MG AU (1:Int) (4:Int);rcases iS h with⟨e4,h⟩|⟨e4,h⟩
  ·obtain⟨e5,e6,h⟩:=GX h;have c7:=Vx AV AU AP e5 e6;rcases iS h with⟨e8,h⟩|⟨e8,h⟩
   ·obtain⟨e9,h⟩:=ES h;have jP:=Vx AX (2:Int) AP e9 e6
    obtain rfl:=Option.some.inj h
    simp (maxDischargeDepth:=9) only [↓AL,AO,↓reduceIte,Nat.reduceEqDiff,Nat.reduceLT,Nat.reduceAdd,c1,e2,c3,e4,c7,e8,jP]
   ·have e8f:(MH AV AU AP)=false:=Jw.mpr e8
    obtain rfl:=Option.some.inj h
    simp (maxDischargeDepth:=9) only [↓AL,AO,↓reduceIte,Nat.reduceEqDiff,Nat.reduceLT,Nat.reduceAdd,c1,e2,c3,e4,c7,e8f]
  ·have e4f:(La AU (1:Int) (4:Int))=false:=Jw.mpr e4
   obtain rfl:=Option.some.inj h
   simp (maxDischargeDepth:=9) only [↓AL,AO,↓reduceIte,Nat.reduceEqDiff,Nat.reduceLT,Nat.reduceAdd,c1,e2,c3,e4f]
 ·have e2f:(La AP (1:Int) (8:Int))=false:=Jw.mpr e2
  obtain rfl:=Option.some.inj h
  simp (maxDischargeDepth:=9) only [↓AL,AO,↓reduceIte,Nat.reduceEqDiff,Nat.reduceLT,Nat.reduceAdd,c1,e2f]
theorem au(a b:Int)(n e:AY)(hn:Bv n)(he:Bv e):QI a b n e=some (MC a b n e):=by
 unfold QI MC;by_cases h1:La a 1 8=true
 ·have h1':=Fg.1 h1;by_cases h2:La b 1 4=true
  ·rw [if_pos h1,if_pos h2,BL hn,BL h1',BL he]
   cases h3:MH n b a<;>simp [h1,h2]
  ·rw [if_pos h1,if_neg h2];simp [h2]
 ·rw [if_neg h1];simp [h1]
theorem rE(a b:Int)(n e:AY)(hn:Bv n)(he:Bv e):Vy a b n e=some (MC a b n e):=by
 unfold Vy MC;by_cases h1:La a 1 8=true
 ·have h1':=Fg.1 h1;by_cases h2:La b 1 4=true
  ·rw [if_pos h1,if_pos h2,BL hn,BL h1',BL he]
   cases h3:MH n b a<;>simp [h1,h2]
  ·rw [if_pos h1,if_neg h2];simp [h2]
 ·rw [if_neg h1];simp [h1]
theorem av(AP:Int)(AU:Int)(AV:AY)(AX:AY)(h0:Bv AV)(h1:Bv AX):Y.call 39 [D.agg [D.int .i64 AP,D.int .i64 AU,D.sl 26 (AQ Bw AV),D.sl 26 (AQ Bw AX)]] []=some (D.bool (MC AP AU AV AX),[]):=XC AP AU AV AX (au AP AU AV AX h0 h1)
theorem rF(AP:Int)(AU:Int)(AV:AY)(AX:AY)(h0:Bv AV)(h1:Bv AX):Y.call 57 [D.agg [D.int .i64 AP,D.int .i64 AU,D.sl 26 (AQ Bw AV),D.sl 26 (AQ Bw AX)]] []=some (D.bool (MC AP AU AV AX),[]):=gN AP AU AV AX (rE AP AU AV AX h0 h1)
end Go.Proofs.YtiehjihckndgkaaGreat
