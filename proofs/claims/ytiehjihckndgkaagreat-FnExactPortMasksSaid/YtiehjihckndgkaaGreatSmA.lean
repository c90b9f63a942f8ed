/- Sets of labels of ports: lifted. Conditions: none. -/
import Derived.Test.YtiehjihckndgkaaGreatL6
import Derived.Test.YtiehjihckndgkaaGreatIsP
import Derived.Test.YtiehjihckndgkaaGreatNet
import Derived.Test.YtiehjihckndgkaaGreatNis
import Derived.Test.YtiehjihckndgkaaGreatCon
import Derived.Test.YtiehjihckndgkaaGreatSrt
import Derived.Test.YtiehjihckndgkaaGreatHas
import Derived.Test.YtiehjihckndgkaaGreatCut
import Derived.Test.YtiehjihckndgkaaGreatEdg
import Derived.Test.YtiehjihckndgkaaGreatFst
import Derived.Test.YtiehjihckndgkaaGreatRep
namespace Go.Proofs.YtiehjihckndgkaaGreat
open Go Dv
set_option linter.unusedSimpArgs false
set_option linter.unusedVariables false
set_option maxRecDepth 100000
set_option maxHeartbeats 4000000
noncomputable def HZ(Ak:List (List (Int×Int)))(BV:List Int)(Ad:List Int)(l:List (List Int))(D5:Int):Option ((Int)⊕(Unit⊕Unit)):= if D5<(l.length:Int)then ck (0≤D5∧D5.toNat<l.length)<| ck (0≤D5∧D5.toNat<Ak.length)<| if((l.getD D5.toNat default).length:Int)=((Ak.getD D5.toNat default).length:Int)then some (Sum.inl (IntKind.i64.wrap (D5+1))) else some (Sum.inr (Sum.inl ())) else some (Sum.inr (Sum.inr ()))
noncomputable def Ku(Ak:List (List (Int×Int)))(BV:List Int)(Ad:List Int)(l:List (List Int))(v:Int):Option (Unit⊕Unit):=I4 (fun v=>HZ Ak BV Ad l v) v
noncomputable def Qs(Ak:List (List (Int×Int)))(BV:List Int)(Ad:List Int)(l:List (List Int)):Option (Bool):=
 if(l.length:Int)=(Ak.length:Int)then
  (Ku Ak BV Ad l 0).bind fun AY=>
  match AY with
  | .inl q1000_=>
   some false
  | .inr q1000_=>
   some true
 else
  some false
def eB:SC:= .seq (.ops [oB 16 .lss 3 (tK 15) (tK 14) 3 0]) (.seq (.cond (tK 16) .skip (.exit 0)) (.seq (.block 1 (.seq (.ops [oM 17 15 3,oI 18 22 13 15,oL 19 26 18 26,oA 5 17 3,oA 6 19 26]) (.seq (.ops [oM 20 6 26,oN 21 20 26,oF 22 38 2 0,oL 23 36 22 36,oM 24 5 3,oI 25 36 23 24,oL 26 79 25 79,oN 27 26 79,oB 28 .neq 3 (tK 21) (tK 27) 3 4]) (.cond (tK 28) (.seq (.ops [oX 4 (.assign (.const (.bool false))) 4]) .ret) .skip)))) (.ops [oB 29 .add 3 (tK 15) (iK 1) 3 3,oM 15 29 3])))
def wU:SC:= .loop eB
def k68:SC:= .seq (.ops [oX 2 (.box 38 (tK 0)) 0,oX 4 (.assign (.const (.bool false))) 4]) (.seq (.seq (.ops [oM 7 1 22,oN 8 7 22,oF 9 38 2 0,oL 10 36 9 36,oN 11 10 36,oB 12 .neq 3 (tK 8) (tK 11) 3 4]) (.cond (tK 12) (.seq (.ops [oX 4 (.assign (.const (.bool false))) 4]) .ret) .skip)) (.seq (.seq (.ops [oM 13 1 22,oN 14 13 22,oX 15 (.move (iK 0)) 3]) (.block 0 wU)) (.seq (.ops [oX 4 (.assign (.const (.bool true))) 4]) .ret)))
theorem A5X:Tryz.f68.body.map (Bf lends)=some k68:=by kernel_rfl
theorem AIG:Bz Tryz.f68 2=true:=by kernel_rfl
theorem c68{a l:List D}{r:D×List D}(h:CF Y.env k68 (ES Ae l.length [ResultVar.tmp 4] r) (entry a l))(ha:a.length=2):Y.call 68 a l=some r:=
 Ab (Y:=Y) rfl Tryz.func68 (ha▸AIG) A5X h
def FT(Ak:List (List (Int×Int)))(BV:List Int)(Ad:List Int)(l:List (List Int))(D5:Int)(s:St):Prop:=s.v 2=D.box [D.sl 79 (AL (fun x=>D.sl 87 (Ay .i64 .i64 x)) Ak),D.sl 3 (AL (D.int .i64) BV),D.sl 3 (AL (D.int .i64) Ad)]∧s.v 13=D.sl 26 (AL (fun x=>D.sl 3 (AL (D.int .i64) x)) l)∧s.v 14=D.int .i64 (l.length:Int)∧s.v 15=D.int .i64 D5
def Ha(Ak:List (List (Int×Int)))(BV:List Int)(Ad:List Int)(l:List (List Int))(r:Unit⊕Unit)(ex:Ex)(s:St):Prop:=match r with
 | .inl q=>ex= .ret∧s.v 4=D.bool false
 | .inr q=>ex= .exit 0
theorem Vi(Ak:List (List (Int×Int)))(BV:List Int)(Ad:List Int)(l:List (List Int)){v:Int}{s:St}{r:Unit⊕Unit}(h:Ku Ak BV Ad l v=some r)(hM:FT Ak BV Ad l v s):CF Y.env wU (Ha Ak BV Ad l r) s:=by
 unfold Ku at h;refine BN (c:=eB) (fun v=>HZ Ak BV Ad l v) (fun v s=>FT Ak BV Ad l v s) (Ha Ak BV Ad l) ?_ h hM;clear h hM s v r;intro D5 s o hM h;unfold HZ at h;unfold FT at hM;obtain⟨m0,m1,m2,m3⟩:=hM;unfold eB;rcases iS h with⟨e2,h⟩|⟨e2,h⟩
 ·obtain⟨e3,e4,h⟩:=Ei h;rcases iS h with⟨e5,h⟩|⟨e5,h⟩
  ·obtain rfl:=Option.some.inj h
   simp (maxDischargeDepth:=9) only [↓AP,AQ,↓reduceIte,Nat.reduceEqDiff,Nat.reduceLT,m0,m1,m2,m3,e2,e3.1,e3.2,e4.2,decide_eq_true e5,FT,GZ]
  ·obtain rfl:=Option.some.inj h
   simp (maxDischargeDepth:=9) only [↓AP,AQ,↓reduceIte,Nat.reduceEqDiff,Nat.reduceLT,m0,m1,m2,m3,e2,e3.1,e3.2,e4.2,e5,FT,Ha,MP]
 ·obtain rfl:=Option.some.inj h
  simp (maxDischargeDepth:=9) only [↓AP,AQ,↓reduceIte,Nat.reduceLT,m2,m3,e2,FT,Ha,KW]
theorem YJ(Ak:List (List (Int×Int)))(BV:List Int)(Ad:List Int)(l:List (List Int)){r:Bool}(h:Qs Ak BV Ad l=some r):Y.call 68 [D.agg [D.sl 79 (AL (fun x=>D.sl 87 (Ay .i64 .i64 x)) Ak),D.sl 3 (AL (D.int .i64) BV),D.sl 3 (AL (D.int .i64) Ad)],D.sl 26 (AL (fun x=>D.sl 3 (AL (D.int .i64) x)) l)] []=some (D.bool r,[]):=by
 refine c68 ?_ rfl;unfold k68;unfold Qs at h;rcases iS h with⟨e1,h⟩|⟨e1,h⟩
 ·obtain⟨AY,hl3,h⟩:=Ag h;try dsimp only at h
  simp (maxDischargeDepth:=9) only [↓AP,AQ,↓reduceIte,Nat.reduceEqDiff,Nat.reduceLT,Nat.reduceAdd,decide_eq_true e1];refine Av (Vi Ak BV Ad l hl3 ?_) ?_
  ·simp (maxDischargeDepth:=9) only [C9,↓reduceIte,Nat.reduceEqDiff,FT]
  ·intro ex3 s3 hX3;rcases AY with q1000_|q1000_
   ·unfold Ha at hX3;dsimp only at hX3 h;obtain⟨rfl,n3_0⟩:=hX3
    obtain rfl:=Option.some.inj h
    simp (maxDischargeDepth:=9) only [↓AP,AQ,↓reduceIte,n3_0]
   ·unfold Ha at hX3;dsimp only at hX3 h
    obtain rfl:=hX3
    obtain rfl:=Option.some.inj h
    simp (maxDischargeDepth:=9) only [↓AP,AQ,↓reduceIte,Nat.reduceEqDiff,Nat.reduceLT]
 ·obtain rfl:=Option.some.inj h
  simp (maxDischargeDepth:=9) only [↓AP,AQ,↓reduceIte,Nat.reduceEqDiff,Nat.reduceLT,Nat.reduceAdd,e1]
noncomputable def Bd(s_:List (List Int))(f:(List Int)→Option Bool)(NZ:Int):Option ((Int)⊕(Int⊕Unit)):= if NZ<(s_.length:Int)then ck (0≤NZ∧NZ.toNat<s_.length)<| (f (s_.getD NZ.toNat default)).bind fun Xd=> if Xd=true then some (Sum.inr (Sum.inl NZ)) else some (Sum.inl (IntKind.i64.wrap (NZ+1))) else some (Sum.inr (Sum.inr ()))
noncomputable def Cs(s_:List (List Int))(f:(List Int)→Option Bool)(v:Int):Option (Int⊕Unit):=I4 (fun v=>Bd s_ f v) v
noncomputable def D9(s_:List (List Int))(f:(List Int)→Option Bool):Option (Int):=
 (Cs s_ f 0).bind fun AY=>
 match AY with
 | .inl q1000_=>
  some q1000_
 | .inr q1000_=>
  some (-1)
def YK:SC:= .seq (.ops [oB 9 .lss 3 (tK 8) (tK 7) 3 0]) (.seq (.cond (tK 9) .skip (.exit 0)) (.seq (.block 1 (.seq (.ops [oM 10 8 3,oA 5 10 3]) (.seq (.ops [oM 11 1 90,oM 12 0 22,oM 13 5 3,oI 14 22 12 13,oL 15 26 14 26,oX 16 (.call ⟨(.value (tK 11)), #[(tK 15)], #[26]⟩) 4]) (.cond (tK 16) (.seq (.ops [oM 17 5 3,oA 4 17 3]) .ret) .skip)))) (.ops [oB 18 .add 3 (tK 8) (iK 1) 3 3,oM 8 18 3])))
def oP:SC:= .loop YK
def A5Y:SC:= .seq (.ops [oX 4 (.assign (iK 0)) 3]) (.seq (.seq (.ops [oM 6 0 22,oN 7 6 22,oX 8 (.move (iK 0)) 3]) (.block 0 oP)) (.seq (.ops [oX 4 (.assign (.const (.int .i64 (-1)))) 3]) .ret))
theorem zX:Tryz.f102.body.map (Bf lends)=some A5Y:=by kernel_rfl
theorem ACa:Bz Tryz.f102 2=true:=by kernel_rfl
theorem AIH{a l:List D}{r:D×List D}(h:CF Y.env A5Y (ES Ae l.length [ResultVar.tmp 4] r) (entry a l))(ha:a.length=2):Y.call 102 a l=some r:=
 Ab (Y:=Y) rfl Tryz.func102 (ha▸ACa) zX h
def BK(s_:List (List Int))(f:(List Int)→Option Bool)(f_f:FuncId)(f_c:List D)(NZ:Int)(s:St):Prop:=s.v 0=D.sl 26 (AL (fun x=>D.sl 3 (AL (D.int .i64) x)) s_)∧s.v 1=D.clo f_f f_c∧s.v 7=D.int .i64 (s_.length:Int)∧s.v 8=D.int .i64 NZ
def Be(s_:List (List Int))(f:(List Int)→Option Bool)(f_f:FuncId)(f_c:List D)(r:Int⊕Unit)(ex:Ex)(s:St):Prop:=match r with
 | .inl q=>ex= .ret∧s.v 4=D.int .i64 q
 | .inr q=>ex= .exit 0
theorem KF(s_:List (List Int))(f:(List Int)→Option Bool)(f_f:FuncId)(f_c:List D)(f_h: ∀(a0:List Int) (r:Bool),f a0=some r→Y.call f_f (D.sl 3 (AL (D.int .i64) a0)::f_c) []=some (D.bool r,[]))(f_l:lends f_f=false){v:Int}{s:St}{r:Int⊕Unit}(h:Cs s_ f v=some r)(hM:BK s_ f f_f f_c v s):CF Y.env oP (Be s_ f f_f f_c r) s:=by
 unfold Cs at h;refine BN (c:=YK) (fun v=>Bd s_ f v) (fun v s=>BK s_ f f_f f_c v s) (Be s_ f f_f f_c) ?_ h hM;clear h hM s v r;intro NZ s o hM h;unfold Bd at h;unfold BK at hM;obtain⟨m0,m1,m2,m3⟩:=hM;unfold YK;rcases iS h with⟨e1,h⟩|⟨e1,h⟩
 ·obtain⟨e2,h⟩:=FK h;obtain⟨Xd,hl3,h⟩:=Ag h;have c3:=f_h _ _ hl3;rcases iS h with⟨e4,h⟩|⟨e4,h⟩
  ·obtain rfl:=Option.some.inj h
   simp (maxDischargeDepth:=9) only [↓AP,AQ,↓reduceIte,Nat.reduceEqDiff,Nat.reduceLT,Nat.reduceAdd,m0,m1,m2,m3,f_l,e1,e2.1,e2.2,c3,e4,BK,Be,MP]
  ·have e4f:Xd=false:=Fx.mpr e4
   obtain rfl:=Option.some.inj h
   simp (maxDischargeDepth:=9) only [↓AP,AQ,↓reduceIte,Nat.reduceEqDiff,Nat.reduceLT,Nat.reduceAdd,m0,m1,m2,m3,f_l,e1,e2.1,e2.2,c3,e4f,BK,GZ]
 ·obtain rfl:=Option.some.inj h
  simp (maxDischargeDepth:=9) only [↓AP,AQ,↓reduceIte,Nat.reduceLT,m2,m3,e1,BK,Be,KW]
theorem KR(s_:List (List Int))(f:(List Int)→Option Bool)(f_f:FuncId)(f_c:List D)(f_h: ∀(a0:List Int) (r:Bool),f a0=some r→Y.call f_f (D.sl 3 (AL (D.int .i64) a0)::f_c) []=some (D.bool r,[]))(f_l:lends f_f=false){r:Int}(h:D9 s_ f=some r):Y.call 102 [D.sl 26 (AL (fun x=>D.sl 3 (AL (D.int .i64) x)) s_),D.clo f_f f_c] []=some (D.int .i64 r,[]):=by
 refine AIH ?_ rfl;unfold A5Y;unfold D9 at h;obtain⟨AY,hl2,h⟩:=Ag h;try dsimp only at h
 simp (maxDischargeDepth:=9) only [↓AP,AQ,↓reduceIte,Nat.reduceEqDiff,Nat.reduceLT,Int.reduceNeg];refine Av (KF s_ f f_f f_c f_h f_l hl2 ?_) ?_
 ·simp (maxDischargeDepth:=9) only [C9,DK,↓reduceIte,Nat.reduceEqDiff,Nat.reduceLT,BK]
 ·intro ex2 s2 hX2;rcases AY with q1000_|q1000_
  ·unfold Be at hX2;dsimp only at hX2 h;obtain⟨rfl,n2_0⟩:=hX2
   obtain rfl:=Option.some.inj h
   simp (maxDischargeDepth:=9) only [↓AP,AQ,↓reduceIte,n2_0]
  ·unfold Be at hX2;dsimp only at hX2 h
   obtain rfl:=hX2
   obtain rfl:=Option.some.inj h
   simp (maxDischargeDepth:=9) only [↓AP,AQ,↓reduceIte,Nat.reduceEqDiff,Nat.reduceLT,Int.reduceNeg]
noncomputable def CS(s_:List (List Int))(f:(List Int)→Option Bool):Option (Bool):= (D9 s_ f).bind fun vX=> some (decide (0≤vX))
def k69:SC:= .seq (.ops [oX 4 (.assign (.const (.bool false))) 4]) (.seq (.ops [oM 5 0 22,oM 6 1 90,oC 7 102 [(tK 5),(tK 6)] [22,90] 3,oB 8 .geq 3 (tK 7) (iK 0) 3 4,oA 4 8 4]) .ret)
theorem A5Z:Tryz.f69.body.map (Bf lends)=some k69:=by kernel_rfl
theorem AIJ:Bz Tryz.f69 2=true:=by kernel_rfl
theorem c69{a l:List D}{r:D×List D}(h:CF Y.env k69 (ES Ae l.length [ResultVar.tmp 4] r) (entry a l))(ha:a.length=2):Y.call 69 a l=some r:=
 Ab (Y:=Y) rfl Tryz.func69 (ha▸AIJ) A5Z h
theorem Jr(s_:List (List Int))(f:(List Int)→Option Bool)(f_f:FuncId)(f_c:List D)(f_h: ∀(a0:List Int) (r:Bool),f a0=some r→Y.call f_f (D.sl 3 (AL (D.int .i64) a0)::f_c) []=some (D.bool r,[]))(f_l:lends f_f=false){r:Bool}(h:CS s_ f=some r):Y.call 69 [D.sl 26 (AL (fun x=>D.sl 3 (AL (D.int .i64) x)) s_),D.clo f_f f_c] []=some (D.bool r,[]):=by
 refine c69 ?_ rfl;unfold k69;unfold CS at h;obtain⟨vX,hl1,h⟩:=Ag h;try dsimp only at h
 have c1:=KR s_ f f_f f_c f_h f_l hl1
 obtain rfl:=Option.some.inj h
 simp (maxDischargeDepth:=9) only [↓AP,AQ,↓reduceIte,Nat.reduceEqDiff,Nat.reduceLT,Nat.reduceAdd,c1]
noncomputable def EB(labels:List Int)(c0__0:Int)(c0__1:Int)(c0__2:List (List Int))(c0__3:List (List Int)):Option (Bool):= ck (labels.length<1099511627776)<| some (!(DC labels (-1:Int) (IntKind.i64.wrap (c0__0-1))))
def k70:SC:= .seq (.ops [oX 3 (.assign (.const (.bool false))) 4]) (.seq (.ops [oM 4 0 26,oF 5 34 1 0,oL 6 3 5 3,oB 7 .sub 3 (tK 6) (iK 1) 3 3,oC 8 71 [(tK 4),(.const (.int .i64 (-1))),(tK 7)] [26,3,3] 4,oX 9 (.unOp .not 4 (tK 8)) 4,oA 3 9 4]) .ret)
theorem A5a:Tryz.f70.body.map (Bf lends)=some k70:=by kernel_rfl
theorem AIL:Bz Tryz.f70 2=true:=by kernel_rfl
theorem c70{a l:List D}{r:D×List D}(h:CF Y.env k70 (ES Ae l.length [ResultVar.tmp 3] r) (entry a l))(ha:a.length=2):Y.call 70 a l=some r:=
 Ab (Y:=Y) rfl Tryz.func70 (ha▸AIL) A5a h
theorem Ol(labels:List Int)(c0__0:Int)(c0__1:Int)(c0__2:List (List Int))(c0__3:List (List Int)){r:Bool}(h:EB labels c0__0 c0__1 c0__2 c0__3=some r):Y.call 70 [D.sl 3 (AL (D.int .i64) labels),D.cptr [D.int .i64 c0__0,D.int .i64 c0__1,D.sl 26 (AL (fun x=>D.sl 3 (AL (D.int .i64) x)) c0__2),D.sl 26 (AL (fun x=>D.sl 3 (AL (D.int .i64) x)) c0__3)]] []=some (D.bool r,[]):=by
 refine c70 ?_ rfl;unfold k70;unfold EB at h;obtain⟨e1,h⟩:=FK h;have c2:=NM labels (-1:Int) (IntKind.i64.wrap (c0__0-1)) e1
 obtain rfl:=Option.some.inj h
 simp (maxDischargeDepth:=9) only [↓AP,AQ,↓reduceIte,Nat.reduceEqDiff,Nat.reduceLT,Nat.reduceAdd,Int.reduceNeg,c2]
noncomputable def Hd(AR:Int)(AV:Int)(AX:List (List Int))(AZ:List (List Int))(Ak:List (List (Int×Int)))(BV:List Int)(Ad:List Int)(l:List (List Int)):Option (Bool):= (Qs Ak BV Ad l).bind fun o8=> if o8=true then (CS l (fun a0=>EB a0 AR AV AX AZ)).bind fun wV=> some (!wV) else some false
def k41:SC:= .seq (.ops [oX 3 (.box 34 (tK 0)) 0,oX 4 (.box 38 (tK 1)) 0,oX 6 (.assign (.const (.bool false))) 4]) (.seq (.ops [oL 7 38 4 38,oM 8 2 22,oC 9 68 [(tK 7),(tK 8)] [38,22] 4,oM 10 9 4,⟨(some 11),(.move (tK 2)),22,(some (some 10,true))⟩,⟨(some 12),(.makeFunc (Fn.func 70) #[] #[(tK 3)]),90,(some (some 10,true))⟩,⟨(some 13),(.call ⟨(.value (.func 69)), #[(tK 11),(tK 12)], #[22,90]⟩),4,(some (some 10,true))⟩,⟨(some 14),(.unOp .not 4 (tK 13)),4,(some (some 10,true))⟩,oX 15 (.pick (tK 10) (tK 14) (.const (.bool false))) 4,oA 6 15 4]) .ret)
theorem A5b:Tryz.f41.body.map (Bf lends)=some k41:=by kernel_rfl
theorem AIN:Bz Tryz.f41 3=true:=by kernel_rfl
theorem c41{a l:List D}{r:D×List D}(h:CF Y.env k41 (ES Ae l.length [ResultVar.tmp 6] r) (entry a l))(ha:a.length=3):Y.call 41 a l=some r:=
 Ab (Y:=Y) rfl Tryz.func41 (ha▸AIN) A5b h
theorem Pg(AR:Int)(AV:Int)(AX:List (List Int))(AZ:List (List Int))(Ak:List (List (Int×Int)))(BV:List Int)(Ad:List Int)(l:List (List Int)){r:Bool}(h:Hd AR AV AX AZ Ak BV Ad l=some r):Y.call 41 [D.agg [D.int .i64 AR,D.int .i64 AV,D.sl 26 (AL (fun x=>D.sl 3 (AL (D.int .i64) x)) AX),D.sl 26 (AL (fun x=>D.sl 3 (AL (D.int .i64) x)) AZ)],D.agg [D.sl 79 (AL (fun x=>D.sl 87 (Ay .i64 .i64 x)) Ak),D.sl 3 (AL (D.int .i64) BV),D.sl 3 (AL (D.int .i64) Ad)],D.sl 26 (AL (fun x=>D.sl 3 (AL (D.int .i64) x)) l)] []=some (D.bool r,[]):=by
 refine c41 ?_ rfl;unfold k41;unfold Hd at h;obtain⟨o8,hl1,h⟩:=Ag h;have c1:=YJ Ak BV Ad l hl1;rcases iS h with⟨e2,h⟩|⟨e2,h⟩
 ·obtain⟨wV,hl3,h⟩:=Ag h;try dsimp only at h
  have c3:=Jr l (fun a0=>EB a0 AR AV AX AZ) 70 [D.cptr [D.int .i64 AR,D.int .i64 AV,D.sl 26 (AL (fun x=>D.sl 3 (AL (D.int .i64) x)) AX),D.sl 26 (AL (fun x=>D.sl 3 (AL (D.int .i64) x)) AZ)]] (fun a0 _ hh=>Ol a0 AR AV AX AZ hh) A4N hl3
  obtain rfl:=Option.some.inj h
  simp (maxDischargeDepth:=9) only [↓AP,AQ,↓reduceIte,Nat.reduceEqDiff,Nat.reduceLT,Nat.reduceAdd,c1,e2,c3]
 ·have e2f:o8=false:=Fx.mpr e2
  obtain rfl:=Option.some.inj h
  simp (maxDischargeDepth:=9) only [↓AP,AQ,↓reduceIte,Nat.reduceEqDiff,Nat.reduceLT,Nat.reduceAdd,c1,e2f]
noncomputable def Ez(l:List (List Int))(out:List (List Int))(NQ:Int):Option (((List (List Int))×Int)⊕((List (List Int)))):= if NQ<(l.length:Int)then ck (0≤NQ∧NQ.toNat<l.length)<| ck ((l.getD NQ.toNat default).length<1099511627776)<| ck (0≤NQ∧NQ.toNat<out.length)<| some (Sum.inl ((out.set NQ.toNat (l.getD NQ.toNat default)),IntKind.i64.wrap (NQ+1))) else some (Sum.inr out)
noncomputable def Kv(l:List (List Int))(v:(List (List Int))×Int):Option ((List (List Int))):=I4 (fun v=>Ez l v.1 v.2) v
noncomputable def MF(l:List (List Int)):Option ((List (List Int))):= ck (0≤(l.length:Int)∧(l.length:Int)<1099511627776)<| (Kv l ((List.replicate l.length ([]:List Int)),0)).bind fun AY=> some AY
def eD:SC:= .seq (.ops [oB 11 .lss 3 (tK 10) (tK 9) 3 0]) (.seq (.cond (tK 11) .skip (.exit 0)) (.seq (.block 1 (.seq (.ops [oM 12 10 3,oA 4 12 3]) (.ops [oM 13 3 22,oM 14 4 3,oM 15 0 22,oM 16 4 3,oI 17 22 15 16,oL 18 26 17 26,oC 19 99 [(tK 18)] [26] 26,oI 20 22 13 14,oS 26 20 19]))) (.ops [oB 21 .add 3 (tK 10) (iK 1) 3 3,oM 10 21 3])))
def wW:SC:= .loop eD
def k72:SC:= .seq (.ops [oX 2 (.assign (.const (.slice none 0 0))) 22]) (.seq (.ops [oM 5 0 22,oN 6 5 22,oX 7 (.makeSlice 22 (tK 6) (tK 6)) 22,oA 3 7 22]) (.seq (.seq (.ops [oM 8 0 22,oN 9 8 22,oX 10 (.move (iK 0)) 3]) (.block 0 wW)) (.seq (.ops [oM 22 3 22,oA 2 22 22]) .ret)))
theorem A5c:Tryz.f72.body.map (Bf lends)=some k72:=by kernel_rfl
theorem AIQ:Bz Tryz.f72 1=true:=by kernel_rfl
theorem c72{a l:List D}{r:D×List D}(h:CF Y.env k72 (ES Ae l.length [ResultVar.tmp 2] r) (entry a l))(ha:a.length=1):Y.call 72 a l=some r:=
 Ab (Y:=Y) rfl Tryz.func72 (ha▸AIQ) A5c h
def F3(l:List (List Int))(out:List (List Int))(NQ:Int)(s:St):Prop:=s.v 0=D.sl 26 (AL (fun x=>D.sl 3 (AL (D.int .i64) x)) l)∧s.v 3=D.own 26 (AL (fun x=>D.own 3 (AL (D.int .i64) x)) out)∧s.v 9=D.int .i64 (l.length:Int)∧s.v 10=D.int .i64 NQ
def Js(l:List (List Int))(r:(List (List Int)))(ex:Ex)(s:St):Prop:=ex= .exit 0∧s.v 3=D.own 26 (AL (fun x=>D.own 3 (AL (D.int .i64) x)) r)
theorem TR(l:List (List Int)){v:(List (List Int))×Int}{s:St}{r:(List (List Int))}(h:Kv l v=some r)(hM:F3 l v.1 v.2 s):CF Y.env wW (Js l r) s:=by
 unfold Kv at h;refine BN (c:=eD) (fun v=>Ez l v.1 v.2) (fun v s=>F3 l v.1 v.2 s) (Js l) ?_ h hM;clear h hM s v r;intro v s o hM h;obtain⟨out,NQ⟩:=v;dsimp only at h hM;unfold Ez at h;unfold F3 at hM;obtain⟨m0,m1,m2,m3⟩:=hM;unfold eD;rcases iS h with⟨e2,h⟩|⟨e2,h⟩
 ·obtain⟨e3,e4,h⟩:=Ei h;have c5:=JQ (l.getD NQ.toNat default) e4;obtain⟨e6,h⟩:=FK h
  obtain rfl:=Option.some.inj h
  simp (maxDischargeDepth:=9) only [↓AP,AQ,↓reduceIte,Nat.reduceEqDiff,Nat.reduceLT,Nat.reduceAdd,m0,m1,m2,m3,e2,e3.1,e3.2,c5,e6.2,F3,GZ]
 ·obtain rfl:=Option.some.inj h
  simp (maxDischargeDepth:=9) only [↓AP,AQ,↓reduceIte,Nat.reduceEqDiff,Nat.reduceLT,m1,m2,m3,e2,F3,Js,KW]
theorem UN(l:List (List Int)){r:(List (List Int))}(h:MF l=some r):Y.call 72 [D.sl 26 (AL (fun x=>D.sl 3 (AL (D.int .i64) x)) l)] []=some (D.own 26 (AL (fun x=>D.own 3 (AL (D.int .i64) x)) r),[]):=by
 refine c72 ?_ rfl;unfold k72;unfold MF at h;obtain⟨e1,h⟩:=FK h;obtain⟨AY,hl3,h⟩:=Ag h;try dsimp only at h
 simp (maxDischargeDepth:=9) only [↓AP,AQ,↓reduceIte,Nat.reduceEqDiff,Nat.reduceLT,Nat.reduceLeDiff,e1.1,e1.2];refine Av (TR l hl3 ?_) ?_
 ·simp (maxDischargeDepth:=9) only [C9,DK,↓reduceIte,Nat.reduceEqDiff,Nat.reduceLT,F3]
 ·intro ex3 s3 hX3;unfold Js at hX3;obtain⟨rfl,n3_0⟩:=hX3
  obtain rfl:=Option.some.inj h
  simp (maxDischargeDepth:=9) only [↓AP,AQ,↓reduceIte,Nat.reduceEqDiff,Nat.reduceLT,n3_0]
noncomputable def CY(t0_0:Int)(t0_1:Int)(t0_2:List (List Int))(t0_3:List (List Int))(t0_4:List (List (Int×Int)))(t0_5:List Int)(t0_6:List Int)(t0_7:List (List Int))(QV:Int)(Cf:Int)(Ga:Int)(DF:Int):Option ((Int)⊕(Unit⊕Unit)):= if DF<t0_0 then ck (0≤(CV (t0_4.getD QV.toNat default) Cf.toNat)∧(CV (t0_4.getD QV.toNat default) Cf.toNat).toNat<t0_7.length)<| ck (0≤(Cx (t0_4.getD QV.toNat default) Cf.toNat)∧(Cx (t0_4.getD QV.toNat default) Cf.toNat).toNat<(t0_7.getD ((CV (t0_4.getD QV.toNat default) Cf.toNat).toNat) default).length)<| ck (¬DF<0)<| if(GX .and .i64 (((t0_7.getD ((CV (t0_4.getD QV.toNat default) Cf.toNat).toNat) default).getD ((Cx (t0_4.getD QV.toNat default) Cf.toNat).toNat) default).fdiv (2 ^ (min DF.toNat (IntKind.i64.bits)))) 1)=1 then ck (BB t0_3)<| ck (QQ t0_3=true)<| if(Na t0_3 Ga DF)=true then some (Sum.inr (Sum.inl ())) else some (Sum.inl (IntKind.i64.wrap (DF+1))) else some (Sum.inl (IntKind.i64.wrap (DF+1))) else some (Sum.inr (Sum.inr ()))
noncomputable def EK(t0_0:Int)(t0_1:Int)(t0_2:List (List Int))(t0_3:List (List Int))(t0_4:List (List (Int×Int)))(t0_5:List Int)(t0_6:List Int)(t0_7:List (List Int))(QV:Int)(Cf:Int)(Ga:Int)(v:Int):Option (Unit⊕Unit):=I4 (fun v=>CY t0_0 t0_1 t0_2 t0_3 t0_4 t0_5 t0_6 t0_7 QV Cf Ga v) v
noncomputable def Dy(t0_0:Int)(t0_1:Int)(t0_2:List (List Int))(t0_3:List (List Int))(t0_4:List (List (Int×Int)))(t0_5:List Int)(t0_6:List Int)(t0_7:List (List Int))(QV:Int)(Cf:Int)(Ga:Int):Option (Bool):=
 ck (0≤QV∧QV.toNat<t0_4.length)<|
 ck (0≤Cf∧Cf.toNat<(t0_4.getD QV.toNat default).length)<|
 if(((CV (t0_4.getD QV.toNat default) Cf.toNat)==QV)&&((Cx (t0_4.getD QV.toNat default) Cf.toNat)==Cf))=true then
  ck (BB t0_3)<|
  ck (QQ t0_3=true)<|
  some (Na t0_3 Ga Ga)
 else
  (EK t0_0 t0_1 t0_2 t0_3 t0_4 t0_5 t0_6 t0_7 QV Cf Ga 0).bind fun AY=>
  match AY with
  | .inl q1000_=>
   some true
  | .inr q1000_=>
   some false
def YL:SC:= .seq (.ops [oB 40 .lss 3 (tK 39) (tK 38) 3 4]) (.seq (.cond (tK 40) .skip (.exit 0)) (.seq (.block 1 (.seq (.ops [oM 41 39 3,oA 10 41 3]) (.seq (.draws [(⟨[42,0,0],[42,43,44,45,46,47,48,49,50,51,52,53,54,55,56,57,58,59,60,61,62,63,64,65,66],[42]⟩,oM 42 0 91),(⟨[43,42,0],[42,43,44,45,46,47,48,49,50,51,52,53,54,55,56,57,58,59,60,61,62,63,64,65,66],[43]⟩,oX 43 (.nilCheck (tK 42)) 0),(⟨[44,43,0],[42,43,44,45,46,47,48,49,50,51,52,53,54,55,56,57,58,59,60,61,62,63,64,65,66],[44]⟩,oF 44 93 43 2),(⟨[45,44,0],[42,43,44,45,46,47,48,49,50,51,52,53,54,55,56,57,58,59,60,61,62,63,64,65,66],[45]⟩,oL 45 22 44 22),(⟨[46,9,9],[42,43,44,45,46,47,48,49,50,51,52,53,54,55,56,57,58,59,60,61,62,63,64,65,66],[46]⟩,oF 46 87 9 0),(⟨[47,46,9],[42,43,44,45,46,47,48,49,50,51,52,53,54,55,56,57,58,59,60,61,62,63,64,65,66],[47]⟩,oL 47 3 46 3),(⟨[48,45,47,0,9],[42,43,44,45,46,47,48,49,50,51,52,53,54,55,56,57,58,59,60,61,62,63,64,65,66],[48]⟩,oI 48 22 45 47),(⟨[49,48,0],[42,43,44,45,46,47,48,49,50,51,52,53,54,55,56,57,58,59,60,61,62,63,64,65,66],[49]⟩,oL 49 26 48 26),(⟨[50,9,9],[42,43,44,45,46,47,48,49,50,51,52,53,54,55,56,57,58,59,60,61,62,63,64,65,66],[50]⟩,oF 50 87 9 1),(⟨[51,50,9],[42,43,44,45,46,47,48,49,50,51,52,53,54,55,56,57,58,59,60,61,62,63,64,65,66],[51]⟩,oL 51 3 50 3),
 (⟨[52,49,51,0,9],[42,43,44,45,46,47,48,49,50,51,52,53,54,55,56,57,58,59,60,61,62,63,64,65,66],[52]⟩,oI 52 26 49 51),(⟨[53,52,0],[42,43,44,45,46,47,48,49,50,51,52,53,54,55,56,57,58,59,60,61,62,63,64,65,66],[53]⟩,oL 53 3 52 3),(⟨[54,10,10],[42,43,44,45,46,47,48,49,50,51,52,53,54,55,56,57,58,59,60,61,62,63,64,65,66],[54]⟩,oM 54 10 3),(⟨[55,53,54,0,10],[42,43,44,45,46,47,48,49,50,51,52,53,54,55,56,57,58,59,60,61,62,63,64,65,66],[55]⟩,oB 55 .shr 3 (tK 53) (tK 54) 3 3),(⟨[56,55,55],[42,43,44,45,46,47,48,49,50,51,52,53,54,55,56,57,58,59,60,61,62,63,64,65,66],[56]⟩,oB 56 .and 3 (tK 55) (iK 1) 3 3),(⟨[57,56,56],[42,43,44,45,46,47,48,49,50,51,52,53,54,55,56,57,58,59,60,61,62,63,64,65,66],[57]⟩,oB 57 .eql 3 (tK 56) (iK 1) 3 4),(⟨[58,57,57],[42,43,44,45,46,47,48,49,50,51,52,53,54,55,56,57,58,59,60,61,62,63,64,65,66],[58]⟩,oM 58 57 4),(⟨[59,0,0,58],[42,43,44,45,46,47,48,49,50,51,52,53,54,55,56,57,58,59,60,61,62,63,64,65,66],[59]⟩,⟨(some 59),(.move (tK 0)),91,(some (some 58,true))⟩),(⟨[60,59,0,58],[42,43,44,45,46,47,48,49,50,51,52,53,54,55,56,57,58,59,60,61,62,63,64,65,66],[60]⟩,⟨(some 60),(.nilCheck (tK 59)),0,(some (some 58,true))⟩),(⟨[61,60,0,58],[42,43,44,45,46,47,48,49,50,51,52,53,54,55,56,57,58,59,60,61,62,63,64,65,66],[61]⟩,⟨(some 61),(.fieldAddr 93 (tK 60) 0),0,(some (some 58,true))⟩),
 (⟨[62,61,0,58],[42,43,44,45,46,47,48,49,50,51,52,53,54,55,56,57,58,59,60,61,62,63,64,65,66],[62]⟩,⟨(some 62),(.load 34 (tK 61)),34,(some (some 58,true))⟩),(⟨[63,3,3,58],[42,43,44,45,46,47,48,49,50,51,52,53,54,55,56,57,58,59,60,61,62,63,64,65,66],[63]⟩,⟨(some 63),(.move (tK 3)),3,(some (some 58,true))⟩),(⟨[64,10,10,58],[42,43,44,45,46,47,48,49,50,51,52,53,54,55,56,57,58,59,60,61,62,63,64,65,66],[64]⟩,⟨(some 64),(.move (tK 10)),3,(some (some 58,true))⟩),(⟨[65,62,63,64,0,3,10,58],[42,43,44,45,46,47,48,49,50,51,52,53,54,55,56,57,58,59,60,61,62,63,64,65,66],[65]⟩,⟨(some 65),(.call ⟨(.value (.func 88)), #[(tK 62),(tK 63),(tK 64)], #[34,3,3]⟩),4,(some (some 58,true))⟩),(⟨[66,58,65,57,65],[42,43,44,45,46,47,48,49,50,51,52,53,54,55,56,57,58,59,60,61,62,63,64,65,66],[66]⟩,oX 66 (.pick (tK 58) (tK 65) (.const (.bool false))) 4)]) (.cond (tK 66) (.seq (.ops [oX 8 (.assign (.const (.bool true))) 4]) .ret) .skip)))) (.ops [oB 67 .add 3 (tK 39) (iK 1) 3 3,oM 39 67 3])))
def oQ:SC:= .loop YL
def A5d:SC:= .seq (.ops [oX 8 (.assign (.const (.bool false))) 4]) (.seq (.ops [oM 11 0 91,oX 12 (.nilCheck (tK 11)) 0,oF 13 93 12 1,oF 14 38 13 0,oL 15 36 14 36,oM 16 1 3,oI 17 36 15 16,oL 18 79 17 79,oM 19 2 3,oI 20 79 18 19,oL 21 87 20 87,oX 9 (.alloc 87) 0,oS 87 9 21]) (.seq (.seq (.ops [oL 22 87 9 87,oM 23 1 3,oM 24 2 3,oX 25 (.build 87 #[(0,(tK 23)),(1,(tK 24))]) 87,oB 26 .eql 87 (tK 22) (tK 25) 87 4]) (.cond (tK 26) (.seq (.ops [oM 27 0 91,oX 28 (.nilCheck (tK 27)) 0,oF 29 93 28 0,oL 30 34 29 34,oM 31 3 3,oM 32 3 3,oC 33 88 [(tK 30),(tK 31),(tK 32)] [34,3,3] 4,oA 8 33 4]) .ret) .skip)) (.seq (.seq (.ops [oM 34 0 91,oX 35 (.nilCheck (tK 34)) 0,oF 36 93 35 0,oF 37 34 36 0,oL 38 3 37 3,oX 39 (.move (iK 0)) 3]) (.block 0 oQ)) (.seq (.ops [oX 8 (.assign (.const (.bool false))) 4]) .ret))))
theorem zY:Tryz.f105.body.map (Bf lends)=some A5d:=by kernel_rfl
theorem ACb:Bz Tryz.f105 4=true:=by kernel_rfl
theorem AIR{a l:List D}{r:D×List D}(h:CF Y.env A5d (ES Ae l.length [ResultVar.tmp 8] r) (entry a l))(ha:a.length=4):Y.call 105 a l=some r:=
 Ab (Y:=Y) rfl Tryz.func105 (ha▸ACb) zY h
def Bq(t0_0:Int)(t0_1:Int)(t0_2:List (List Int))(t0_3:List (List Int))(t0_4:List (List (Int×Int)))(t0_5:List Int)(t0_6:List Int)(t0_7:List (List Int))(QV:Int)(Cf:Int)(Ga:Int)(DF:Int)(s:St):Prop:=s.v 0=D.cptr [D.int .i64 t0_0,D.int .i64 t0_1,D.sl 26 (AL (fun x=>D.sl 3 (AL (D.int .i64) x)) t0_2),D.sl 26 (AL (fun x=>D.sl 3 (AL (D.int .i64) x)) t0_3),D.sl 79 (AL (fun x=>D.sl 87 (Ay .i64 .i64 x)) t0_4),D.sl 3 (AL (D.int .i64) t0_5),D.sl 3 (AL (D.int .i64) t0_6),D.sl 26 (AL (fun x=>D.sl 3 (AL (D.int .i64) x)) t0_7)]∧s.v 3=D.int .i64 Ga∧s.v 9=D.box [D.int .i64 (CV (t0_4.getD QV.toNat default) Cf.toNat),D.int .i64 (Cx (t0_4.getD QV.toNat default) Cf.toNat)]∧s.v 38=D.int .i64 t0_0∧s.v 39=D.int .i64 DF
def CZ(t0_0:Int)(t0_1:Int)(t0_2:List (List Int))(t0_3:List (List Int))(t0_4:List (List (Int×Int)))(t0_5:List Int)(t0_6:List Int)(t0_7:List (List Int))(QV:Int)(Cf:Int)(Ga:Int)(r:Unit⊕Unit)(ex:Ex)(s:St):Prop:=match r with
 | .inl q=>ex= .ret∧s.v 8=D.bool true
 | .inr q=>ex= .exit 0
theorem Ml(t0_0:Int)(t0_1:Int)(t0_2:List (List Int))(t0_3:List (List Int))(t0_4:List (List (Int×Int)))(t0_5:List Int)(t0_6:List Int)(t0_7:List (List Int))(QV:Int)(Cf:Int)(Ga:Int){v:Int}{s:St}{r:Unit⊕Unit}(h:EK t0_0 t0_1 t0_2 t0_3 t0_4 t0_5 t0_6 t0_7 QV Cf Ga v=some r)(hM:Bq t0_0 t0_1 t0_2 t0_3 t0_4 t0_5 t0_6 t0_7 QV Cf Ga v s):CF Y.env oQ (CZ t0_0 t0_1 t0_2 t0_3 t0_4 t0_5 t0_6 t0_7 QV Cf Ga r) s:=by
 unfold EK at h;refine BN (c:=YL) (fun v=>CY t0_0 t0_1 t0_2 t0_3 t0_4 t0_5 t0_6 t0_7 QV Cf Ga v) (fun v s=>Bq t0_0 t0_1 t0_2 t0_3 t0_4 t0_5 t0_6 t0_7 QV Cf Ga v s) (CZ t0_0 t0_1 t0_2 t0_3 t0_4 t0_5 t0_6 t0_7 QV Cf Ga) ?_ h hM;clear h hM s v r;intro DF s o hM h;unfold CY at h;unfold Bq at hM;obtain⟨m0,m1,m2,m3,m4⟩:=hM;unfold YL;rcases iS h with⟨e4,h⟩|⟨e4,h⟩
 ·obtain⟨e5,e6,e7,h⟩:=Oa h;rcases iS h with⟨e8,h⟩|⟨e8,h⟩
  ·obtain⟨e9,e10,h⟩:=Ei h;have o6:=O4 t0_0 t0_1 t0_2 t0_3 Ga DF e9 e10;rcases iS h with⟨e12,h⟩|⟨e12,h⟩
   ·obtain rfl:=Option.some.inj h
    simp (maxDischargeDepth:=9) only [↓AP,AQ,↓reduceIte,Nat.reduceEqDiff,Nat.reduceLT,Nat.reduceLeDiff,Nat.reduceAdd,Nat.reduceBEq,m0,m1,m2,m3,m4,e4,e5.1,e5.2,e6.1,e6.2,e7,decide_eq_true e8,o6,e12,Bq,CZ,MP]
   ·have e12f:(Na t0_3 Ga DF)=false:=Fx.mpr e12
    obtain rfl:=Option.some.inj h
    simp (maxDischargeDepth:=9) only [↓AP,AQ,↓reduceIte,Nat.reduceEqDiff,Nat.reduceLT,Nat.reduceLeDiff,Nat.reduceAdd,Nat.reduceBEq,m0,m1,m2,m3,m4,e4,e5.1,e5.2,e6.1,e6.2,e7,decide_eq_true e8,o6,e12f,Bq,GZ]
  ·obtain rfl:=Option.some.inj h
   simp (maxDischargeDepth:=9) only [↓AP,AQ,↓reduceIte,Nat.reduceEqDiff,Nat.reduceLT,Nat.reduceBEq,m0,m1,m2,m3,m4,e4,e5.1,e5.2,e6.1,e6.2,e7,e8,Bq,GZ]
 ·obtain rfl:=Option.some.inj h
  simp (maxDischargeDepth:=9) only [↓AP,AQ,↓reduceIte,Nat.reduceLT,m3,m4,e4,Bq,CZ,KW]
theorem NR(t0_0:Int)(t0_1:Int)(t0_2:List (List Int))(t0_3:List (List Int))(t0_4:List (List (Int×Int)))(t0_5:List Int)(t0_6:List Int)(t0_7:List (List Int))(QV:Int)(Cf:Int)(Ga:Int){r:Bool}(h:Dy t0_0 t0_1 t0_2 t0_3 t0_4 t0_5 t0_6 t0_7 QV Cf Ga=some r):Y.call 105 [D.cptr [D.int .i64 t0_0,D.int .i64 t0_1,D.sl 26 (AL (fun x=>D.sl 3 (AL (D.int .i64) x)) t0_2),D.sl 26 (AL (fun x=>D.sl 3 (AL (D.int .i64) x)) t0_3),D.sl 79 (AL (fun x=>D.sl 87 (Ay .i64 .i64 x)) t0_4),D.sl 3 (AL (D.int .i64) t0_5),D.sl 3 (AL (D.int .i64) t0_6),D.sl 26 (AL (fun x=>D.sl 3 (AL (D.int .i64) x)) t0_7)],D.int .i64 QV,D.int .i64 Cf,D.int .i64 Ga] []=some (D.bool r,[]):=by
 refine AIR ?_ rfl;unfold A5d;unfold Dy at h;obtain⟨e1,e2,h⟩:=Ei h;rcases iS h with⟨e3,h⟩|⟨e3,h⟩
 ·obtain⟨e4,e5,h⟩:=Ei h;have c6:=O4 t0_0 t0_1 t0_2 t0_3 Ga Ga e4 e5
  obtain rfl:=Option.some.inj h
  simp (maxDischargeDepth:=9) only [↓AP,AQ,↓reduceIte,Nat.reduceEqDiff,Nat.reduceLT,Nat.reduceLeDiff,Nat.reduceAdd,e1.1,e1.2,e2.1,e2.2,e3,c6]
 ·have e3f:(((CV (t0_4.getD QV.toNat default) Cf.toNat)==QV)&&((Cx (t0_4.getD QV.toNat default) Cf.toNat)==Cf))=false:=Fx.mpr e3;obtain⟨AY,hl5,h⟩:=Ag h;try dsimp only at h
  simp (maxDischargeDepth:=9) only [↓AP,AQ,↓reduceIte,Nat.reduceEqDiff,Nat.reduceLT,Nat.reduceLeDiff,Nat.reduceAdd,e1.1,e1.2,e2.1,e2.2,e3f];refine Av (Ml t0_0 t0_1 t0_2 t0_3 t0_4 t0_5 t0_6 t0_7 QV Cf Ga hl5 ?_) ?_
  ·simp (maxDischargeDepth:=9) only [C9,DK,↓reduceIte,Nat.reduceEqDiff,Nat.reduceLT,Bq]
  ·intro ex5 s5 hX5;rcases AY with q1000_|q1000_
   ·unfold CZ at hX5;dsimp only at hX5 h;obtain⟨rfl,n5_0⟩:=hX5
    obtain rfl:=Option.some.inj h
    simp (maxDischargeDepth:=9) only [↓AP,AQ,↓reduceIte,n5_0]
   ·unfold CZ at hX5;dsimp only at hX5 h
    obtain rfl:=hX5
    obtain rfl:=Option.some.inj h
    simp (maxDischargeDepth:=9) only [↓AP,AQ,↓reduceIte,Nat.reduceEqDiff,Nat.reduceLT]
noncomputable def Kw(AR:Int)(AV:Int)(AX:List (List Int))(AZ:List (List Int))(labels:List Int):Option (Bool):= ck (BB AX)<| ck (labels.length<1099511627776)<| ck (QQ AX=true)<| some (AX.contains (LK labels))
def A5e:SC:= .seq (.ops [oX 2 (.box 34 (tK 0)) 0,oX 4 (.assign (.const (.bool false))) 4]) (.seq (.ops [oF 5 34 2 2,oL 6 22 5 22,oM 7 1 26,oC 8 117 [(tK 6),(tK 7)] [22,26] 4,oA 4 8 4]) .ret)
theorem zZ:Tryz.f119.body.map (Bf lends)=some A5e:=by kernel_rfl
theorem ACc:Bz Tryz.f119 2=true:=by kernel_rfl
theorem AIS{a l:List D}{r:D×List D}(h:CF Y.env A5e (ES Ae l.length [ResultVar.tmp 4] r) (entry a l))(ha:a.length=2):Y.call 119 a l=some r:=
 Ab (Y:=Y) rfl Tryz.func119 (ha▸ACc) zZ h
theorem R6(AR:Int)(AV:Int)(AX:List (List Int))(AZ:List (List Int))(labels:List Int){r:Bool}(h:Kw AR AV AX AZ labels=some r):Y.call 119 [D.agg [D.int .i64 AR,D.int .i64 AV,D.sl 26 (AL (fun x=>D.sl 3 (AL (D.int .i64) x)) AX),D.sl 26 (AL (fun x=>D.sl 3 (AL (D.int .i64) x)) AZ)],D.sl 3 (AL (D.int .i64) labels)] []=some (D.bool r,[]):=by
 refine AIS ?_ rfl;unfold A5e;unfold Kw at h;obtain⟨e1,e2,e3,h⟩:=Oa h;have c4:=LM AX labels e1 e2 e3
 obtain rfl:=Option.some.inj h
 simp (maxDischargeDepth:=9) only [↓AP,AQ,↓reduceIte,Nat.reduceEqDiff,Nat.reduceLT,Nat.reduceAdd,c4]
noncomputable def Cj(rec_:Int→(List Int)→Int→Int→(List (List Int))→(List (List Int))→(List (List (Int×Int)))→(List Int)→(List Int)→(List (List Int))→Int→Int→Option (Bool×(List Int)))(k:Int)(c0__0:Int)(c0__1:Int)(c0__2:List (List Int))(c0__3:List (List Int))(c0__4:List (List (Int×Int)))(c0__5:List Int)(c0__6:List Int)(c0__7:List (List Int))(c2_:Int)(c4_:Int)(eF:Int)(t100000_0:List Int):Option ((Int×(List Int))⊕(((List Int))⊕((List Int)))):= if eF<c0__0 then ck (0≤c4_∧c4_.toNat<c0__7.length)<| ck (0≤k∧k.toNat<(c0__7.getD c4_.toNat default).length)<| ck (¬eF<0)<| if(GX .and .i64 (((c0__7.getD c4_.toNat default).getD k.toNat default).fdiv (2 ^ (min eF.toNat (IntKind.i64.bits)))) 1)=1 then ck (0≤k∧k.toNat<t100000_0.length)<| (rec_ (IntKind.i64.wrap (k+1)) (t100000_0.set k.toNat eF) c0__0 c0__1 c0__2 c0__3 c0__4 c0__5 c0__6 c0__7 c2_ c4_).bind fun wX=> if wX.1=true then some (Sum.inr (Sum.inl wX.2)) else some (Sum.inl (IntKind.i64.wrap (eF+1),wX.2)) else some (Sum.inl (IntKind.i64.wrap (eF+1),t100000_0)) else some (Sum.inr (Sum.inr t100000_0))
noncomputable def Dq(rec_:Int→(List Int)→Int→Int→(List (List Int))→(List (List Int))→(List (List (Int×Int)))→(List Int)→(List Int)→(List (List Int))→Int→Int→Option (Bool×(List Int)))(k:Int)(c0__0:Int)(c0__1:Int)(c0__2:List (List Int))(c0__3:List (List Int))(c0__4:List (List (Int×Int)))(c0__5:List Int)(c0__6:List Int)(c0__7:List (List Int))(c2_:Int)(c4_:Int)(v:Int×(List Int)):Option (((List Int))⊕((List Int))):=I4 (fun v=>Cj rec_ k c0__0 c0__1 c0__2 c0__3 c0__4 c0__5 c0__6 c0__7 c2_ c4_ v.1 v.2) v
noncomputable def CP(rec_:Int→(List Int)→Int→Int→(List (List Int))→(List (List Int))→(List (List (Int×Int)))→(List Int)→(List Int)→(List (List Int))→Int→Int→Option (Bool×(List Int)))(k:Int)(o0_:List Int)(c0__0:Int)(c0__1:Int)(c0__2:List (List Int))(c0__3:List (List Int))(c0__4:List (List (Int×Int)))(c0__5:List Int)(c0__6:List Int)(c0__7:List (List Int))(c2_:Int)(c4_:Int):Option (Bool×(List Int)):=
 if k=c0__1 then
  (Kw c0__0 c0__1 c0__2 c0__3 o0_).bind fun ACd=>
  some (ACd,o0_)
 else
  if k=c2_ then
   (rec_ (IntKind.i64.wrap (k+1)) o0_ c0__0 c0__1 c0__2 c0__3 c0__4 c0__5 c0__6 c0__7 c2_ c4_).bind fun qw=>
   some (qw.1,qw.2)
  else
   (Dq rec_ k c0__0 c0__1 c0__2 c0__3 c0__4 c0__5 c0__6 c0__7 c2_ c4_ (0,o0_)).bind fun AY=>
   match AY with
   | .inl q1000_=>
    some (true,q1000_)
   | .inr q1000_=>
    some (false,q1000_)
noncomputable def BF:Nat→Int→(List Int)→Int→Int→(List (List Int))→(List (List Int))→(List (List (Int×Int)))→(List Int)→(List Int)→(List (List Int))→Int→Int→Option (Bool×(List Int)) |0=>fun _ _ _ _ _ _ _ _ _ _ _ _=>none |n+1=>fun k o0_ c0__0 c0__1 c0__2 c0__3 c0__4 c0__5 c0__6 c0__7 c2_ c4_=>CP (BF n) k o0_ c0__0 c0__1 c0__2 c0__3 c0__4 c0__5 c0__6 c0__7 c2_ c4_
noncomputable def He(k:Int)(o0_:List Int)(c0__0:Int)(c0__1:Int)(c0__2:List (List Int))(c0__3:List (List Int))(c0__4:List (List (Int×Int)))(c0__5:List Int)(c0__6:List Int)(c0__7:List (List Int))(c2_:Int)(c4_:Int):Option (Bool×(List Int)):=BF 1000000 k o0_ c0__0 c0__1 c0__2 c0__3 c0__4 c0__5 c0__6 c0__7 c2_ c4_
def YM:SC:= .seq (.ops [oB 37 .lss 3 (tK 36) (tK 35) 3 4]) (.seq (.cond (tK 37) .skip (.exit 1)) (.seq (.block 2 (.seq (.ops [oM 38 36 3,oA 8 38 3]) (.seq (.draws [(⟨[39,1,1],[39,40,41,42,43,44,45,46,47,48,49,50,51,52],[39]⟩,oL 39 91 1 91),(⟨[40,39,1],[39,40,41,42,43,44,45,46,47,48,49,50,51,52],[40]⟩,oX 40 (.nilCheck (tK 39)) 0),(⟨[41,40,1],[39,40,41,42,43,44,45,46,47,48,49,50,51,52],[41]⟩,oF 41 93 40 2),(⟨[42,41,1],[39,40,41,42,43,44,45,46,47,48,49,50,51,52],[42]⟩,oL 42 22 41 22),(⟨[43,5,5],[39,40,41,42,43,44,45,46,47,48,49,50,51,52],[43]⟩,oL 43 3 5 3),(⟨[44,42,43,1,5],[39,40,41,42,43,44,45,46,47,48,49,50,51,52],[44]⟩,oI 44 22 42 43),(⟨[45,44,1],[39,40,41,42,43,44,45,46,47,48,49,50,51,52],[45]⟩,oL 45 26 44 26),(⟨[46,0,0],[39,40,41,42,43,44,45,46,47,48,49,50,51,52],[46]⟩,oM 46 0 3),(⟨[47,45,46,1,0],[39,40,41,42,43,44,45,46,47,48,49,50,51,52],[47]⟩,oI 47 26 45 46),(⟨[48,47,1],[39,40,41,42,43,44,45,46,47,48,49,50,51,52],[48]⟩,oL 48 3 47 3),(⟨[49,8,8],[39,40,41,42,43,44,45,46,47,48,49,50,51,52],[49]⟩,oM 49 8 3),(⟨[50,48,49,1,8],[39,40,41,42,43,44,45,46,47,48,49,50,51,52],[50]⟩,oB 50 .shr 3 (tK 48) (tK 49) 3 3),(⟨[51,50,50],[39,40,41,42,43,44,45,46,47,48,49,50,51,52],[51]⟩,oB 51 .and 3 (tK 50) (iK 1) 3 3),
 (⟨[52,51,51],[39,40,41,42,43,44,45,46,47,48,49,50,51,52],[52]⟩,oB 52 .eql 3 (tK 51) (iK 1) 3 4)]) (.cond (tK 52) (.seq (.ops [oL 53 26 2 26,oM 54 0 3,oM 55 8 3,oI 56 26 53 54,oS 3 56 55]) (.seq (.ops [oL 57 105 4 105,oM 58 0 3,oB 59 .add 3 (tK 58) (iK 1) 3 3,oX 60 (.call ⟨(.value (tK 57)), #[(tK 59)], #[3]⟩) 4]) (.cond (tK 60) (.seq (.ops [oX 7 (.assign (.const (.bool true))) 4]) .ret) .skip))) .skip)))) (.ops [oB 61 .add 3 (tK 36) (iK 1) 3 3,oM 36 61 3])))
def oU:SC:= .loop YM
def A5f:SC:= .seq (.ops [oX 7 (.assign (.const (.bool false))) 4]) (.seq (.block 0 (.seq (.ops [oM 10 0 3,oL 11 91 1 91,oX 12 (.nilCheck (tK 11)) 0,oF 13 93 12 0,oF 14 34 13 1,oL 15 3 14 3,oB 16 .eql 3 (tK 10) (tK 15) 3 4,oA 9 16 4]) (.cond (tK 9) (.seq (.draws [(⟨[17,1,1],[17,18,19,20,21,22,7,22,22],[17]⟩,oL 17 91 1 91),(⟨[18,17,1],[17,18,19,20,21,22,7,22,22],[18]⟩,oX 18 (.nilCheck (tK 17)) 0),(⟨[19,18,1],[17,18,19,20,21,22,7,22,22],[19]⟩,oF 19 93 18 0),(⟨[20,19,1],[17,18,19,20,21,22,7,22,22],[20]⟩,oL 20 34 19 34),(⟨[21,2,2],[17,18,19,20,21,22,7,22,22],[21]⟩,oL 21 26 2 26),(⟨[22,20,21,1,2],[17,18,19,20,21,22,7,22,22],[22]⟩,oC 22 119 [(tK 20),(tK 21)] [34,26] 4),(⟨[7,22,22],[17,18,19,20,21,22,7,22,22],[7,22,22]⟩,oA 7 22 4)]) .ret) (.seq (.ops [oM 24 0 3,oL 25 3 3 3,oB 26 .eql 3 (tK 24) (tK 25) 3 4,oA 23 26 4]) (.cond (tK 23) (.seq (.ops [oL 27 105 4 105,oM 28 0 3,oB 29 .add 3 (tK 28) (iK 1) 3 3,oX 30 (.call ⟨(.value (tK 27)), #[(tK 29)], #[3]⟩) 4,oA 7 30 4]) .ret) .skip))))) (.seq (.seq (.ops [oL 31 91 1 91,oX 32 (.nilCheck (tK 31)) 0,oF 33 93 32 0,oF 34 34 33 0,oL 35 3 34 3,oX 36 (.move (iK 0)) 3]) (.block 1 oU)) (.seq (.ops [oX 7 (.assign (.const (.bool false))) 4])
 .ret)))
theorem za:Tryz.f130.body.map (Bf lends)=some A5f:=by kernel_rfl
theorem ACe:Bz Tryz.f130 6=true:=by kernel_rfl
theorem AIT{a l:List D}{r:D×List D}(h:CF Y.env A5f (ES Ae l.length [ResultVar.tmp 7] r) (entry a l))(ha:a.length=6):Y.call 130 a l=some r:=
 Ab (Y:=Y) rfl Tryz.func130 (ha▸ACe) za h
def BX(rec_:Int→(List Int)→Int→Int→(List (List Int))→(List (List Int))→(List (List (Int×Int)))→(List Int)→(List Int)→(List (List Int))→Int→Int→Option (Bool×(List Int)))(k:Int)(c0__0:Int)(c0__1:Int)(c0__2:List (List Int))(c0__3:List (List Int))(c0__4:List (List (Int×Int)))(c0__5:List Int)(c0__6:List Int)(c0__7:List (List Int))(c2_:Int)(c4_:Int)(eF:Int)(t100000_0:List Int)(s:St):Prop:=s.v 0=D.int .i64 k∧s.v 1=D.cptr [D.cptr [D.int .i64 c0__0,D.int .i64 c0__1,D.sl 26 (AL (fun x=>D.sl 3 (AL (D.int .i64) x)) c0__2),D.sl 26 (AL (fun x=>D.sl 3 (AL (D.int .i64) x)) c0__3),D.sl 79 (AL (fun x=>D.sl 87 (Ay .i64 .i64 x)) c0__4),D.sl 3 (AL (D.int .i64) c0__5),D.sl 3 (AL (D.int .i64) c0__6),D.sl 26 (AL (fun x=>D.sl 3 (AL (D.int .i64) x)) c0__7)]]∧(∃w_,s.v 2=D.vw [100000] (s.k 100000) w_)∧(∃w_,s.v 4=D.ocl true 130 [D.cptr [D.cptr [D.int .i64 c0__0,D.int .i64 c0__1,D.sl 26 (AL (fun x=>D.sl 3 (AL (D.int .i64) x)) c0__2),D.sl 26 (AL (fun x=>D.sl 3 (AL (D.int .i64) x)) c0__3),D.sl 79 (AL (fun x=>D.sl 87 (Ay .i64 .i64 x)) c0__4),D.sl 3 (AL (D.int .i64) c0__5),D.sl 3 (AL (D.int .i64) c0__6),D.sl 26 (AL (fun x=>D.sl 3 (AL (D.int .i64) x)) c0__7)]],D.vw [100000] (s.k 100000) w_,D.cptr [D.int .i64 c2_],D.undef,D.cptr [D.int .i64 c4_]])∧s.v 5=D.cptr [D.int .i64 c4_]∧s.v 35=D.int .i64 c0__0∧s.v 36=D.int .i64 eF∧s.v 100000=D.box [D.own 3 (AL (D.int .i64) t100000_0)]
def CR(rec_:Int→(List Int)→Int→Int→(List (List Int))→(List (List Int))→(List (List (Int×Int)))→(List Int)→(List Int)→(List (List Int))→Int→Int→Option (Bool×(List Int)))(k:Int)(c0__0:Int)(c0__1:Int)(c0__2:List (List Int))(c0__3:List (List Int))(c0__4:List (List (Int×Int)))(c0__5:List Int)(c0__6:List Int)(c0__7:List (List Int))(c2_:Int)(c4_:Int)(r:((List Int))⊕((List Int)))(ex:Ex)(s:St):Prop:=match r with
 | .inl q=>ex= .ret∧s.v 7=D.bool true∧s.v 100000=D.box [D.own 3 (AL (D.int .i64) q)]
 | .inr q=>ex= .exit 1∧s.v 100000=D.box [D.own 3 (AL (D.int .i64) q)]
theorem MG(rec_:Int→(List Int)→Int→Int→(List (List Int))→(List (List Int))→(List (List (Int×Int)))→(List Int)→(List Int)→(List (List Int))→Int→Int→Option (Bool×(List Int)))(k:Int)(c0__0:Int)(c0__1:Int)(c0__2:List (List Int))(c0__3:List (List Int))(c0__4:List (List (Int×Int)))(c0__5:List Int)(c0__6:List Int)(c0__7:List (List Int))(c2_:Int)(c4_:Int)(rec_h: ∀(k:Int) (o0_:List Int) (c0__0:Int) (c0__1:Int) (c0__2:List (List Int)) (c0__3:List (List Int)) (c0__4:List (List (Int×Int))) (c0__5:List Int) (c0__6:List Int) (c0__7:List (List Int)) (c2_:Int) (c4_:Int) (r:Bool×(List Int)),rec_ k o0_ c0__0 c0__1 c0__2 c0__3 c0__4 c0__5 c0__6 c0__7 c2_ c4_=some r→Y.call 130 [D.int .i64 k,D.cptr [D.cptr [D.int .i64 c0__0,D.int .i64 c0__1,D.sl 26 (AL (fun x=>D.sl 3 (AL (D.int .i64) x)) c0__2),D.sl 26 (AL (fun x=>D.sl 3 (AL (D.int .i64) x)) c0__3),D.sl 79 (AL (fun x=>D.sl 87 (Ay .i64 .i64 x)) c0__4),D.sl 3 (AL (D.int .i64) c0__5),D.sl 3 (AL (D.int .i64) c0__6),D.sl 26 (AL (fun x=>D.sl 3 (AL (D.int .i64) x)) c0__7)]],D.vw [100000] 0 0,D.cptr [D.int .i64 c2_],D.ocl true 130 [D.cptr [D.cptr [D.int .i64 c0__0,D.int .i64 c0__1,D.sl 26 (AL (fun x=>D.sl 3 (AL (D.int .i64) x)) c0__2),D.sl 26 (AL (fun x=>D.sl 3 (AL (D.int .i64) x)) c0__3),D.sl 79 (AL (fun x=>D.sl 87 (Ay .i64 .i64 x)) c0__4),D.sl 3 (AL (D.int .i64) c0__5),D.sl 3 (AL (D.int .i64) c0__6),D.sl 26 (AL (fun x=>D.sl 3 (AL (D.int .i64) x)) c0__7)]],D.vw [100000] 0 0,D.cptr [D.int .i64 c2_],D.undef,D.cptr [D.int .i64 c4_]],D.cptr [D.int .i64 c4_]] [D.box [D.own 3 (AL (D.int .i64) o0_)]]=some (D.bool r.1,[D.box [D.own 3 (AL (D.int .i64) r.2)]])){v:Int×(List Int)}{s:St}{r:((List Int))⊕((List Int))}(h:Dq rec_ k c0__0 c0__1 c0__2 c0__3 c0__4 c0__5 c0__6 c0__7 c2_ c4_ v=some r)(hM:BX rec_ k c0__0 c0__1 c0__2 c0__3 c0__4 c0__5 c0__6 c0__7 c2_ c4_ v.1 v.2 s):CF Y.env oU (CR rec_ k c0__0 c0__1 c0__2 c0__3 c0__4 c0__5 c0__6 c0__7 c2_ c4_ r) s:=by
 unfold Dq at h;refine BN (c:=YM) (fun v=>Cj rec_ k c0__0 c0__1 c0__2 c0__3 c0__4 c0__5 c0__6 c0__7 c2_ c4_ v.1 v.2) (fun v s=>BX rec_ k c0__0 c0__1 c0__2 c0__3 c0__4 c0__5 c0__6 c0__7 c2_ c4_ v.1 v.2 s) (CR rec_ k c0__0 c0__1 c0__2 c0__3 c0__4 c0__5 c0__6 c0__7 c2_ c4_) ?_ h hM;clear h hM s v r;intro v s o hM h;obtain⟨eF,t100000_0⟩:=v;dsimp only at h hM;unfold Cj at h;unfold BX at hM;obtain⟨m0,m1,⟨w2_,m2⟩,⟨w3_,m3⟩,m4,m5,m6,m7⟩:=hM;unfold YM;rcases iS h with⟨e3,h⟩|⟨e3,h⟩
 ·obtain⟨e4,e5,e6,h⟩:=Oa h;rcases iS h with⟨e7,h⟩|⟨e7,h⟩
  ·obtain⟨e8,h⟩:=FK h;obtain⟨wX,hl9,h⟩:=Ag h;have c9:=rec_h _ _ _ _ _ _ _ _ _ _ _ _ _ hl9;rcases iS h with⟨e10,h⟩|⟨e10,h⟩
   ·obtain rfl:=Option.some.inj h
    simp (maxDischargeDepth:=9) only [↓AP,AQ,↓reduceIte,Nat.reduceEqDiff,Nat.reduceLT,Nat.reduceAdd,m0,m1,m2,m3,m4,m5,m6,m7,e3,e4.1,e4.2,e5.1,e5.2,e6,decide_eq_true e7,e8.2,c9,e10,BX,CR,MP]
   ·have e10f:wX.1=false:=Fx.mpr e10
    obtain rfl:=Option.some.inj h
    simp (maxDischargeDepth:=9) only [↓AP,AQ,↓reduceIte,Nat.reduceEqDiff,Nat.reduceLT,Nat.reduceAdd,m0,m1,m2,m3,m4,m5,m6,m7,e3,e4.1,e4.2,e5.1,e5.2,e6,decide_eq_true e7,e8.2,c9,e10f,BX,GZ]<;>(repeat' apply A7)<;>first|rfl|exact⟨_,rfl⟩|exact⟨_,_,rfl⟩|simp [AL,BP]
  ·obtain rfl:=Option.some.inj h
   simp (maxDischargeDepth:=9) only [↓AP,AQ,↓reduceIte,Nat.reduceEqDiff,Nat.reduceLT,m0,m1,m2,m3,m4,m5,m6,m7,e3,e4.1,e4.2,e5.1,e5.2,e6,e7,BX,GZ]<;>(repeat' apply A7)<;>first|rfl|exact⟨_,rfl⟩|exact⟨_,_,rfl⟩|simp [AL,BP]
 ·obtain rfl:=Option.some.inj h
  simp (maxDischargeDepth:=9) only [↓AP,AQ,↓reduceIte,Nat.reduceEqDiff,Nat.reduceLT,m5,m6,m7,e3,BX,CR,KW]
theorem LX(rec_:Int→(List Int)→Int→Int→(List (List Int))→(List (List Int))→(List (List (Int×Int)))→(List Int)→(List Int)→(List (List Int))→Int→Int→Option (Bool×(List Int)))(k:Int)(o0_:List Int)(c0__0:Int)(c0__1:Int)(c0__2:List (List Int))(c0__3:List (List Int))(c0__4:List (List (Int×Int)))(c0__5:List Int)(c0__6:List Int)(c0__7:List (List Int))(c2_:Int)(c4_:Int)(rec_h: ∀(k:Int) (o0_:List Int) (c0__0:Int) (c0__1:Int) (c0__2:List (List Int)) (c0__3:List (List Int)) (c0__4:List (List (Int×Int))) (c0__5:List Int) (c0__6:List Int) (c0__7:List (List Int)) (c2_:Int) (c4_:Int) (r:Bool×(List Int)),rec_ k o0_ c0__0 c0__1 c0__2 c0__3 c0__4 c0__5 c0__6 c0__7 c2_ c4_=some r→Y.call 130 [D.int .i64 k,D.cptr [D.cptr [D.int .i64 c0__0,D.int .i64 c0__1,D.sl 26 (AL (fun x=>D.sl 3 (AL (D.int .i64) x)) c0__2),D.sl 26 (AL (fun x=>D.sl 3 (AL (D.int .i64) x)) c0__3),D.sl 79 (AL (fun x=>D.sl 87 (Ay .i64 .i64 x)) c0__4),D.sl 3 (AL (D.int .i64) c0__5),D.sl 3 (AL (D.int .i64) c0__6),D.sl 26 (AL (fun x=>D.sl 3 (AL (D.int .i64) x)) c0__7)]],D.vw [100000] 0 0,D.cptr [D.int .i64 c2_],D.ocl true 130 [D.cptr [D.cptr [D.int .i64 c0__0,D.int .i64 c0__1,D.sl 26 (AL (fun x=>D.sl 3 (AL (D.int .i64) x)) c0__2),D.sl 26 (AL (fun x=>D.sl 3 (AL (D.int .i64) x)) c0__3),D.sl 79 (AL (fun x=>D.sl 87 (Ay .i64 .i64 x)) c0__4),D.sl 3 (AL (D.int .i64) c0__5),D.sl 3 (AL (D.int .i64) c0__6),D.sl 26 (AL (fun x=>D.sl 3 (AL (D.int .i64) x)) c0__7)]],D.vw [100000] 0 0,D.cptr [D.int .i64 c2_],D.undef,D.cptr [D.int .i64 c4_]],D.cptr [D.int .i64 c4_]] [D.box [D.own 3 (AL (D.int .i64) o0_)]]=some (D.bool r.1,[D.box [D.own 3 (AL (D.int .i64) r.2)]])){r:Bool×(List Int)}(h:CP rec_ k o0_ c0__0 c0__1 c0__2 c0__3 c0__4 c0__5 c0__6 c0__7 c2_ c4_=some r):Y.call 130 [D.int .i64 k,D.cptr [D.cptr [D.int .i64 c0__0,D.int .i64 c0__1,D.sl 26 (AL (fun x=>D.sl 3 (AL (D.int .i64) x)) c0__2),D.sl 26 (AL (fun x=>D.sl 3 (AL (D.int .i64) x)) c0__3),D.sl 79 (AL (fun x=>D.sl 87 (Ay .i64 .i64 x)) c0__4),D.sl 3 (AL (D.int .i64) c0__5),D.sl 3 (AL (D.int .i64) c0__6),D.sl 26 (AL (fun x=>D.sl 3 (AL (D.int .i64) x)) c0__7)]],D.vw [100000] 0 0,D.cptr [D.int .i64 c2_],D.ocl true 130 [D.cptr [D.cptr [D.int .i64 c0__0,D.int .i64 c0__1,D.sl 26 (AL (fun x=>D.sl 3 (AL (D.int .i64) x)) c0__2),D.sl 26 (AL (fun x=>D.sl 3 (AL (D.int .i64) x)) c0__3),D.sl 79 (AL (fun x=>D.sl 87 (Ay .i64 .i64 x)) c0__4),D.sl 3 (AL (D.int .i64) c0__5),D.sl 3 (AL (D.int .i64) c0__6),D.sl 26 (AL (fun x=>D.sl 3 (AL (D.int .i64) x)) c0__7)]],D.vw [100000] 0 0,D.cptr [D.int .i64 c2_],D.undef,D.cptr [D.int .i64 c4_]],D.cptr [D.int .i64 c4_]] [D.box [D.own 3 (AL (D.int .i64) o0_)]]=some (D.bool r.1,[D.box [D.own 3 (AL (D.int .i64) r.2)]]):=by
 refine AIT ?_ rfl;unfold A5f;unfold CP at h;rcases iS h with⟨e1,h⟩|⟨e1,h⟩
 ·obtain⟨ACd,hl2,h⟩:=Ag h;try dsimp only at h
  have c2:=R6 c0__0 c0__1 c0__2 c0__3 o0_ hl2
  obtain rfl:=Option.some.inj h
  simp (maxDischargeDepth:=9) only [↓AP,AQ,↓reduceIte,Nat.reduceEqDiff,Nat.reduceLT,Nat.reduceLeDiff,Nat.reduceAdd,Nat.reduceSub,Nat.reduceBEq,decide_eq_true e1,c2]
 ·rcases iS h with⟨e2,h⟩|⟨e2,h⟩
  ·obtain⟨qw,hl3,h⟩:=Ag h;try dsimp only at h
   have c3:=rec_h _ _ _ _ _ _ _ _ _ _ _ _ _ hl3
   obtain rfl:=Option.some.inj h
   simp (maxDischargeDepth:=9) only [↓AP,AQ,↓reduceIte,Nat.reduceEqDiff,Nat.reduceLT,Nat.reduceAdd,Nat.reduceSub,e1,decide_eq_true e2,c3]
  ·obtain⟨AY,hl4,h⟩:=Ag h;try dsimp only at h
   simp (maxDischargeDepth:=9) only [↓AP,AQ,↓reduceIte,Nat.reduceEqDiff,Nat.reduceLT,Nat.reduceAdd,e1,e2];refine Av (MG rec_ k c0__0 c0__1 c0__2 c0__3 c0__4 c0__5 c0__6 c0__7 c2_ c4_ rec_h hl4 ?_) ?_
   ·simp (maxDischargeDepth:=9) only [C9,DK,↓reduceIte,Nat.reduceEqDiff,Nat.reduceLT,Nat.reduceSub,BX]<;>(repeat' apply A7)<;>first|rfl|exact⟨_,rfl⟩|exact⟨_,_,rfl⟩|simp [AL,BP]
   ·intro ex4 s4 hX4;rcases AY with q1000_|q1000_
    ·unfold CR at hX4;dsimp only at hX4 h;obtain⟨rfl,n4_0,n4_1⟩:=hX4
     obtain rfl:=Option.some.inj h
     simp (maxDischargeDepth:=9) only [↓AP,AQ,↓reduceIte,n4_0,n4_1]
    ·unfold CR at hX4;dsimp only at hX4 h;obtain⟨rfl,n4_0⟩:=hX4
     obtain rfl:=Option.some.inj h
     simp (maxDischargeDepth:=9) only [↓AP,AQ,↓reduceIte,Nat.reduceEqDiff,Nat.reduceLT,n4_0]
theorem LY(n:Nat): ∀(k:Int) (o0_:List Int) (c0__0:Int) (c0__1:Int) (c0__2:List (List Int)) (c0__3:List (List Int)) (c0__4:List (List (Int×Int))) (c0__5:List Int) (c0__6:List Int) (c0__7:List (List Int)) (c2_:Int) (c4_:Int) (r:Bool×(List Int)),BF n k o0_ c0__0 c0__1 c0__2 c0__3 c0__4 c0__5 c0__6 c0__7 c2_ c4_=some r→Y.call 130 [D.int .i64 k,D.cptr [D.cptr [D.int .i64 c0__0,D.int .i64 c0__1,D.sl 26 (AL (fun x=>D.sl 3 (AL (D.int .i64) x)) c0__2),D.sl 26 (AL (fun x=>D.sl 3 (AL (D.int .i64) x)) c0__3),D.sl 79 (AL (fun x=>D.sl 87 (Ay .i64 .i64 x)) c0__4),D.sl 3 (AL (D.int .i64) c0__5),D.sl 3 (AL (D.int .i64) c0__6),D.sl 26 (AL (fun x=>D.sl 3 (AL (D.int .i64) x)) c0__7)]],D.vw [100000] 0 0,D.cptr [D.int .i64 c2_],D.ocl true 130 [D.cptr [D.cptr [D.int .i64 c0__0,D.int .i64 c0__1,D.sl 26 (AL (fun x=>D.sl 3 (AL (D.int .i64) x)) c0__2),D.sl 26 (AL (fun x=>D.sl 3 (AL (D.int .i64) x)) c0__3),D.sl 79 (AL (fun x=>D.sl 87 (Ay .i64 .i64 x)) c0__4),D.sl 3 (AL (D.int .i64) c0__5),D.sl 3 (AL (D.int .i64) c0__6),D.sl 26 (AL (fun x=>D.sl 3 (AL (D.int .i64) x)) c0__7)]],D.vw [100000] 0 0,D.cptr [D.int .i64 c2_],D.undef,D.cptr [D.int .i64 c4_]],D.cptr [D.int .i64 c4_]] [D.box [D.own 3 (AL (D.int .i64) o0_)]]=some (D.bool r.1,[D.box [D.own 3 (AL (D.int .i64) r.2)]]):=by
 induction n with
 |zero=>intro k o0_ c0__0 c0__1 c0__2 c0__3 c0__4 c0__5 c0__6 c0__7 c2_ c4_ r h;exact absurd h (by rw [BF];exact fun e=>by cases e)
 |succ n ih=>intro k o0_ c0__0 c0__1 c0__2 c0__3 c0__4 c0__5 c0__6 c0__7 c2_ c4_ r h;rw [BF]at h;exact LX (BF n) k o0_ c0__0 c0__1 c0__2 c0__3 c0__4 c0__5 c0__6 c0__7 c2_ c4_ ih h
theorem MX(k:Int)(o0_:List Int)(c0__0:Int)(c0__1:Int)(c0__2:List (List Int))(c0__3:List (List Int))(c0__4:List (List (Int×Int)))(c0__5:List Int)(c0__6:List Int)(c0__7:List (List Int))(c2_:Int)(c4_:Int){r:Bool×(List Int)}(h:He k o0_ c0__0 c0__1 c0__2 c0__3 c0__4 c0__5 c0__6 c0__7 c2_ c4_=some r):Y.call 130 [D.int .i64 k,D.cptr [D.cptr [D.int .i64 c0__0,D.int .i64 c0__1,D.sl 26 (AL (fun x=>D.sl 3 (AL (D.int .i64) x)) c0__2),D.sl 26 (AL (fun x=>D.sl 3 (AL (D.int .i64) x)) c0__3),D.sl 79 (AL (fun x=>D.sl 87 (Ay .i64 .i64 x)) c0__4),D.sl 3 (AL (D.int .i64) c0__5),D.sl 3 (AL (D.int .i64) c0__6),D.sl 26 (AL (fun x=>D.sl 3 (AL (D.int .i64) x)) c0__7)]],D.vw [100000] 0 0,D.cptr [D.int .i64 c2_],D.ocl true 130 [D.cptr [D.cptr [D.int .i64 c0__0,D.int .i64 c0__1,D.sl 26 (AL (fun x=>D.sl 3 (AL (D.int .i64) x)) c0__2),D.sl 26 (AL (fun x=>D.sl 3 (AL (D.int .i64) x)) c0__3),D.sl 79 (AL (fun x=>D.sl 87 (Ay .i64 .i64 x)) c0__4),D.sl 3 (AL (D.int .i64) c0__5),D.sl 3 (AL (D.int .i64) c0__6),D.sl 26 (AL (fun x=>D.sl 3 (AL (D.int .i64) x)) c0__7)]],D.vw [100000] 0 0,D.cptr [D.int .i64 c2_],D.undef,D.cptr [D.int .i64 c4_]],D.cptr [D.int .i64 c4_]] [D.box [D.own 3 (AL (D.int .i64) o0_)]]=some (D.bool r.1,[D.box [D.own 3 (AL (D.int .i64) r.2)]]):=LY 1000000 k o0_ c0__0 c0__1 c0__2 c0__3 c0__4 c0__5 c0__6 c0__7 c2_ c4_ r h
noncomputable def Dz(m_0:Int)(m_1:Int)(m_2:List (List Int))(m_3:List (List Int))(m_4:List (List (Int×Int)))(m_5:List Int)(m_6:List Int)(m_7:List (List Int))(v_:Int)(i:Int)(a:Int):Option (Bool):= (DI [(-1)] m_1).bind fun mq=> ck (0≤i∧i.toNat<mq.length)<| (He (0:Int) (mq.set i.toNat a) m_0 m_1 m_2 m_3 m_4 m_5 m_6 m_7 i v_).bind fun ACf=> some ACf.1
def A5g:SC:= .seq (.ops [oX 4 (.box 91 (tK 0)) 0,oX 5 (.box 3 (tK 1)) 0,oX 6 (.box 3 (tK 2)) 0,oX 8 (.assign (.const (.bool false))) 4]) (.seq (.ops [oX 11 (.buildSlice 26 1 #[(0,(.const (.int .i64 (-1))))]) 26,oL 12 91 4 91,oX 13 (.nilCheck (tK 12)) 0,oF 14 93 13 0,oF 15 34 14 1,oL 16 3 15 3,oC 17 81 [(tK 11),(tK 16)] [26,3] 26,oX 9 (.alloc 26) 0,oS 26 9 17]) (.seq (.ops [oL 18 26 9 26,oL 19 3 6 3,oM 20 3 3,oI 21 26 18 19,oS 3 21 20]) (.seq (.ops [oX 10 (.alloc 105) 0]) (.seq (.ops [oX 22 (.makeFunc (Fn.func 130) #[] #[(tK 4),(tK 9),(tK 6),(tK 10),(tK 5)]) 3000010,⟨none,(.store 105 (tK 10) (tK 22)),900010,none⟩]) (.seq (.ops [oL 23 105 10 105,oX 24 (.call ⟨(.value (tK 23)), #[(iK 0)], #[3]⟩) 4,oA 8 24 4]) .ret)))))
theorem zb:Tryz.f106.body.map (Bf lends)=some A5g:=by kernel_rfl
theorem ACg:Bz Tryz.f106 4=true:=by kernel_rfl
theorem AIU{a l:List D}{r:D×List D}(h:CF Y.env A5g (ES Ae l.length [ResultVar.tmp 8] r) (entry a l))(ha:a.length=4):Y.call 106 a l=some r:=
 Ab (Y:=Y) rfl Tryz.func106 (ha▸ACg) zb h
theorem NS(m_0:Int)(m_1:Int)(m_2:List (List Int))(m_3:List (List Int))(m_4:List (List (Int×Int)))(m_5:List Int)(m_6:List Int)(m_7:List (List Int))(v_:Int)(i:Int)(a:Int){r:Bool}(h:Dz m_0 m_1 m_2 m_3 m_4 m_5 m_6 m_7 v_ i a=some r):Y.call 106 [D.cptr [D.int .i64 m_0,D.int .i64 m_1,D.sl 26 (AL (fun x=>D.sl 3 (AL (D.int .i64) x)) m_2),D.sl 26 (AL (fun x=>D.sl 3 (AL (D.int .i64) x)) m_3),D.sl 79 (AL (fun x=>D.sl 87 (Ay .i64 .i64 x)) m_4),D.sl 3 (AL (D.int .i64) m_5),D.sl 3 (AL (D.int .i64) m_6),D.sl 26 (AL (fun x=>D.sl 3 (AL (D.int .i64) x)) m_7)],D.int .i64 v_,D.int .i64 i,D.int .i64 a] []=some (D.bool r,[]):=by
 refine AIU ?_ rfl;unfold A5g;unfold Dz at h;obtain⟨mq,hl1,h⟩:=Ag h;try dsimp only at h
 have c1:=ME [(-1)] m_1 hl1;simp only [Kg,bU]at c1;obtain⟨e2,h⟩:=FK h;obtain⟨ACf,hl3,h⟩:=Ag h;try dsimp only at h
 have c3:=MX (0:Int) (mq.set i.toNat a) m_0 m_1 m_2 m_3 m_4 m_5 m_6 m_7 i v_ hl3
 obtain rfl:=Option.some.inj h
 simp (maxDischargeDepth:=9) only [↓AP,AQ,↓reduceIte,Nat.reduceEqDiff,Nat.reduceLT,Nat.reduceLeDiff,Nat.reduceAdd,Nat.reduceMod,Nat.reduceDiv,Nat.reducePow,Nat.reduceSub,Int.reduceNeg,c1,e2.1,e2.2,c3]
noncomputable def DV(t0_0:Int)(t0_1:Int)(t0_2:List (List Int))(t0_3:List (List Int))(t0_4:List (List (Int×Int)))(t0_5:List Int)(t0_6:List Int)(t0_7:List (List Int))(Bg:Int)(t100000_7:List (List Int))(K6:Int)(t3_2:Bool)(QW:Int)(t100000_72:List (List Int)):Option ((Bool×Int×(List (List Int)))⊕(Bool×(List (List Int)))):= if QW<t0_0 then ck (0≤Bg∧Bg.toNat<t100000_72.length)<| ck (0≤K6∧K6.toNat<(t100000_72.getD Bg.toNat default).length)<| ck (¬QW<0)<| if(GX .and .i64 (((t100000_72.getD Bg.toNat default).getD K6.toNat default).fdiv (2 ^ (min QW.toNat (IntKind.i64.bits)))) 1)=0 then some (Sum.inl (t3_2,IntKind.i64.wrap (QW+1),t100000_72)) else (Dy t0_0 t0_1 t0_2 t0_3 t0_4 t0_5 t0_6 t100000_72 Bg K6 QW).bind fun YN=> if YN=true then if((t100000_72.getD Bg.toNat default).length:Int)=t0_1 then (Dz t0_0 t0_1 t0_2 t0_3 t0_4 t0_5 t0_6 t100000_72 Bg K6 QW).bind fun A5h=> if A5h=true then some (Sum.inl (t3_2,IntKind.i64.wrap (QW+1),t100000_72)) else some (Sum.inl (true,IntKind.i64.wrap (QW+1),(t100000_72.set Bg.toNat ((t100000_72.getD Bg.toNat default).set K6.toNat (GX .andNot .i64 ((t100000_72.getD Bg.toNat default).getD K6.toNat default) (IntKind.i64.wrap (1*2 ^ (min QW.toNat (IntKind.i64.bits)))))))))
 else some (Sum.inl (t3_2,IntKind.i64.wrap (QW+1),t100000_72)) else some (Sum.inl (true,IntKind.i64.wrap (QW+1),(t100000_72.set Bg.toNat ((t100000_72.getD Bg.toNat default).set K6.toNat (GX .andNot .i64 ((t100000_72.getD Bg.toNat default).getD K6.toNat default) (IntKind.i64.wrap (1*2 ^ (min QW.toNat (IntKind.i64.bits))))))))) else some (Sum.inr (t3_2,t100000_72))
noncomputable def IM(t0_0:Int)(t0_1:Int)(t0_2:List (List Int))(t0_3:List (List Int))(t0_4:List (List (Int×Int)))(t0_5:List Int)(t0_6:List Int)(t0_7:List (List Int))(Bg:Int)(t100000_7:List (List Int))(K6:Int)(v:Bool×Int×(List (List Int))):Option (Bool×(List (List Int))):=I4 (fun v=>DV t0_0 t0_1 t0_2 t0_3 t0_4 t0_5 t0_6 t0_7 Bg t100000_7 K6 v.1 v.2.1 v.2.2) v
noncomputable def DW(t0_0:Int)(t0_1:Int)(t0_2:List (List Int))(t0_3:List (List Int))(t0_4:List (List (Int×Int)))(t0_5:List Int)(t0_6:List Int)(t0_7:List (List Int))(Bg:Int)(t100000_7:List (List Int))(t3_1:Bool)(K6:Int)(t100000_71:List (List Int)):Option ((Bool×Int×(List (List Int)))⊕(Bool×(List (List Int)))):= if K6<((t100000_7.getD Bg.toNat default).length:Int)then (IM t0_0 t0_1 t0_2 t0_3 t0_4 t0_5 t0_6 t0_7 Bg t100000_7 K6 (t3_1,0,t100000_71)).bind fun AY=> some (Sum.inl (AY.1,IntKind.i64.wrap (K6+1),AY.2)) else some (Sum.inr (t3_1,t100000_71))
noncomputable def IP(t0_0:Int)(t0_1:Int)(t0_2:List (List Int))(t0_3:List (List Int))(t0_4:List (List (Int×Int)))(t0_5:List Int)(t0_6:List Int)(t0_7:List (List Int))(Bg:Int)(t100000_7:List (List Int))(v:Bool×Int×(List (List Int))):Option (Bool×(List (List Int))):=I4 (fun v=>DW t0_0 t0_1 t0_2 t0_3 t0_4 t0_5 t0_6 t0_7 Bg t100000_7 v.1 v.2.1 v.2.2) v
noncomputable def DX(t0_0:Int)(t0_1:Int)(t0_2:List (List Int))(t0_3:List (List Int))(t0_4:List (List (Int×Int)))(t0_5:List Int)(t0_6:List Int)(t0_7:List (List Int))(Ga:Bool)(Bg:Int)(t100000_7:List (List Int)):Option ((Bool×Int×(List (List Int)))⊕(Bool×(List (List Int)))):= if Bg<(t0_7.length:Int)then ck (0≤Bg∧Bg.toNat<t100000_7.length)<| (IP t0_0 t0_1 t0_2 t0_3 t0_4 t0_5 t0_6 t0_7 Bg t100000_7 (Ga,0,t100000_7)).bind fun Ec=> some (Sum.inl (Ec.1,IntKind.i64.wrap (Bg+1),Ec.2)) else some (Sum.inr (Ga,t100000_7))
noncomputable def IQ(t0_0:Int)(t0_1:Int)(t0_2:List (List Int))(t0_3:List (List Int))(t0_4:List (List (Int×Int)))(t0_5:List Int)(t0_6:List Int)(t0_7:List (List Int))(v:Bool×Int×(List (List Int))):Option (Bool×(List (List Int))):=I4 (fun v=>DX t0_0 t0_1 t0_2 t0_3 t0_4 t0_5 t0_6 t0_7 v.1 v.2.1 v.2.2) v
noncomputable def Ic(t0_0:Int)(t0_1:Int)(t0_2:List (List Int))(t0_3:List (List Int))(t0_4:List (List (Int×Int)))(t0_5:List Int)(t0_6:List Int)(t0_7:List (List Int)):Option (Bool×Int×Int×(List (List Int))×(List (List Int))×(List (List (Int×Int)))×(List Int)×(List Int)×(List (List Int))):= (IQ t0_0 t0_1 t0_2 t0_3 t0_4 t0_5 t0_6 t0_7 (false,0,t0_7)).bind fun CK=> some (CK.1,t0_0,t0_1,t0_2,t0_3,t0_4,t0_5,t0_6,CK.2)
def eG:SC:= .seq (.ops [oB 32 .lss 3 (tK 31) (tK 30) 3 4]) (.seq (.cond (tK 32) .skip (.exit 4)) (.seq (.block 5 (.seq (.ops [oM 33 31 3,oA 6 33 3]) (.seq (.seq (.ops [oM 34 0 91,oX 35 (.nilCheck (tK 34)) 0,oF 36 93 35 2,oL 37 22 36 22,oM 38 4 3,oI 39 22 37 38,oL 40 26 39 26,oM 41 5 3,oI 42 26 40 41,oL 43 3 42 3,oM 44 6 3,oB 45 .shr 3 (tK 43) (tK 44) 3 3,oB 46 .and 3 (tK 45) (iK 1) 3 3,oB 47 .eql 3 (tK 46) (iK 0) 3 4]) (.cond (tK 47) (.exit 5) .skip)) (.seq (.draws [(⟨[48,0,0],[48,49,50,51,52,53,54,55,56,57,58,59,60,61,62,63,64,65,66,67,68,69,70,71,72,73,74,75,76,77],[48]⟩,oM 48 0 91),(⟨[49,4,4],[48,49,50,51,52,53,54,55,56,57,58,59,60,61,62,63,64,65,66,67,68,69,70,71,72,73,74,75,76,77],[49]⟩,oM 49 4 3),(⟨[50,5,5],[48,49,50,51,52,53,54,55,56,57,58,59,60,61,62,63,64,65,66,67,68,69,70,71,72,73,74,75,76,77],[50]⟩,oM 50 5 3),(⟨[51,6,6],[48,49,50,51,52,53,54,55,56,57,58,59,60,61,62,63,64,65,66,67,68,69,70,71,72,73,74,75,76,77],[51]⟩,oM 51 6 3),(⟨[52,48,49,50,51,0,4,5,6],[48,49,50,51,52,53,54,55,56,57,58,59,60,61,62,63,64,65,66,67,68,69,70,71,72,73,74,75,76,77],[52]⟩,oC 52 105 [(tK 48),(tK 49),(tK 50),(tK 51)] [91,3,3,3] 4),(⟨[53,52,52],[48,49,50,51,52,53,54,55,56,57,58,59,60,61,62,63,64,65,66,67,68,69,70,71,72,73,74,75,76,77],[53]⟩,oX 53 (.unOp .not 4 (tK 52)) 4),
 (⟨[54,53,53],[48,49,50,51,52,53,54,55,56,57,58,59,60,61,62,63,64,65,66,67,68,69,70,71,72,73,74,75,76,77],[54]⟩,oM 54 53 4),(⟨[55,0,0,54],[48,49,50,51,52,53,54,55,56,57,58,59,60,61,62,63,64,65,66,67,68,69,70,71,72,73,74,75,76,77],[55]⟩,⟨(some 55),(.move (tK 0)),91,(some (some 54,false))⟩),(⟨[56,55,0,54],[48,49,50,51,52,53,54,55,56,57,58,59,60,61,62,63,64,65,66,67,68,69,70,71,72,73,74,75,76,77],[56]⟩,⟨(some 56),(.nilCheck (tK 55)),0,(some (some 54,false))⟩),(⟨[57,56,0,54],[48,49,50,51,52,53,54,55,56,57,58,59,60,61,62,63,64,65,66,67,68,69,70,71,72,73,74,75,76,77],[57]⟩,⟨(some 57),(.fieldAddr 93 (tK 56) 2),0,(some (some 54,false))⟩),(⟨[58,57,0,54],[48,49,50,51,52,53,54,55,56,57,58,59,60,61,62,63,64,65,66,67,68,69,70,71,72,73,74,75,76,77],[58]⟩,⟨(some 58),(.load 22 (tK 57)),22,(some (some 54,false))⟩),(⟨[59,4,4,54],[48,49,50,51,52,53,54,55,56,57,58,59,60,61,62,63,64,65,66,67,68,69,70,71,72,73,74,75,76,77],[59]⟩,⟨(some 59),(.move (tK 4)),3,(some (some 54,false))⟩),(⟨[60,58,59,0,4,54],[48,49,50,51,52,53,54,55,56,57,58,59,60,61,62,63,64,65,66,67,68,69,70,71,72,73,74,75,76,77],[60]⟩,⟨(some 60),(.indexAddr 22 (tK 58) (tK 59)),0,(some (some 54,false))⟩),(⟨[61,60,0,54],[48,49,50,51,52,53,54,55,56,57,58,59,60,61,62,63,64,65,66,67,68,69,70,71,72,73,74,75,76,77],[61]⟩,⟨(some 61),(.load 26 (tK 60)),26,(some (some 54,false))⟩),
 (⟨[62,61,0,54],[48,49,50,51,52,53,54,55,56,57,58,59,60,61,62,63,64,65,66,67,68,69,70,71,72,73,74,75,76,77],[62]⟩,⟨(some 62),(.call ⟨(.builtin .len), #[(tK 61)], #[26]⟩),3,(some (some 54,false))⟩),(⟨[63,0,0,54],[48,49,50,51,52,53,54,55,56,57,58,59,60,61,62,63,64,65,66,67,68,69,70,71,72,73,74,75,76,77],[63]⟩,⟨(some 63),(.move (tK 0)),91,(some (some 54,false))⟩),(⟨[64,63,0,54],[48,49,50,51,52,53,54,55,56,57,58,59,60,61,62,63,64,65,66,67,68,69,70,71,72,73,74,75,76,77],[64]⟩,⟨(some 64),(.nilCheck (tK 63)),0,(some (some 54,false))⟩),(⟨[65,64,0,54],[48,49,50,51,52,53,54,55,56,57,58,59,60,61,62,63,64,65,66,67,68,69,70,71,72,73,74,75,76,77],[65]⟩,⟨(some 65),(.fieldAddr 93 (tK 64) 0),0,(some (some 54,false))⟩),(⟨[66,65,0,54],[48,49,50,51,52,53,54,55,56,57,58,59,60,61,62,63,64,65,66,67,68,69,70,71,72,73,74,75,76,77],[66]⟩,⟨(some 66),(.fieldAddr 34 (tK 65) 1),0,(some (some 54,false))⟩),(⟨[67,66,0,54],[48,49,50,51,52,53,54,55,56,57,58,59,60,61,62,63,64,65,66,67,68,69,70,71,72,73,74,75,76,77],[67]⟩,⟨(some 67),(.load 3 (tK 66)),3,(some (some 54,false))⟩),(⟨[68,62,67,62,0,54],[48,49,50,51,52,53,54,55,56,57,58,59,60,61,62,63,64,65,66,67,68,69,70,71,72,73,74,75,76,77],[68]⟩,⟨(some 68),(.binOp .eql 3 (tK 62) (tK 67) 3),4,(some (some 54,false))⟩),
 (⟨[69,68,68,54],[48,49,50,51,52,53,54,55,56,57,58,59,60,61,62,63,64,65,66,67,68,69,70,71,72,73,74,75,76,77],[69]⟩,⟨(some 69),(.move (tK 68)),4,(some (some 54,false))⟩),(⟨[70,0,0,69],[48,49,50,51,52,53,54,55,56,57,58,59,60,61,62,63,64,65,66,67,68,69,70,71,72,73,74,75,76,77],[70]⟩,⟨(some 70),(.move (tK 0)),91,(some (some 69,true))⟩),(⟨[71,4,4,69],[48,49,50,51,52,53,54,55,56,57,58,59,60,61,62,63,64,65,66,67,68,69,70,71,72,73,74,75,76,77],[71]⟩,⟨(some 71),(.move (tK 4)),3,(some (some 69,true))⟩),(⟨[72,5,5,69],[48,49,50,51,52,53,54,55,56,57,58,59,60,61,62,63,64,65,66,67,68,69,70,71,72,73,74,75,76,77],[72]⟩,⟨(some 72),(.move (tK 5)),3,(some (some 69,true))⟩),(⟨[73,6,6,69],[48,49,50,51,52,53,54,55,56,57,58,59,60,61,62,63,64,65,66,67,68,69,70,71,72,73,74,75,76,77],[73]⟩,⟨(some 73),(.move (tK 6)),3,(some (some 69,true))⟩),(⟨[74,70,71,72,73,0,4,5,6,69],[48,49,50,51,52,53,54,55,56,57,58,59,60,61,62,63,64,65,66,67,68,69,70,71,72,73,74,75,76,77],[74]⟩,⟨(some 74),(.call ⟨(.value (.func 106)), #[(tK 70),(tK 71),(tK 72),(tK 73)], #[91,3,3,3]⟩),4,(some (some 69,true))⟩),(⟨[75,74,74,69],[48,49,50,51,52,53,54,55,56,57,58,59,60,61,62,63,64,65,66,67,68,69,70,71,72,73,74,75,76,77],[75]⟩,⟨(some 75),(.unOp .not 4 (tK 74)),4,(some (some 69,true))⟩),
 (⟨[76,69,75,68,75,54],[48,49,50,51,52,53,54,55,56,57,58,59,60,61,62,63,64,65,66,67,68,69,70,71,72,73,74,75,76,77],[76]⟩,⟨(some 76),(.pick (tK 69) (tK 75) (.const (.bool false))),4,(some (some 54,false))⟩),(⟨[77,54,76,53,76],[48,49,50,51,52,53,54,55,56,57,58,59,60,61,62,63,64,65,66,67,68,69,70,71,72,73,74,75,76,77],[77]⟩,oX 77 (.pick (tK 54) (.const (.bool true)) (tK 76)) 4)]) (.cond (tK 77) (.seq (.draws [(⟨[78,0,0],[78,79,80,81,82,83,84,85,86,87,88,89,90,91,100000,100001,100002,100003,100004,100005,100006,100007,91,90,0,90],[78]⟩,oM 78 0 91),(⟨[100000,100001,100002,100003,100004,100005,100006,100007,79,78,0],[78,79,80,81,82,83,84,85,86,87,88,89,90,91,100000,100001,100002,100003,100004,100005,100006,100007,91,90,0,90],[79]⟩,oX 79 (.nilCheck (tK 78)) 0),(⟨[100000,100001,100002,100003,100004,100005,100006,100007,80,79,0],[78,79,80,81,82,83,84,85,86,87,88,89,90,91,100000,100001,100002,100003,100004,100005,100006,100007,91,90,0,90],[80]⟩,oF 80 93 79 2),(⟨[100000,100001,100002,100003,100004,100005,100006,100007,81,80,0],[78,79,80,81,82,83,84,85,86,87,88,89,90,91,100000,100001,100002,100003,100004,100005,100006,100007,91,90,0,90],[81]⟩,oL 81 22 80 22),(⟨[82,4,4],[78,79,80,81,82,83,84,85,86,87,88,89,90,91,100000,100001,100002,100003,100004,100005,100006,100007,91,90,0,90],[82]⟩,oM 82 4 3),
 (⟨[100000,100001,100002,100003,100004,100005,100006,100007,83,81,82,0,4],[78,79,80,81,82,83,84,85,86,87,88,89,90,91,100000,100001,100002,100003,100004,100005,100006,100007,91,90,0,90],[83]⟩,oI 83 22 81 82),(⟨[100000,100001,100002,100003,100004,100005,100006,100007,84,83,0],[78,79,80,81,82,83,84,85,86,87,88,89,90,91,100000,100001,100002,100003,100004,100005,100006,100007,91,90,0,90],[84]⟩,oL 84 26 83 26),(⟨[85,5,5],[78,79,80,81,82,83,84,85,86,87,88,89,90,91,100000,100001,100002,100003,100004,100005,100006,100007,91,90,0,90],[85]⟩,oM 85 5 3),(⟨[100000,100001,100002,100003,100004,100005,100006,100007,86,84,85,0,5],[78,79,80,81,82,83,84,85,86,87,88,89,90,91,100000,100001,100002,100003,100004,100005,100006,100007,91,90,0,90],[86]⟩,oI 86 26 84 85),(⟨[100000,100001,100002,100003,100004,100005,100006,100007,87,86,0],[78,79,80,81,82,83,84,85,86,87,88,89,90,91,100000,100001,100002,100003,100004,100005,100006,100007,91,90,0,90],[87]⟩,oL 87 3 86 3),(⟨[88,6,6],[78,79,80,81,82,83,84,85,86,87,88,89,90,91,100000,100001,100002,100003,100004,100005,100006,100007,91,90,0,90],[88]⟩,oM 88 6 3),(⟨[89,88,6],[78,79,80,81,82,83,84,85,86,87,88,89,90,91,100000,100001,100002,100003,100004,100005,100006,100007,91,90,0,90],[89]⟩,oB 89 .shl 3 (iK 1) (tK 88) 3 3),
 (⟨[90,87,89,0,89],[78,79,80,81,82,83,84,85,86,87,88,89,90,91,100000,100001,100002,100003,100004,100005,100006,100007,91,90,0,90],[90]⟩,oB 90 .andNot 3 (tK 87) (tK 89) 3 3),(⟨[100000,100001,100002,100003,100004,100005,100006,100007,91,84,85,0,5],[78,79,80,81,82,83,84,85,86,87,88,89,90,91,100000,100001,100002,100003,100004,100005,100006,100007,91,90,0,90],[91]⟩,oI 91 26 84 85),(⟨[100000,100001,100002,100003,100004,100005,100006,100007,91,90,0,90],[78,79,80,81,82,83,84,85,86,87,88,89,90,91,100000,100001,100002,100003,100004,100005,100006,100007,91,90,0,90],[100000,100001,100002,100003,100004,100005,100006,100007,91,90,0,90]⟩,oS 3 91 90)]) (.ops [oX 3 (.assign (.const (.bool true))) 4])) .skip))))) (.ops [oB 92 .add 3 (tK 31) (iK 1) 3 3,oM 31 92 3])))
def wY:SC:= .loop eG
def eH:SC:= .seq (.ops [oB 24 .lss 3 (tK 23) (tK 22) 3 0]) (.seq (.cond (tK 24) .skip (.exit 2)) (.seq (.block 3 (.seq (.ops [oM 25 23 3,oA 5 25 3]) (.seq (.ops [oM 26 0 91,oX 27 (.nilCheck (tK 26)) 0,oF 28 93 27 0,oF 29 34 28 0,oL 30 3 29 3,oX 31 (.move (iK 0)) 3]) (.block 4 wY)))) (.ops [oB 93 .add 3 (tK 23) (iK 1) 3 3,oM 23 93 3])))
def wZ:SC:= .loop eH
def eO:SC:= .seq (.ops [oB 13 .lss 3 (tK 12) (tK 11) 3 0]) (.seq (.cond (tK 13) .skip (.exit 0)) (.seq (.block 1 (.seq (.ops [oM 14 12 3,oA 4 14 3]) (.seq (.ops [oM 15 0 91,oX 16 (.nilCheck (tK 15)) 0,oF 17 93 16 2,oL 18 22 17 22,oM 19 4 3,oI 20 22 18 19,oL 21 26 20 26,oN 22 21 26,oX 23 (.move (iK 0)) 3]) (.block 2 wZ)))) (.ops [oB 94 .add 3 (tK 12) (iK 1) 3 3,oM 12 94 3])))
def wh:SC:= .loop eO
def k73:SC:= .seq (.ops [oX 2 (.assign (.const (.bool false))) 4]) (.seq (.ops [oX 3 (.assign (.const (.bool false))) 4]) (.seq (.seq (.ops [oM 7 0 91,oX 8 (.nilCheck (tK 7)) 0,oF 9 93 8 2,oL 10 22 9 22,oN 11 10 22,oX 12 (.move (iK 0)) 3]) (.block 0 wh)) (.seq (.ops [oM 95 3 4,oA 2 95 4]) .ret)))
theorem A5i:Tryz.f73.body.map (Bf lends)=some k73:=by kernel_rfl
theorem AIW:Bz Tryz.f73 1=true:=by kernel_rfl
theorem c73{a l:List D}{r:D×List D}(h:CF Y.env k73 (ES Ae l.length [ResultVar.tmp 2] r) (entry a l))(ha:a.length=1):Y.call 73 a l=some r:=
 Ab (Y:=Y) rfl Tryz.func73 (ha▸AIW) A5i h
def CE(t0_0:Int)(t0_1:Int)(t0_2:List (List Int))(t0_3:List (List Int))(t0_4:List (List (Int×Int)))(t0_5:List Int)(t0_6:List Int)(t0_7:List (List Int))(Bg:Int)(t100000_7:List (List Int))(K6:Int)(t3_2:Bool)(QW:Int)(t100000_72:List (List Int))(s:St):Prop:=(∃w_,s.v 0=D.vw [100000] (s.k 100000) w_)∧s.v 3=D.bool t3_2∧s.v 4=D.int .i64 Bg∧s.v 5=D.int .i64 K6∧s.v 11=D.int .i64 (t0_7.length:Int)∧s.v 12=D.int .i64 Bg∧s.v 22=D.int .i64 ((t100000_7.getD Bg.toNat default).length:Int)∧s.v 23=D.int .i64 K6∧s.v 30=D.int .i64 t0_0∧s.v 31=D.int .i64 QW∧s.v 100000=D.box [D.int .i64 t0_0,D.int .i64 t0_1,D.sl 26 (AL (fun x=>D.sl 3 (AL (D.int .i64) x)) t0_2),D.sl 26 (AL (fun x=>D.sl 3 (AL (D.int .i64) x)) t0_3),D.sl 79 (AL (fun x=>D.sl 87 (Ay .i64 .i64 x)) t0_4),D.sl 3 (AL (D.int .i64) t0_5),D.sl 3 (AL (D.int .i64) t0_6),D.own 26 (AL (fun x=>D.own 3 (AL (D.int .i64) x)) t100000_72)]
def GG(t0_0:Int)(t0_1:Int)(t0_2:List (List Int))(t0_3:List (List Int))(t0_4:List (List (Int×Int)))(t0_5:List Int)(t0_6:List Int)(t0_7:List (List Int))(Bg:Int)(t100000_7:List (List Int))(K6:Int)(r:Bool×(List (List Int)))(ex:Ex)(s:St):Prop:=ex= .exit 4∧(∃w_,s.v 0=D.vw [100000] (s.k 100000) w_)∧s.v 3=D.bool r.1∧s.v 4=D.int .i64 Bg∧s.v 11=D.int .i64 (t0_7.length:Int)∧s.v 12=D.int .i64 Bg∧s.v 22=D.int .i64 ((t100000_7.getD Bg.toNat default).length:Int)∧s.v 23=D.int .i64 K6∧s.v 100000=D.box [D.int .i64 t0_0,D.int .i64 t0_1,D.sl 26 (AL (fun x=>D.sl 3 (AL (D.int .i64) x)) t0_2),D.sl 26 (AL (fun x=>D.sl 3 (AL (D.int .i64) x)) t0_3),D.sl 79 (AL (fun x=>D.sl 87 (Ay .i64 .i64 x)) t0_4),D.sl 3 (AL (D.int .i64) t0_5),D.sl 3 (AL (D.int .i64) t0_6),D.own 26 (AL (fun x=>D.own 3 (AL (D.int .i64) x)) r.2)]
theorem Ph(t0_0:Int)(t0_1:Int)(t0_2:List (List Int))(t0_3:List (List Int))(t0_4:List (List (Int×Int)))(t0_5:List Int)(t0_6:List Int)(t0_7:List (List Int))(Bg:Int)(t100000_7:List (List Int))(K6:Int){v:Bool×Int×(List (List Int))}{s:St}{r:Bool×(List (List Int))}(h:IM t0_0 t0_1 t0_2 t0_3 t0_4 t0_5 t0_6 t0_7 Bg t100000_7 K6 v=some r)(hM:CE t0_0 t0_1 t0_2 t0_3 t0_4 t0_5 t0_6 t0_7 Bg t100000_7 K6 v.1 v.2.1 v.2.2 s):CF Y.env wY (GG t0_0 t0_1 t0_2 t0_3 t0_4 t0_5 t0_6 t0_7 Bg t100000_7 K6 r) s:=by
 unfold IM at h;refine BN (c:=eG) (fun v=>DV t0_0 t0_1 t0_2 t0_3 t0_4 t0_5 t0_6 t0_7 Bg t100000_7 K6 v.1 v.2.1 v.2.2) (fun v s=>CE t0_0 t0_1 t0_2 t0_3 t0_4 t0_5 t0_6 t0_7 Bg t100000_7 K6 v.1 v.2.1 v.2.2 s) (GG t0_0 t0_1 t0_2 t0_3 t0_4 t0_5 t0_6 t0_7 Bg t100000_7 K6) ?_ h hM;clear h hM s v r;intro v s o hM h;obtain⟨t3_2,QW,t100000_72⟩:=v;dsimp only at h hM;unfold DV at h;unfold CE at hM;obtain⟨⟨w0_,m0⟩,m1,m2,m3,m4,m5,m6,m7,m8,m9,m10⟩:=hM;unfold eG;rcases iS h with⟨e4,h⟩|⟨e4,h⟩
 ·obtain⟨e5,e6,e7,h⟩:=Oa h;rcases iS h with⟨e8,h⟩|⟨e8,h⟩
  ·obtain rfl:=Option.some.inj h
   simp (maxDischargeDepth:=9) only [↓AP,AQ,↓reduceIte,Nat.reduceEqDiff,Nat.reduceLT,m0,m1,m2,m3,m4,m5,m6,m7,m8,m9,m10,e4,e5.1,e5.2,e6.1,e6.2,e7,decide_eq_true e8,CE,GZ]<;>(repeat' apply A7)<;>first|rfl|exact⟨_,rfl⟩|exact⟨_,_,rfl⟩|simp [AL,BP]
  ·obtain⟨YN,hl9,h⟩:=Ag h;have c9:=NR t0_0 t0_1 t0_2 t0_3 t0_4 t0_5 t0_6 t100000_72 Bg K6 QW hl9;rcases iS h with⟨e10,h⟩|⟨e10,h⟩
   ·rcases iS h with⟨e11,h⟩|⟨e11,h⟩
    ·obtain⟨A5h,hl12,h⟩:=Ag h;have oD:=NS t0_0 t0_1 t0_2 t0_3 t0_4 t0_5 t0_6 t100000_72 Bg K6 QW hl12;rcases iS h with⟨e13,h⟩|⟨e13,h⟩
     ·obtain rfl:=Option.some.inj h
      simp (maxDischargeDepth:=9) only [↓AP,AQ,↓reduceIte,Nat.reduceEqDiff,Nat.reduceLT,Nat.reduceAdd,Nat.reduceBEq,m0,m1,m2,m3,m4,m5,m6,m7,m8,m9,m10,e4,e5.1,e5.2,e6.1,e6.2,e7,e8,c9,e10,decide_eq_true e11,oD,e13,CE,GZ]<;>(repeat' apply A7)<;>first|rfl|exact⟨_,rfl⟩|exact⟨_,_,rfl⟩|simp [AL,BP]
     ·have e13f:A5h=false:=Fx.mpr e13
      obtain rfl:=Option.some.inj h
      simp (maxDischargeDepth:=9) only [↓AP,AQ,↓reduceIte,Nat.reduceEqDiff,Nat.reduceLT,Nat.reduceAdd,Nat.reduceBEq,m0,m2,m3,m4,m5,m6,m7,m8,m9,m10,e4,e5.1,e5.2,e6.1,e6.2,e7,e8,c9,e10,decide_eq_true e11,oD,e13f,CE,GZ]<;>(repeat' apply A7)<;>first|rfl|exact⟨_,rfl⟩|exact⟨_,_,rfl⟩|simp [AL,BP]
    ·obtain rfl:=Option.some.inj h
     simp (maxDischargeDepth:=9) only [↓AP,AQ,↓reduceIte,Nat.reduceEqDiff,Nat.reduceLT,Nat.reduceAdd,Nat.reduceBEq,m0,m1,m2,m3,m4,m5,m6,m7,m8,m9,m10,e4,e5.1,e5.2,e6.1,e6.2,e7,e8,c9,e10,e11,CE,GZ]<;>(repeat' apply A7)<;>first|rfl|exact⟨_,rfl⟩|exact⟨_,_,rfl⟩|simp [AL,BP]
   ·have e10f:YN=false:=Fx.mpr e10
    obtain rfl:=Option.some.inj h
    simp (maxDischargeDepth:=9) only [↓AP,AQ,↓reduceIte,Nat.reduceEqDiff,Nat.reduceLT,Nat.reduceAdd,Nat.reduceBEq,m0,m2,m3,m4,m5,m6,m7,m8,m9,m10,e4,e5.1,e5.2,e6.1,e6.2,e7,e8,c9,e10f,CE,GZ]<;>(repeat' apply A7)<;>first|rfl|exact⟨_,rfl⟩|exact⟨_,_,rfl⟩|simp [AL,BP]
 ·obtain rfl:=Option.some.inj h
  simp (maxDischargeDepth:=9) only [↓AP,AQ,↓reduceIte,Nat.reduceEqDiff,Nat.reduceLT,m0,m1,m2,m4,m5,m6,m7,m8,m9,m10,e4,CE,GG,KW]<;>(repeat' apply A7)<;>first|rfl|exact⟨_,rfl⟩|exact⟨_,_,rfl⟩|simp [AL,BP]
def DY(t0_0:Int)(t0_1:Int)(t0_2:List (List Int))(t0_3:List (List Int))(t0_4:List (List (Int×Int)))(t0_5:List Int)(t0_6:List Int)(t0_7:List (List Int))(Bg:Int)(t100000_7:List (List Int))(t3_1:Bool)(K6:Int)(t100000_71:List (List Int))(s:St):Prop:=(∃w_,s.v 0=D.vw [100000] (s.k 100000) w_)∧s.v 3=D.bool t3_1∧s.v 4=D.int .i64 Bg∧s.v 11=D.int .i64 (t0_7.length:Int)∧s.v 12=D.int .i64 Bg∧s.v 22=D.int .i64 ((t100000_7.getD Bg.toNat default).length:Int)∧s.v 23=D.int .i64 K6∧s.v 100000=D.box [D.int .i64 t0_0,D.int .i64 t0_1,D.sl 26 (AL (fun x=>D.sl 3 (AL (D.int .i64) x)) t0_2),D.sl 26 (AL (fun x=>D.sl 3 (AL (D.int .i64) x)) t0_3),D.sl 79 (AL (fun x=>D.sl 87 (Ay .i64 .i64 x)) t0_4),D.sl 3 (AL (D.int .i64) t0_5),D.sl 3 (AL (D.int .i64) t0_6),D.own 26 (AL (fun x=>D.own 3 (AL (D.int .i64) x)) t100000_71)]
def GH(t0_0:Int)(t0_1:Int)(t0_2:List (List Int))(t0_3:List (List Int))(t0_4:List (List (Int×Int)))(t0_5:List Int)(t0_6:List Int)(t0_7:List (List Int))(Bg:Int)(t100000_7:List (List Int))(r:Bool×(List (List Int)))(ex:Ex)(s:St):Prop:=ex= .exit 2∧(∃w_,s.v 0=D.vw [100000] (s.k 100000) w_)∧s.v 3=D.bool r.1∧s.v 11=D.int .i64 (t0_7.length:Int)∧s.v 12=D.int .i64 Bg∧s.v 100000=D.box [D.int .i64 t0_0,D.int .i64 t0_1,D.sl 26 (AL (fun x=>D.sl 3 (AL (D.int .i64) x)) t0_2),D.sl 26 (AL (fun x=>D.sl 3 (AL (D.int .i64) x)) t0_3),D.sl 79 (AL (fun x=>D.sl 87 (Ay .i64 .i64 x)) t0_4),D.sl 3 (AL (D.int .i64) t0_5),D.sl 3 (AL (D.int .i64) t0_6),D.own 26 (AL (fun x=>D.own 3 (AL (D.int .i64) x)) r.2)]
theorem Pi(t0_0:Int)(t0_1:Int)(t0_2:List (List Int))(t0_3:List (List Int))(t0_4:List (List (Int×Int)))(t0_5:List Int)(t0_6:List Int)(t0_7:List (List Int))(Bg:Int)(t100000_7:List (List Int)){v:Bool×Int×(List (List Int))}{s:St}{r:Bool×(List (List Int))}(h:IP t0_0 t0_1 t0_2 t0_3 t0_4 t0_5 t0_6 t0_7 Bg t100000_7 v=some r)(hM:DY t0_0 t0_1 t0_2 t0_3 t0_4 t0_5 t0_6 t0_7 Bg t100000_7 v.1 v.2.1 v.2.2 s):CF Y.env wZ (GH t0_0 t0_1 t0_2 t0_3 t0_4 t0_5 t0_6 t0_7 Bg t100000_7 r) s:=by
 unfold IP at h;refine BN (c:=eH) (fun v=>DW t0_0 t0_1 t0_2 t0_3 t0_4 t0_5 t0_6 t0_7 Bg t100000_7 v.1 v.2.1 v.2.2) (fun v s=>DY t0_0 t0_1 t0_2 t0_3 t0_4 t0_5 t0_6 t0_7 Bg t100000_7 v.1 v.2.1 v.2.2 s) (GH t0_0 t0_1 t0_2 t0_3 t0_4 t0_5 t0_6 t0_7 Bg t100000_7) ?_ h hM;clear h hM s v r;intro v s o hM h;obtain⟨t3_1,K6,t100000_71⟩:=v;dsimp only at h hM;unfold DW at h;unfold DY at hM;obtain⟨⟨w0_,m0⟩,m1,m2,m3,m4,m5,m6,m7⟩:=hM;unfold eH;rcases iS h with⟨e3,h⟩|⟨e3,h⟩
 ·obtain⟨AY,hl5,h⟩:=Ag h;try dsimp only at h
  simp (maxDischargeDepth:=9) only [↓AP,AQ,↓reduceIte,Nat.reduceEqDiff,Nat.reduceLT,m0,m5,m6,m7,e3];refine Av (Ph t0_0 t0_1 t0_2 t0_3 t0_4 t0_5 t0_6 t0_7 Bg t100000_7 K6 hl5 ?_) ?_
  ·simp (maxDischargeDepth:=9) only [C9,↓reduceIte,Nat.reduceEqDiff,m0,m1,m2,m3,m4,m5,m6,m7,CE]<;>(repeat' apply A7)<;>first|rfl|exact⟨_,rfl⟩|exact⟨_,_,rfl⟩|simp [AL,BP]
  ·intro ex5 s5 hX5;unfold GG at hX5;obtain⟨rfl,⟨w0_,n5_0⟩,n5_1,n5_2,n5_3,n5_4,n5_5,n5_6,n5_7⟩:=hX5
   obtain rfl:=Option.some.inj h
   simp (maxDischargeDepth:=9) only [↓AP,AQ,↓reduceIte,Nat.reduceEqDiff,Nat.reduceLT,n5_0,n5_1,n5_2,n5_3,n5_4,n5_5,n5_6,n5_7,DY,GZ]<;>(repeat' apply A7)<;>first|rfl|exact⟨_,rfl⟩|exact⟨_,_,rfl⟩|simp [AL,BP]
 ·obtain rfl:=Option.some.inj h
  simp (maxDischargeDepth:=9) only [↓AP,AQ,↓reduceIte,Nat.reduceEqDiff,Nat.reduceLT,m0,m1,m3,m4,m5,m6,m7,e3,DY,GH,KW]<;>(repeat' apply A7)<;>first|rfl|exact⟨_,rfl⟩|exact⟨_,_,rfl⟩|simp [AL,BP]
def DZ(t0_0:Int)(t0_1:Int)(t0_2:List (List Int))(t0_3:List (List Int))(t0_4:List (List (Int×Int)))(t0_5:List Int)(t0_6:List Int)(t0_7:List (List Int))(Ga:Bool)(Bg:Int)(t100000_7:List (List Int))(s:St):Prop:=(∃w_,s.v 0=D.vw [100000] (s.k 100000) w_)∧s.v 3=D.bool Ga∧s.v 11=D.int .i64 (t0_7.length:Int)∧s.v 12=D.int .i64 Bg∧s.v 100000=D.box [D.int .i64 t0_0,D.int .i64 t0_1,D.sl 26 (AL (fun x=>D.sl 3 (AL (D.int .i64) x)) t0_2),D.sl 26 (AL (fun x=>D.sl 3 (AL (D.int .i64) x)) t0_3),D.sl 79 (AL (fun x=>D.sl 87 (Ay .i64 .i64 x)) t0_4),D.sl 3 (AL (D.int .i64) t0_5),D.sl 3 (AL (D.int .i64) t0_6),D.own 26 (AL (fun x=>D.own 3 (AL (D.int .i64) x)) t100000_7)]
def GI(t0_0:Int)(t0_1:Int)(t0_2:List (List Int))(t0_3:List (List Int))(t0_4:List (List (Int×Int)))(t0_5:List Int)(t0_6:List Int)(t0_7:List (List Int))(r:Bool×(List (List Int)))(ex:Ex)(s:St):Prop:=ex= .exit 0∧s.v 3=D.bool r.1∧s.v 100000=D.box [D.int .i64 t0_0,D.int .i64 t0_1,D.sl 26 (AL (fun x=>D.sl 3 (AL (D.int .i64) x)) t0_2),D.sl 26 (AL (fun x=>D.sl 3 (AL (D.int .i64) x)) t0_3),D.sl 79 (AL (fun x=>D.sl 87 (Ay .i64 .i64 x)) t0_4),D.sl 3 (AL (D.int .i64) t0_5),D.sl 3 (AL (D.int .i64) t0_6),D.own 26 (AL (fun x=>D.own 3 (AL (D.int .i64) x)) r.2)]
theorem Pj(t0_0:Int)(t0_1:Int)(t0_2:List (List Int))(t0_3:List (List Int))(t0_4:List (List (Int×Int)))(t0_5:List Int)(t0_6:List Int)(t0_7:List (List Int)){v:Bool×Int×(List (List Int))}{s:St}{r:Bool×(List (List Int))}(h:IQ t0_0 t0_1 t0_2 t0_3 t0_4 t0_5 t0_6 t0_7 v=some r)(hM:DZ t0_0 t0_1 t0_2 t0_3 t0_4 t0_5 t0_6 t0_7 v.1 v.2.1 v.2.2 s):CF Y.env wh (GI t0_0 t0_1 t0_2 t0_3 t0_4 t0_5 t0_6 t0_7 r) s:=by
 unfold IQ at h;refine BN (c:=eO) (fun v=>DX t0_0 t0_1 t0_2 t0_3 t0_4 t0_5 t0_6 t0_7 v.1 v.2.1 v.2.2) (fun v s=>DZ t0_0 t0_1 t0_2 t0_3 t0_4 t0_5 t0_6 t0_7 v.1 v.2.1 v.2.2 s) (GI t0_0 t0_1 t0_2 t0_3 t0_4 t0_5 t0_6 t0_7) ?_ h hM;clear h hM s v r;intro v s o hM h;obtain⟨Ga,Bg,t100000_7⟩:=v;dsimp only at h hM;unfold DX at h;unfold DZ at hM;obtain⟨⟨w0_,m0⟩,m1,m2,m3,m4⟩:=hM;unfold eO;rcases iS h with⟨e1,h⟩|⟨e1,h⟩
 ·obtain⟨e2,h⟩:=FK h;obtain⟨Ec,hl4,h⟩:=Ag h;try dsimp only at h
  simp (maxDischargeDepth:=9) only [↓AP,AQ,↓reduceIte,Nat.reduceEqDiff,Nat.reduceLT,m0,m2,m3,m4,e1,e2.1,e2.2];refine Av (Pi t0_0 t0_1 t0_2 t0_3 t0_4 t0_5 t0_6 t0_7 Bg t100000_7 hl4 ?_) ?_
  ·simp (maxDischargeDepth:=9) only [C9,↓reduceIte,Nat.reduceEqDiff,m0,m1,m2,m3,m4,DY]<;>(repeat' apply A7)<;>first|rfl|exact⟨_,rfl⟩|exact⟨_,_,rfl⟩|simp [AL,BP]
  ·intro ex4 s4 hX4;unfold GH at hX4;obtain⟨rfl,⟨w0_,n4_0⟩,n4_1,n4_2,n4_3,n4_4⟩:=hX4
   obtain rfl:=Option.some.inj h
   simp (maxDischargeDepth:=9) only [↓AP,AQ,↓reduceIte,Nat.reduceEqDiff,Nat.reduceLT,n4_0,n4_1,n4_2,n4_3,n4_4,DZ,GZ]<;>(repeat' apply A7)<;>first|rfl|exact⟨_,rfl⟩|exact⟨_,_,rfl⟩|simp [AL,BP]
 ·obtain rfl:=Option.some.inj h
  simp (maxDischargeDepth:=9) only [↓AP,AQ,↓reduceIte,Nat.reduceEqDiff,Nat.reduceLT,m1,m2,m3,m4,e1,DZ,GI,KW]
theorem QX(t0_0:Int)(t0_1:Int)(t0_2:List (List Int))(t0_3:List (List Int))(t0_4:List (List (Int×Int)))(t0_5:List Int)(t0_6:List Int)(t0_7:List (List Int)){r:Bool×Int×Int×(List (List Int))×(List (List Int))×(List (List (Int×Int)))×(List Int)×(List Int)×(List (List Int))}(h:Ic t0_0 t0_1 t0_2 t0_3 t0_4 t0_5 t0_6 t0_7=some r):Y.call 73 [D.vw [100000] 0 0] [D.box [D.int .i64 t0_0,D.int .i64 t0_1,D.sl 26 (AL (fun x=>D.sl 3 (AL (D.int .i64) x)) t0_2),D.sl 26 (AL (fun x=>D.sl 3 (AL (D.int .i64) x)) t0_3),D.sl 79 (AL (fun x=>D.sl 87 (Ay .i64 .i64 x)) t0_4),D.sl 3 (AL (D.int .i64) t0_5),D.sl 3 (AL (D.int .i64) t0_6),D.own 26 (AL (fun x=>D.own 3 (AL (D.int .i64) x)) t0_7)]]=some (D.bool r.1,[D.box [D.int .i64 r.2.1,D.int .i64 r.2.2.1,D.sl 26 (AL (fun x=>D.sl 3 (AL (D.int .i64) x)) r.2.2.2.1),D.sl 26 (AL (fun x=>D.sl 3 (AL (D.int .i64) x)) r.2.2.2.2.1),D.sl 79 (AL (fun x=>D.sl 87 (Ay .i64 .i64 x)) r.2.2.2.2.2.1),D.sl 3 (AL (D.int .i64) r.2.2.2.2.2.2.1),D.sl 3 (AL (D.int .i64) r.2.2.2.2.2.2.2.1),D.own 26 (AL (fun x=>D.own 3 (AL (D.int .i64) x)) r.2.2.2.2.2.2.2.2)]]):=by
 refine c73 ?_ rfl;unfold k73;unfold Ic at h;obtain⟨CK,hl2,h⟩:=Ag h;try dsimp only at h
 simp (maxDischargeDepth:=9) only [↓AP,AQ,↓reduceIte,Nat.reduceEqDiff,Nat.reduceLT,Nat.reduceAdd,Nat.reduceSub];refine Av (Pj t0_0 t0_1 t0_2 t0_3 t0_4 t0_5 t0_6 t0_7 hl2 ?_) ?_
 ·simp (maxDischargeDepth:=9) only [C9,DK,↓reduceIte,Nat.reduceEqDiff,Nat.reduceLT,Nat.reduceSub,DZ]<;>(repeat' apply A7)<;>first|rfl|exact⟨_,rfl⟩|exact⟨_,_,rfl⟩|simp [AL,BP]
 ·intro ex2 s2 hX2;unfold GI at hX2;obtain⟨rfl,n2_0,n2_1⟩:=hX2
  obtain rfl:=Option.some.inj h
  simp (maxDischargeDepth:=9) only [↓AP,AQ,↓reduceIte,Nat.reduceEqDiff,Nat.reduceLT,n2_0,n2_1]
noncomputable def F4(A9:Int)(AC:Int)(AJ:List (List Int))(AB:List (List Int))(AO:List (List (Int×Int)))(Aa:List Int)(A8:List Int)(Cf:List (List Int))(FZ:Int)(t8_71:List (List Int))(Om:Int):Option (((List (List Int))×Int)⊕((List (List Int)))):= if Om<((Cf.getD FZ.toNat default).length:Int)then ck (0≤Om∧Om.toNat<(Cf.getD FZ.toNat default).length)<| ck (0≤FZ∧FZ.toNat<t8_71.length)<| ck (¬A9<0)<| ck (0≤Om∧Om.toNat<(t8_71.getD FZ.toNat default).length)<| if 0≤((Cf.getD FZ.toNat default).getD Om.toNat default)then ck (¬((Cf.getD FZ.toNat default).getD Om.toNat default)<0)<| ck (0≤Om∧Om.toNat<((t8_71.set FZ.toNat ((t8_71.getD FZ.toNat default).set Om.toNat (IntKind.i64.wrap ((IntKind.i64.wrap (1*2 ^ (min A9.toNat (IntKind.i64.bits))))-1)))).getD FZ.toNat default).length)<| some (Sum.inl (((t8_71.set FZ.toNat ((t8_71.getD FZ.toNat default).set Om.toNat (IntKind.i64.wrap ((IntKind.i64.wrap (1*2 ^ (min A9.toNat (IntKind.i64.bits))))-1)))).set FZ.toNat (((t8_71.set FZ.toNat ((t8_71.getD FZ.toNat default).set Om.toNat (IntKind.i64.wrap ((IntKind.i64.wrap (1*2 ^ (min A9.toNat (IntKind.i64.bits))))-1)))).getD FZ.toNat default).set Om.toNat (IntKind.i64.wrap (1*2 ^ (min ((Cf.getD FZ.toNat default).getD Om.toNat default).toNat (IntKind.i64.bits)))))),IntKind.i64.wrap (Om+1)))
 else some (Sum.inl ((t8_71.set FZ.toNat ((t8_71.getD FZ.toNat default).set Om.toNat (IntKind.i64.wrap ((IntKind.i64.wrap (1*2 ^ (min A9.toNat (IntKind.i64.bits))))-1)))),IntKind.i64.wrap (Om+1))) else some (Sum.inr t8_71)
noncomputable def JU(A9:Int)(AC:Int)(AJ:List (List Int))(AB:List (List Int))(AO:List (List (Int×Int)))(Aa:List Int)(A8:List Int)(Cf:List (List Int))(FZ:Int)(v:(List (List Int))×Int):Option ((List (List Int))):=I4 (fun v=>F4 A9 AC AJ AB AO Aa A8 Cf FZ v.1 v.2) v
noncomputable def F5(A9:Int)(AC:Int)(AJ:List (List Int))(AB:List (List Int))(AO:List (List (Int×Int)))(Aa:List Int)(A8:List Int)(Cf:List (List Int))(t8_7:List (List Int))(FZ:Int):Option (((List (List Int))×Int)⊕((List (List Int)))):= if FZ<(Cf.length:Int)then ck (0≤FZ∧FZ.toNat<Cf.length)<| (JU A9 AC AJ AB AO Aa A8 Cf FZ (t8_7,0)).bind fun AY=> some (Sum.inl (AY,IntKind.i64.wrap (FZ+1))) else some (Sum.inr t8_7)
noncomputable def JV(A9:Int)(AC:Int)(AJ:List (List Int))(AB:List (List Int))(AO:List (List (Int×Int)))(Aa:List Int)(A8:List Int)(Cf:List (List Int))(v:(List (List Int))×Int):Option ((List (List Int))):=I4 (fun v=>F5 A9 AC AJ AB AO Aa A8 Cf v.1 v.2) v
noncomputable def Hf(t8_0:Int)(t8_1:Int)(t8_2:List (List Int))(t8_3:List (List Int))(t8_4:List (List (Int×Int)))(t8_5:List Int)(t8_6:List Int)(t8_7:List (List Int)):Option ((Int×Int×(List (List Int))×(List (List Int))×(List (List (Int×Int)))×(List Int)×(List Int)×(List (List Int)))⊕(Int×Int×(List (List Int))×(List (List Int))×(List (List (Int×Int)))×(List Int)×(List Int)×(List (List Int)))):= (Ic t8_0 t8_1 t8_2 t8_3 t8_4 t8_5 t8_6 t8_7).bind fun PU=> if PU.1=true then some (Sum.inl (PU.2.1,PU.2.2.1,PU.2.2.2.1,PU.2.2.2.2.1,PU.2.2.2.2.2.1,PU.2.2.2.2.2.2.1,PU.2.2.2.2.2.2.2.1,PU.2.2.2.2.2.2.2.2)) else some (Sum.inr (PU.2.1,PU.2.2.1,PU.2.2.2.1,PU.2.2.2.2.1,PU.2.2.2.2.2.1,PU.2.2.2.2.2.2.1,PU.2.2.2.2.2.2.2.1,PU.2.2.2.2.2.2.2.2))
noncomputable def Hg(v:Int×Int×(List (List Int))×(List (List Int))×(List (List (Int×Int)))×(List Int)×(List Int)×(List (List Int))):Option (Int×Int×(List (List Int))×(List (List Int))×(List (List (Int×Int)))×(List Int)×(List Int)×(List (List Int))):=I4 (fun v=>Hf v.1 v.2.1 v.2.2.1 v.2.2.2.1 v.2.2.2.2.1 v.2.2.2.2.2.1 v.2.2.2.2.2.2.1 v.2.2.2.2.2.2.2) v
noncomputable def F6(CK:Int×Int×(List (List Int))×(List (List Int))×(List (List (Int×Int)))×(List Int)×(List Int)×(List (List Int)))(YO:Int):Option ((Int)⊕(Unit⊕Unit)):= if YO<(CK.2.2.2.2.2.2.2.length:Int)then ck (0≤YO∧YO.toNat<CK.2.2.2.2.2.2.2.length)<| ck ((CK.2.2.2.2.2.2.2.getD YO.toNat default).length<1099511627776)<| if((CK.2.2.2.2.2.2.2.getD YO.toNat default).contains (0:Int))=true then some (Sum.inr (Sum.inl ())) else some (Sum.inl (IntKind.i64.wrap (YO+1))) else some (Sum.inr (Sum.inr ()))
noncomputable def Ky(CK:Int×Int×(List (List Int))×(List (List Int))×(List (List (Int×Int)))×(List Int)×(List Int)×(List (List Int)))(v:Int):Option (Unit⊕Unit):=I4 (fun v=>F6 CK v) v
noncomputable def MH(A9:Int)(AC:Int)(AJ:List (List Int))(AB:List (List Int))(AO:List (List (Int×Int)))(Aa:List Int)(A8:List Int)(Cf:List (List Int)):Option ((List (List Int))×Bool):=
 (MF Cf).bind fun mq=>
 (JV A9 AC AJ AB AO Aa A8 Cf (mq,0)).bind fun Ec=>
 (Hg (A9,AC,AJ,AB,AO,Aa,A8,Ec)).bind fun CK=>
 (Ky CK 0).bind fun UO=>
 match UO with
 | .inl q1003_=>
  some ([],false)
 | .inr q1003_=>
  some (CK.2.2.2.2.2.2.2,true)
def eP:SC:= .seq (.ops [oB 31 .lss 3 (tK 30) (tK 29) 3 0]) (.seq (.cond (tK 31) .skip (.exit 2)) (.seq (.block 3 (.seq (.ops [oM 32 30 3,oI 33 26 28 30,oL 34 3 33 3,oA 10 32 3,oA 11 34 3]) (.seq (.draws [(⟨[35,8,8],[35,36,37,38,39,40,41,42,43,44,45,46,47,47,46,8,46],[35]⟩,oM 35 8 91),(⟨[36,35,8],[35,36,37,38,39,40,41,42,43,44,45,46,47,47,46,8,46],[36]⟩,oX 36 (.nilCheck (tK 35)) 0),(⟨[37,36,8],[35,36,37,38,39,40,41,42,43,44,45,46,47,47,46,8,46],[37]⟩,oF 37 93 36 2),(⟨[38,37,8],[35,36,37,38,39,40,41,42,43,44,45,46,47,47,46,8,46],[38]⟩,oL 38 22 37 22),(⟨[39,9,9],[35,36,37,38,39,40,41,42,43,44,45,46,47,47,46,8,46],[39]⟩,oM 39 9 3),(⟨[40,38,39,8,9],[35,36,37,38,39,40,41,42,43,44,45,46,47,47,46,8,46],[40]⟩,oI 40 22 38 39),(⟨[41,40,8],[35,36,37,38,39,40,41,42,43,44,45,46,47,47,46,8,46],[41]⟩,oL 41 26 40 26),(⟨[42,10,10],[35,36,37,38,39,40,41,42,43,44,45,46,47,47,46,8,46],[42]⟩,oM 42 10 3),(⟨[43,3,3],[35,36,37,38,39,40,41,42,43,44,45,46,47,47,46,8,46],[43]⟩,oF 43 34 3 0),(⟨[44,43,3],[35,36,37,38,39,40,41,42,43,44,45,46,47,47,46,8,46],[44]⟩,oL 44 3 43 3),(⟨[45,44,3],[35,36,37,38,39,40,41,42,43,44,45,46,47,47,46,8,46],[45]⟩,oB 45 .shl 3 (iK 1) (tK 44) 3 3),(⟨[46,45,45],[35,36,37,38,39,40,41,42,43,44,45,46,47,47,46,8,46],[46]⟩,oB 46 .sub 3 (tK 45) (iK 1) 3 3),
 (⟨[47,41,42,8,10],[35,36,37,38,39,40,41,42,43,44,45,46,47,47,46,8,46],[47]⟩,oI 47 26 41 42),(⟨[47,46,8,46],[35,36,37,38,39,40,41,42,43,44,45,46,47,47,46,8,46],[47,46,8,46]⟩,oS 3 47 46)]) (.seq (.ops [oM 48 11 3,oB 49 .geq 3 (tK 48) (iK 0) 3 4]) (.cond (tK 49) (.draws [(⟨[50,8,8],[50,51,52,53,54,55,56,57,58,59,60,60,59,8,59],[50]⟩,oM 50 8 91),(⟨[51,50,8],[50,51,52,53,54,55,56,57,58,59,60,60,59,8,59],[51]⟩,oX 51 (.nilCheck (tK 50)) 0),(⟨[52,51,8],[50,51,52,53,54,55,56,57,58,59,60,60,59,8,59],[52]⟩,oF 52 93 51 2),(⟨[53,52,8],[50,51,52,53,54,55,56,57,58,59,60,60,59,8,59],[53]⟩,oL 53 22 52 22),(⟨[54,9,9],[50,51,52,53,54,55,56,57,58,59,60,60,59,8,59],[54]⟩,oM 54 9 3),(⟨[55,53,54,8,9],[50,51,52,53,54,55,56,57,58,59,60,60,59,8,59],[55]⟩,oI 55 22 53 54),(⟨[56,55,8],[50,51,52,53,54,55,56,57,58,59,60,60,59,8,59],[56]⟩,oL 56 26 55 26),(⟨[57,10,10],[50,51,52,53,54,55,56,57,58,59,60,60,59,8,59],[57]⟩,oM 57 10 3),(⟨[58,11,11],[50,51,52,53,54,55,56,57,58,59,60,60,59,8,59],[58]⟩,oM 58 11 3),(⟨[59,58,11],[50,51,52,53,54,55,56,57,58,59,60,60,59,8,59],[59]⟩,oB 59 .shl 3 (iK 1) (tK 58) 3 3),(⟨[60,56,57,8,10],[50,51,52,53,54,55,56,57,58,59,60,60,59,8,59],[60]⟩,oI 60 26 56 57),(⟨[60,59,8,59],[50,51,52,53,54,55,56,57,58,59,60,60,59,8,59],[60,59,8,59]⟩,oS 3 60 59)])
 .skip))))) (.ops [oB 61 .add 3 (tK 30) (iK 1) 3 3,oM 30 61 3])))
def wm:SC:= .loop eP
def eQ:SC:= .seq (.ops [oB 23 .lss 3 (tK 22) (tK 21) 3 0]) (.seq (.cond (tK 23) .skip (.exit 0)) (.seq (.block 1 (.seq (.ops [oM 24 22 3,oA 9 24 3]) (.seq (.ops [oM 25 2 22,oM 26 9 3,oI 27 22 25 26,oL 28 26 27 26,oN 29 28 26,oX 30 (.move (iK 0)) 3]) (.block 2 wm)))) (.ops [oB 62 .add 3 (tK 22) (iK 1) 3 3,oM 22 62 3])))
def wo:SC:= .loop eQ
def eT:SC:= .seq (.seq (.ops [oM 63 8 91,oC 64 73 [(tK 63)] [91] 4]) (.cond (tK 64) .skip (.exit 4))) (.block 5 .skip)
def wu:SC:= .loop eT
def eU:SC:= .seq (.ops [oB 71 .lss 3 (tK 70) (tK 69) 3 0]) (.seq (.cond (tK 71) .skip (.exit 6)) (.seq (.block 7 (.seq (.ops [oI 72 22 68 70,oL 73 26 72 26,oA 13 73 26]) (.seq (.ops [oM 74 13 26,oC 75 74 [(tK 74),(iK 0)] [26,3] 4]) (.cond (tK 75) (.seq (.ops [oX 6 (.assign (.const (.slice none 0 0))) 22,oX 7 (.assign (.const (.bool false))) 4]) .ret) .skip)))) (.ops [oB 76 .add 3 (tK 70) (iK 1) 3 3,oM 70 76 3])))
def ww:SC:= .loop eU
def k42:SC:= .seq (.ops [oX 3 (.box 34 (tK 0)) 0,oX 4 (.box 38 (tK 1)) 0,oX 6 (.assign (.const (.slice none 0 0))) 22,oX 7 (.assign (.const (.bool false))) 4]) (.seq (.draws [(⟨[14,3,3],[14,15,16,17,18,14,15,17,3,4,17,19,18,18,8,19,19],[14]⟩,oL 14 34 3 34),(⟨[15,4,4],[14,15,16,17,18,14,15,17,3,4,17,19,18,18,8,19,19],[15]⟩,oL 15 38 4 38),(⟨[16,2,2],[14,15,16,17,18,14,15,17,3,4,17,19,18,18,8,19,19],[16]⟩,oM 16 2 22),(⟨[17,16,2],[14,15,16,17,18,14,15,17,3,4,17,19,18,18,8,19,19],[17]⟩,oC 17 72 [(tK 16)] [22] 22),(⟨[18,14,15,17,3,4,17],[14,15,16,17,18,14,15,17,3,4,17,19,18,18,8,19,19],[18,14,15,17,3,4,17]⟩,oX 18 (.build 93 #[(0,(tK 14)),(1,(tK 15)),(2,(tK 17))]) 93),(⟨[19,18,18],[14,15,16,17,18,14,15,17,3,4,17,19,18,18,8,19,19],[19,18,18]⟩,oX 19 (.box 93 (tK 18)) 91),(⟨[8,19,19],[14,15,16,17,18,14,15,17,3,4,17,19,18,18,8,19,19],[8,19,19]⟩,oA 8 19 91)]) (.seq (.seq (.ops [oM 20 2 22,oN 21 20 22,oX 22 (.move (iK 0)) 3]) (.block 0 wo)) (.seq (.block 4 wu) (.seq (.seq (.ops [oM 65 8 91,oX 66 (.nilCheck (tK 65)) 0,oF 67 93 66 2,oL 68 22 67 22,oN 69 68 22,oX 70 (.move (iK 0)) 3]) (.block 6 ww)) (.seq (.ops [oM 77 8 91,oX 78 (.nilCheck (tK 77)) 0,oF 79 93 78 2,oL 80 22 79 22,
 oA 6 80 22,oX 7 (.assign (.const (.bool true))) 4]) .ret)))))
theorem A5j:Tryz.f42.body.map (Bf lends)=some k42:=by kernel_rfl
theorem AIY:Bz Tryz.f42 3=true:=by kernel_rfl
theorem wy{a l:List D}{r:D×List D}(h:CF Y.env k42 (ES Ae l.length [ResultVar.tmp 6,ResultVar.tmp 7] r) (entry a l))(ha:a.length=3):Y.call 42 a l=some r:=
 Ab (Y:=Y) rfl Tryz.func42 (ha▸AIY) A5j h
def EC(A9:Int)(AC:Int)(AJ:List (List Int))(AB:List (List Int))(AO:List (List (Int×Int)))(Aa:List Int)(A8:List Int)(Cf:List (List Int))(FZ:Int)(t8_71:List (List Int))(Om:Int)(s:St):Prop:=s.v 2=D.sl 26 (AL (fun x=>D.sl 3 (AL (D.int .i64) x)) Cf)∧s.v 3=D.box [D.int .i64 A9,D.int .i64 AC,D.sl 26 (AL (fun x=>D.sl 3 (AL (D.int .i64) x)) AJ),D.sl 26 (AL (fun x=>D.sl 3 (AL (D.int .i64) x)) AB)]∧s.v 8=D.box [D.int .i64 A9,D.int .i64 AC,D.sl 26 (AL (fun x=>D.sl 3 (AL (D.int .i64) x)) AJ),D.sl 26 (AL (fun x=>D.sl 3 (AL (D.int .i64) x)) AB),D.sl 79 (AL (fun x=>D.sl 87 (Ay .i64 .i64 x)) AO),D.sl 3 (AL (D.int .i64) Aa),D.sl 3 (AL (D.int .i64) A8),D.own 26 (AL (fun x=>D.own 3 (AL (D.int .i64) x)) t8_71)]∧s.v 9=D.int .i64 FZ∧s.v 21=D.int .i64 (Cf.length:Int)∧s.v 22=D.int .i64 FZ∧s.v 28=D.sl 3 (AL (D.int .i64) (Cf.getD FZ.toNat default))∧s.v 29=D.int .i64 ((Cf.getD FZ.toNat default).length:Int)∧s.v 30=D.int .i64 Om
def Jt(A9:Int)(AC:Int)(AJ:List (List Int))(AB:List (List Int))(AO:List (List (Int×Int)))(Aa:List Int)(A8:List Int)(Cf:List (List Int))(FZ:Int)(r:(List (List Int)))(ex:Ex)(s:St):Prop:=ex= .exit 2∧s.v 2=D.sl 26 (AL (fun x=>D.sl 3 (AL (D.int .i64) x)) Cf)∧s.v 3=D.box [D.int .i64 A9,D.int .i64 AC,D.sl 26 (AL (fun x=>D.sl 3 (AL (D.int .i64) x)) AJ),D.sl 26 (AL (fun x=>D.sl 3 (AL (D.int .i64) x)) AB)]∧s.v 8=D.box [D.int .i64 A9,D.int .i64 AC,D.sl 26 (AL (fun x=>D.sl 3 (AL (D.int .i64) x)) AJ),D.sl 26 (AL (fun x=>D.sl 3 (AL (D.int .i64) x)) AB),D.sl 79 (AL (fun x=>D.sl 87 (Ay .i64 .i64 x)) AO),D.sl 3 (AL (D.int .i64) Aa),D.sl 3 (AL (D.int .i64) A8),D.own 26 (AL (fun x=>D.own 3 (AL (D.int .i64) x)) r)]∧s.v 21=D.int .i64 (Cf.length:Int)∧s.v 22=D.int .i64 FZ
theorem TS(A9:Int)(AC:Int)(AJ:List (List Int))(AB:List (List Int))(AO:List (List (Int×Int)))(Aa:List Int)(A8:List Int)(Cf:List (List Int))(FZ:Int){v:(List (List Int))×Int}{s:St}{r:(List (List Int))}(h:JU A9 AC AJ AB AO Aa A8 Cf FZ v=some r)(hM:EC A9 AC AJ AB AO Aa A8 Cf FZ v.1 v.2 s):CF Y.env wm (Jt A9 AC AJ AB AO Aa A8 Cf FZ r) s:=by
 unfold JU at h;refine BN (c:=eP) (fun v=>F4 A9 AC AJ AB AO Aa A8 Cf FZ v.1 v.2) (fun v s=>EC A9 AC AJ AB AO Aa A8 Cf FZ v.1 v.2 s) (Jt A9 AC AJ AB AO Aa A8 Cf FZ) ?_ h hM;clear h hM s v r;intro v s o hM h;obtain⟨t8_71,Om⟩:=v;dsimp only at h hM;unfold F4 at h;unfold EC at hM;obtain⟨m0,m1,m2,m3,m4,m5,m6,m7,m8⟩:=hM;unfold eP;rcases iS h with⟨e4,h⟩|⟨e4,h⟩
 ·obtain⟨e5,e6,e7,e8,h⟩:=yl h;rcases iS h with⟨e9,h⟩|⟨e9,h⟩
  ·obtain⟨e10,e11,h⟩:=Ei h
   obtain rfl:=Option.some.inj h
   simp (maxDischargeDepth:=9) only [↓AP,AQ,↓reduceIte,Nat.reduceEqDiff,Nat.reduceLT,Nat.reduceBEq,m0,m1,m2,m3,m4,m5,m6,m7,m8,e4,e5.1,e5.2,e6.1,e6.2,e7,e8.2,e9,e10,e11.2,EC,GZ]
  ·obtain rfl:=Option.some.inj h
   simp (maxDischargeDepth:=9) only [↓AP,AQ,↓reduceIte,Nat.reduceEqDiff,Nat.reduceLT,Nat.reduceBEq,m0,m1,m2,m3,m4,m5,m6,m7,m8,e4,e5.1,e5.2,e6.1,e6.2,e7,e8.2,e9,EC,GZ]
 ·obtain rfl:=Option.some.inj h
  simp (maxDischargeDepth:=9) only [↓AP,AQ,↓reduceIte,Nat.reduceEqDiff,Nat.reduceLT,m0,m1,m2,m4,m5,m7,m8,e4,EC,Jt,KW]
def F7(A9:Int)(AC:Int)(AJ:List (List Int))(AB:List (List Int))(AO:List (List (Int×Int)))(Aa:List Int)(A8:List Int)(Cf:List (List Int))(t8_7:List (List Int))(FZ:Int)(s:St):Prop:=s.v 2=D.sl 26 (AL (fun x=>D.sl 3 (AL (D.int .i64) x)) Cf)∧s.v 3=D.box [D.int .i64 A9,D.int .i64 AC,D.sl 26 (AL (fun x=>D.sl 3 (AL (D.int .i64) x)) AJ),D.sl 26 (AL (fun x=>D.sl 3 (AL (D.int .i64) x)) AB)]∧s.v 8=D.box [D.int .i64 A9,D.int .i64 AC,D.sl 26 (AL (fun x=>D.sl 3 (AL (D.int .i64) x)) AJ),D.sl 26 (AL (fun x=>D.sl 3 (AL (D.int .i64) x)) AB),D.sl 79 (AL (fun x=>D.sl 87 (Ay .i64 .i64 x)) AO),D.sl 3 (AL (D.int .i64) Aa),D.sl 3 (AL (D.int .i64) A8),D.own 26 (AL (fun x=>D.own 3 (AL (D.int .i64) x)) t8_7)]∧s.v 21=D.int .i64 (Cf.length:Int)∧s.v 22=D.int .i64 FZ
def Ju(A9:Int)(AC:Int)(AJ:List (List Int))(AB:List (List Int))(AO:List (List (Int×Int)))(Aa:List Int)(A8:List Int)(Cf:List (List Int))(r:(List (List Int)))(ex:Ex)(s:St):Prop:=ex= .exit 0∧s.v 8=D.box [D.int .i64 A9,D.int .i64 AC,D.sl 26 (AL (fun x=>D.sl 3 (AL (D.int .i64) x)) AJ),D.sl 26 (AL (fun x=>D.sl 3 (AL (D.int .i64) x)) AB),D.sl 79 (AL (fun x=>D.sl 87 (Ay .i64 .i64 x)) AO),D.sl 3 (AL (D.int .i64) Aa),D.sl 3 (AL (D.int .i64) A8),D.own 26 (AL (fun x=>D.own 3 (AL (D.int .i64) x)) r)]
theorem TT(A9:Int)(AC:Int)(AJ:List (List Int))(AB:List (List Int))(AO:List (List (Int×Int)))(Aa:List Int)(A8:List Int)(Cf:List (List Int)){v:(List (List Int))×Int}{s:St}{r:(List (List Int))}(h:JV A9 AC AJ AB AO Aa A8 Cf v=some r)(hM:F7 A9 AC AJ AB AO Aa A8 Cf v.1 v.2 s):CF Y.env wo (Ju A9 AC AJ AB AO Aa A8 Cf r) s:=by
 unfold JV at h;refine BN (c:=eQ) (fun v=>F5 A9 AC AJ AB AO Aa A8 Cf v.1 v.2) (fun v s=>F7 A9 AC AJ AB AO Aa A8 Cf v.1 v.2 s) (Ju A9 AC AJ AB AO Aa A8 Cf) ?_ h hM;clear h hM s v r;intro v s o hM h;obtain⟨t8_7,FZ⟩:=v;dsimp only at h hM;unfold F5 at h;unfold F7 at hM;obtain⟨m0,m1,m2,m3,m4⟩:=hM;unfold eQ;rcases iS h with⟨e2,h⟩|⟨e2,h⟩
 ·obtain⟨e3,h⟩:=FK h;obtain⟨AY,hl5,h⟩:=Ag h;try dsimp only at h
  simp (maxDischargeDepth:=9) only [↓AP,AQ,↓reduceIte,Nat.reduceEqDiff,Nat.reduceLT,m0,m3,m4,e2,e3.1,e3.2];refine Av (TS A9 AC AJ AB AO Aa A8 Cf FZ hl5 ?_) ?_
  ·simp (maxDischargeDepth:=9) only [C9,↓reduceIte,Nat.reduceEqDiff,m0,m1,m2,m3,m4,EC]
  ·intro ex5 s5 hX5;unfold Jt at hX5;obtain⟨rfl,n5_0,n5_1,n5_2,n5_3,n5_4⟩:=hX5
   obtain rfl:=Option.some.inj h
   simp (maxDischargeDepth:=9) only [↓AP,AQ,↓reduceIte,Nat.reduceEqDiff,Nat.reduceLT,n5_0,n5_1,n5_2,n5_3,n5_4,F7,GZ]
 ·obtain rfl:=Option.some.inj h
  simp (maxDischargeDepth:=9) only [↓AP,AQ,↓reduceIte,Nat.reduceEqDiff,Nat.reduceLT,m2,m3,m4,e2,F7,Ju,KW]
def F8(t8_0:Int)(t8_1:Int)(t8_2:List (List Int))(t8_3:List (List Int))(t8_4:List (List (Int×Int)))(t8_5:List Int)(t8_6:List Int)(t8_7:List (List Int))(s:St):Prop:=s.v 8=D.box [D.int .i64 t8_0,D.int .i64 t8_1,D.sl 26 (AL (fun x=>D.sl 3 (AL (D.int .i64) x)) t8_2),D.sl 26 (AL (fun x=>D.sl 3 (AL (D.int .i64) x)) t8_3),D.sl 79 (AL (fun x=>D.sl 87 (Ay .i64 .i64 x)) t8_4),D.sl 3 (AL (D.int .i64) t8_5),D.sl 3 (AL (D.int .i64) t8_6),D.own 26 (AL (fun x=>D.own 3 (AL (D.int .i64) x)) t8_7)]
def Jv(r:Int×Int×(List (List Int))×(List (List Int))×(List (List (Int×Int)))×(List Int)×(List Int)×(List (List Int)))(ex:Ex)(s:St):Prop:=ex= .exit 4∧s.v 8=D.box [D.int .i64 r.1,D.int .i64 r.2.1,D.sl 26 (AL (fun x=>D.sl 3 (AL (D.int .i64) x)) r.2.2.1),D.sl 26 (AL (fun x=>D.sl 3 (AL (D.int .i64) x)) r.2.2.2.1),D.sl 79 (AL (fun x=>D.sl 87 (Ay .i64 .i64 x)) r.2.2.2.2.1),D.sl 3 (AL (D.int .i64) r.2.2.2.2.2.1),D.sl 3 (AL (D.int .i64) r.2.2.2.2.2.2.1),D.own 26 (AL (fun x=>D.own 3 (AL (D.int .i64) x)) r.2.2.2.2.2.2.2)]
theorem TU{v:Int×Int×(List (List Int))×(List (List Int))×(List (List (Int×Int)))×(List Int)×(List Int)×(List (List Int))}{s:St}{r:Int×Int×(List (List Int))×(List (List Int))×(List (List (Int×Int)))×(List Int)×(List Int)×(List (List Int))}(h:Hg v=some r)(hM:F8 v.1 v.2.1 v.2.2.1 v.2.2.2.1 v.2.2.2.2.1 v.2.2.2.2.2.1 v.2.2.2.2.2.2.1 v.2.2.2.2.2.2.2 s):CF Y.env wu (Jv r) s:=by
 unfold Hg at h;refine BN (c:=eT) (fun v=>Hf v.1 v.2.1 v.2.2.1 v.2.2.2.1 v.2.2.2.2.1 v.2.2.2.2.2.1 v.2.2.2.2.2.2.1 v.2.2.2.2.2.2.2) (fun v s=>F8 v.1 v.2.1 v.2.2.1 v.2.2.2.1 v.2.2.2.2.1 v.2.2.2.2.2.1 v.2.2.2.2.2.2.1 v.2.2.2.2.2.2.2 s) (Jv) ?_ h hM;clear h hM s v r;intro v s o hM h;obtain⟨t8_0,t8_1,t8_2,t8_3,t8_4,t8_5,t8_6,t8_7⟩:=v;dsimp only at h hM;unfold Hf at h;unfold F8 at hM;have m0:=hM;unfold eT;obtain⟨PU,hl4,h⟩:=Ag h;have c4:=QX t8_0 t8_1 t8_2 t8_3 t8_4 t8_5 t8_6 t8_7 hl4;rcases iS h with⟨e5,h⟩|⟨e5,h⟩
 ·obtain rfl:=Option.some.inj h
  simp (maxDischargeDepth:=9) only [↓AP,AQ,↓reduceIte,Nat.reduceEqDiff,Nat.reduceAdd,m0,c4,e5,F8,GZ]
 ·have e5f:PU.1=false:=Fx.mpr e5
  obtain rfl:=Option.some.inj h
  simp (maxDischargeDepth:=9) only [↓AP,AQ,↓reduceIte,Nat.reduceEqDiff,Nat.reduceAdd,m0,c4,e5f,F8,Jv,KW]
def ED(CK:Int×Int×(List (List Int))×(List (List Int))×(List (List (Int×Int)))×(List Int)×(List Int)×(List (List Int)))(YO:Int)(s:St):Prop:=s.v 8=D.box [D.int .i64 CK.1,D.int .i64 CK.2.1,D.sl 26 (AL (fun x=>D.sl 3 (AL (D.int .i64) x)) CK.2.2.1),D.sl 26 (AL (fun x=>D.sl 3 (AL (D.int .i64) x)) CK.2.2.2.1),D.sl 79 (AL (fun x=>D.sl 87 (Ay .i64 .i64 x)) CK.2.2.2.2.1),D.sl 3 (AL (D.int .i64) CK.2.2.2.2.2.1),D.sl 3 (AL (D.int .i64) CK.2.2.2.2.2.2.1),D.own 26 (AL (fun x=>D.own 3 (AL (D.int .i64) x)) CK.2.2.2.2.2.2.2)]∧s.v 68=D.vw [8,7] (s.k 8) (s.m 8)∧s.v 69=D.int .i64 (CK.2.2.2.2.2.2.2.length:Int)∧s.v 70=D.int .i64 YO
def F9(CK:Int×Int×(List (List Int))×(List (List Int))×(List (List (Int×Int)))×(List Int)×(List Int)×(List (List Int)))(r:Unit⊕Unit)(ex:Ex)(s:St):Prop:=match r with
 | .inl q=>ex= .ret∧s.v 6=D.own 26 []∧s.v 7=D.bool false
 | .inr q=>ex= .exit 6∧s.v 8=D.box [D.int .i64 CK.1,D.int .i64 CK.2.1,D.sl 26 (AL (fun x=>D.sl 3 (AL (D.int .i64) x)) CK.2.2.1),D.sl 26 (AL (fun x=>D.sl 3 (AL (D.int .i64) x)) CK.2.2.2.1),D.sl 79 (AL (fun x=>D.sl 87 (Ay .i64 .i64 x)) CK.2.2.2.2.1),D.sl 3 (AL (D.int .i64) CK.2.2.2.2.2.1),D.sl 3 (AL (D.int .i64) CK.2.2.2.2.2.2.1),D.own 26 (AL (fun x=>D.own 3 (AL (D.int .i64) x)) CK.2.2.2.2.2.2.2)]
theorem TV(CK:Int×Int×(List (List Int))×(List (List Int))×(List (List (Int×Int)))×(List Int)×(List Int)×(List (List Int))){v:Int}{s:St}{r:Unit⊕Unit}(h:Ky CK v=some r)(hM:ED CK v s):CF Y.env ww (F9 CK r) s:=by
 unfold Ky at h;refine BN (c:=eU) (fun v=>F6 CK v) (fun v s=>ED CK v s) (F9 CK) ?_ h hM;clear h hM s v r;intro YO s o hM h;unfold F6 at h;unfold ED at hM;obtain⟨m0,m1,m2,m3⟩:=hM;unfold eU;rcases iS h with⟨e7,h⟩|⟨e7,h⟩
 ·obtain⟨e8,e9,h⟩:=Ei h;have RH:=M8 (CK.2.2.2.2.2.2.2.getD YO.toNat default) (0:Int) e9;rcases iS h with⟨e11,h⟩|⟨e11,h⟩
  ·obtain rfl:=Option.some.inj h
   simp (maxDischargeDepth:=9) only [↓AP,AQ,↓reduceIte,Nat.reduceEqDiff,Nat.reduceLT,Nat.reduceAdd,m0,m1,m2,m3,e7,e8.1,e8.2,RH,e11,ED,F9,MP]
  ·have e11f:((CK.2.2.2.2.2.2.2.getD YO.toNat default).contains (0:Int))=false:=Fx.mpr e11
   obtain rfl:=Option.some.inj h
   simp (maxDischargeDepth:=9) only [↓AP,AQ,↓reduceIte,Nat.reduceEqDiff,Nat.reduceLT,Nat.reduceAdd,m0,m1,m2,m3,e7,e8.1,e8.2,RH,e11f,ED,GZ]
 ·obtain rfl:=Option.some.inj h
  simp (maxDischargeDepth:=9) only [↓AP,AQ,↓reduceIte,Nat.reduceEqDiff,Nat.reduceLT,m0,m2,m3,e7,ED,F9,KW]
theorem UQ(A9:Int)(AC:Int)(AJ:List (List Int))(AB:List (List Int))(AO:List (List (Int×Int)))(Aa:List Int)(A8:List Int)(Cf:List (List Int)){r:(List (List Int))×Bool}(h:MH A9 AC AJ AB AO Aa A8 Cf=some r):Y.call 42 [D.agg [D.int .i64 A9,D.int .i64 AC,D.sl 26 (AL (fun x=>D.sl 3 (AL (D.int .i64) x)) AJ),D.sl 26 (AL (fun x=>D.sl 3 (AL (D.int .i64) x)) AB)],D.agg [D.sl 79 (AL (fun x=>D.sl 87 (Ay .i64 .i64 x)) AO),D.sl 3 (AL (D.int .i64) Aa),D.sl 3 (AL (D.int .i64) A8)],D.sl 26 (AL (fun x=>D.sl 3 (AL (D.int .i64) x)) Cf)] []=some (D.tup [D.own 26 (AL (fun x=>D.own 3 (AL (D.int .i64) x)) r.1),D.bool r.2],[]):=by
 refine wy ?_ rfl;unfold k42;unfold MH at h;obtain⟨mq,hl1,h⟩:=Ag h;have c1:=UN Cf hl1;obtain⟨Ec,hl3,h⟩:=Ag h;try dsimp only at h
 simp (maxDischargeDepth:=9) only [↓AP,AQ,↓reduceIte,Nat.reduceEqDiff,Nat.reduceLT,Nat.reduceLeDiff,Nat.reduceAdd,c1];refine Av (TT A9 AC AJ AB AO Aa A8 Cf hl3 ?_) ?_
 ·simp (maxDischargeDepth:=9) only [C9,DK,↓reduceIte,Nat.reduceEqDiff,Nat.reduceLT,F7]
 ·intro ex3 s3 hX3;unfold Ju at hX3;obtain⟨rfl,n3_0⟩:=hX3;obtain⟨CK,hl6,h⟩:=Ag h;try dsimp only at h
  simp (maxDischargeDepth:=9) only [↓AP,↓reduceIte];refine Av (TU hl6 ?_) ?_
  ·simp (maxDischargeDepth:=9) only [n3_0,F8]
  ·intro ex6 s6 hX6;unfold Jv at hX6;obtain⟨rfl,n6_0⟩:=hX6;obtain⟨UO,hl8,h⟩:=Ag h;try dsimp only at h
   simp (maxDischargeDepth:=9) only [↓AP,AQ,↓reduceIte,Nat.reduceEqDiff,n6_0];refine Av (TV CK hl8 ?_) ?_
   ·simp (maxDischargeDepth:=9) only [C9,↓reduceIte,Nat.reduceEqDiff,n6_0,ED]
   ·intro ex8 s8 hX8;rcases UO with q1003_|q1003_
    ·unfold F9 at hX8;dsimp only at hX8 h;obtain⟨rfl,n8_0,n8_1⟩:=hX8
     obtain rfl:=Option.some.inj h
     simp (maxDischargeDepth:=9) only [↓AP,AQ,↓reduceIte,Nat.reduceEqDiff,n8_0,n8_1]<;>(repeat' apply A7)<;>first|rfl|exact⟨_,rfl⟩|exact⟨_,_,rfl⟩|simp [AL,BP]
    ·unfold F9 at hX8;dsimp only at hX8 h;obtain⟨rfl,n8_0⟩:=hX8
     obtain rfl:=Option.some.inj h
     simp (maxDischargeDepth:=9) only [↓AP,AQ,↓reduceIte,Nat.reduceEqDiff,Nat.reduceLT,n8_0]
noncomputable def MI(AR:Int)(AV:Int)(AX:List (List Int))(AZ:List (List Int))(Ak:List (List (Int×Int)))(BV:List Int)(Ad:List Int)(l:List (List Int)):Option ((List (List Int))×Bool):= ck (BB AX)<| ck (BB AZ)<| if(Kq AR AV AX AZ)=true then ck (Cw Ak)<| ck (BV.length<1099511627776)<| ck (Ad.length<1099511627776)<| if(O3 Ak BV Ad)=true then (Hd AR AV AX AZ Ak BV Ad l).bind fun Rc=> if Rc=true then (MH AR AV AX AZ Ak BV Ad l).bind fun ZH=> some (ZH.1,ZH.2) else some ([],false) else some ([],false) else some ([],false)
def k14:SC:= .seq (.ops [oX 3 (.box 34 (tK 0)) 0,oX 4 (.box 38 (tK 1)) 0,oX 6 (.assign (.const (.slice none 0 0))) 22,oX 7 (.assign (.const (.bool false))) 4]) (.seq (.seq (.ops [oL 8 34 3 34,oC 9 39 [(tK 8)] [34] 4,oX 10 (.unOp .not 4 (tK 9)) 4,oM 11 10 4,⟨(some 12),(.load 38 (tK 4)),38,(some (some 11,false))⟩,⟨(some 13),(.call ⟨(.value (.func 40)), #[(tK 12)], #[38]⟩),4,(some (some 11,false))⟩,⟨(some 14),(.unOp .not 4 (tK 13)),4,(some (some 11,false))⟩,oX 15 (.pick (tK 11) (.const (.bool true)) (tK 14)) 4,oM 16 15 4,⟨(some 17),(.load 34 (tK 3)),34,(some (some 16,false))⟩,⟨(some 18),(.load 38 (tK 4)),38,(some (some 16,false))⟩,⟨(some 19),(.move (tK 2)),22,(some (some 16,false))⟩,⟨(some 20),(.call ⟨(.value (.func 41)), #[(tK 17),(tK 18),(tK 19)], #[34,38,22]⟩),4,(some (some 16,false))⟩,⟨(some 21),(.unOp .not 4 (tK 20)),4,(some (some 16,false))⟩,oX 22 (.pick (tK 16) (.const (.bool true)) (tK 21)) 4]) (.cond (tK 22) (.seq (.ops [oX 6 (.assign (.const (.slice none 0 0))) 22,oX 7 (.assign (.const (.bool false))) 4]) .ret) .skip)) (.seq (.ops [oL 23 34 3 34,oL 24 38 4 38,oM 25 2 22,oC 26 42 [(tK 23),(tK 24),(tK 25)] [34,38,22] 32,oE 27 26 0 22,oE 28 26 1 4,oA 6 27 22,
 oA 7 28 4]) .ret))
theorem A5k:Tryz.f14.body.map (Bf lends)=some k14:=by kernel_rfl
theorem AIa:Bz Tryz.f14 3=true:=by kernel_rfl
theorem ZY{a l:List D}{r:D×List D}(h:CF Y.env k14 (ES Ae l.length [ResultVar.tmp 6,ResultVar.tmp 7] r) (entry a l))(ha:a.length=3):Y.call 14 a l=some r:=
 Ab (Y:=Y) rfl Tryz.func14 (ha▸AIa) A5k h
theorem UR(AR:Int)(AV:Int)(AX:List (List Int))(AZ:List (List Int))(Ak:List (List (Int×Int)))(BV:List Int)(Ad:List Int)(l:List (List Int)){r:(List (List Int))×Bool}(h:MI AR AV AX AZ Ak BV Ad l=some r):Y.call 14 [D.agg [D.int .i64 AR,D.int .i64 AV,D.sl 26 (AL (fun x=>D.sl 3 (AL (D.int .i64) x)) AX),D.sl 26 (AL (fun x=>D.sl 3 (AL (D.int .i64) x)) AZ)],D.agg [D.sl 79 (AL (fun x=>D.sl 87 (Ay .i64 .i64 x)) Ak),D.sl 3 (AL (D.int .i64) BV),D.sl 3 (AL (D.int .i64) Ad)],D.sl 26 (AL (fun x=>D.sl 3 (AL (D.int .i64) x)) l)] []=some (D.tup [D.own 26 (AL (fun x=>D.own 3 (AL (D.int .i64) x)) r.1),D.bool r.2],[]):=by
 refine ZY ?_ rfl;unfold k14;unfold MI at h;obtain⟨e1,e2,h⟩:=Ei h;have c3:=Xm AR AV AX AZ e1 e2;rcases iS h with⟨e4,h⟩|⟨e4,h⟩
 ·obtain⟨e5,e6,e7,h⟩:=Oa h;have c8:=YC Ak BV Ad e5 e6 e7;rcases iS h with⟨e9,h⟩|⟨e9,h⟩
  ·obtain⟨Rc,hl10,h⟩:=Ag h;have RH:=Pg AR AV AX AZ Ak BV Ad l hl10;rcases iS h with⟨e11,h⟩|⟨e11,h⟩
   ·obtain⟨ZH,hl12,h⟩:=Ag h;try dsimp only at h
    have oD:=UQ AR AV AX AZ Ak BV Ad l hl12
    obtain rfl:=Option.some.inj h
    simp (maxDischargeDepth:=9) only [↓AP,AQ,↓reduceIte,Nat.reduceEqDiff,Nat.reduceLT,Nat.reduceAdd,c3,e4,c8,e9,RH,e11,oD]
   ·have e11f:Rc=false:=Fx.mpr e11
    obtain rfl:=Option.some.inj h
    simp (maxDischargeDepth:=9) only [↓AP,AQ,↓reduceIte,Nat.reduceEqDiff,Nat.reduceLT,Nat.reduceAdd,c3,e4,c8,e9,RH,e11f]<;>(repeat' apply A7)<;>first|rfl|exact⟨_,rfl⟩|exact⟨_,_,rfl⟩|simp [AL,BP]
  ·have e9f:(O3 Ak BV Ad)=false:=Fx.mpr e9
   obtain rfl:=Option.some.inj h
   simp (maxDischargeDepth:=9) only [↓AP,AQ,↓reduceIte,Nat.reduceEqDiff,Nat.reduceLT,Nat.reduceAdd,c3,e4,c8,e9f]<;>(repeat' apply A7)<;>first|rfl|exact⟨_,rfl⟩|exact⟨_,_,rfl⟩|simp [AL,BP]
 ·have e4f:(Kq AR AV AX AZ)=false:=Fx.mpr e4
  obtain rfl:=Option.some.inj h
  simp (maxDischargeDepth:=9) only [↓AP,AQ,↓reduceIte,Nat.reduceEqDiff,Nat.reduceLT,Nat.reduceAdd,c3,e4f]<;>(repeat' apply A7)<;>first|rfl|exact⟨_,rfl⟩|exact⟨_,_,rfl⟩|simp [AL,BP]
noncomputable def FB(AR:Int)(AV:Int)(AX:List (List Int))(AZ:List (List Int))(Ak:List (List (Int×Int)))(BV:List Int)(Ad:List Int)(l:List (List Int))(Ri:Int):Option ((Int)⊕(Unit⊕Unit)):= if Ri<(l.length:Int)then ck (0≤Ri∧Ri.toNat<l.length)<| ck (0≤Ri∧Ri.toNat<Ak.length)<| if((l.getD Ri.toNat default).length:Int)=((Ak.getD Ri.toNat default).length:Int)then ck ((l.getD Ri.toNat default).length<1099511627776)<| if(DC (l.getD Ri.toNat default) (-1:Int) (IntKind.i64.wrap (AR-1)))=true then some (Sum.inl (IntKind.i64.wrap (Ri+1))) else some (Sum.inr (Sum.inl ())) else some (Sum.inr (Sum.inl ())) else some (Sum.inr (Sum.inr ()))
noncomputable def JW(AR:Int)(AV:Int)(AX:List (List Int))(AZ:List (List Int))(Ak:List (List (Int×Int)))(BV:List Int)(Ad:List Int)(l:List (List Int))(v:Int):Option (Unit⊕Unit):=I4 (fun v=>FB AR AV AX AZ Ak BV Ad l v) v
noncomputable def O5(AR:Int)(AV:Int)(AX:List (List Int))(AZ:List (List Int))(Ak:List (List (Int×Int)))(BV:List Int)(Ad:List Int)(l:List (List Int)):Option (Bool):=
 ck (BB AX)<|
 ck (BB AZ)<|
 if(Kq AR AV AX AZ)=true then
  ck (Cw Ak)<|
  ck (BV.length<1099511627776)<|
  ck (Ad.length<1099511627776)<|
  if(O3 Ak BV Ad)=true then
   if(l.length:Int)=(Ak.length:Int)then
    (JW AR AV AX AZ Ak BV Ad l 0).bind fun AY=>
    match AY with
    | .inl q1000_=>
     some false
    | .inr q1000_=>
     some true
   else
    some false
  else
   some false
 else
  some false
def eX:SC:= .seq (.ops [oB 28 .lss 3 (tK 27) (tK 26) 3 0]) (.seq (.cond (tK 28) .skip (.exit 0)) (.seq (.block 1 (.seq (.ops [oM 29 27 3,oI 30 22 25 27,oL 31 26 30 26,oA 7 29 3,oA 8 31 26]) (.seq (.ops [oM 32 8 26,oN 33 32 26,oF 34 38 4 0,oL 35 36 34 36,oM 36 7 3,oI 37 36 35 36,oL 38 79 37 79,oN 39 38 79,oB 40 .neq 3 (tK 33) (tK 39) 3 4,oM 41 40 4,⟨(some 42),(.move (tK 8)),26,(some (some 41,false))⟩,⟨(some 43),(.fieldAddr 34 (tK 3) 0),0,(some (some 41,false))⟩,⟨(some 44),(.load 3 (tK 43)),3,(some (some 41,false))⟩,⟨(some 45),(.binOp .sub 3 (tK 44) (iK 1) 3),3,(some (some 41,false))⟩,⟨(some 46),(.call ⟨(.value (.func 59)), #[(tK 42),(.const (.int .i64 (-1))),(tK 45)], #[26,3,3]⟩),4,(some (some 41,false))⟩,⟨(some 47),(.unOp .not 4 (tK 46)),4,(some (some 41,false))⟩,oX 48 (.pick (tK 41) (.const (.bool true)) (tK 47)) 4]) (.cond (tK 48) (.seq (.ops [oX 6 (.assign (.const (.bool false))) 4]) .ret) .skip)))) (.ops [oB 49 .add 3 (tK 27) (iK 1) 3 3,oM 27 49 3])))
def wz:SC:= .loop eX
def k33:SC:= .seq (.ops [oX 3 (.box 34 (tK 0)) 0,oX 4 (.box 38 (tK 1)) 0,oX 6 (.assign (.const (.bool false))) 4]) (.seq (.seq (.ops [oL 9 34 3 34,oC 10 57 [(tK 9)] [34] 4,oX 11 (.unOp .not 4 (tK 10)) 4,oM 12 11 4,⟨(some 13),(.load 38 (tK 4)),38,(some (some 12,false))⟩,⟨(some 14),(.call ⟨(.value (.func 58)), #[(tK 13)], #[38]⟩),4,(some (some 12,false))⟩,⟨(some 15),(.unOp .not 4 (tK 14)),4,(some (some 12,false))⟩,oX 16 (.pick (tK 12) (.const (.bool true)) (tK 15)) 4,oM 17 16 4,⟨(some 18),(.move (tK 2)),22,(some (some 17,false))⟩,⟨(some 19),(.call ⟨(.builtin .len), #[(tK 18)], #[22]⟩),3,(some (some 17,false))⟩,⟨(some 20),(.fieldAddr 38 (tK 4) 0),0,(some (some 17,false))⟩,⟨(some 21),(.load 36 (tK 20)),36,(some (some 17,false))⟩,⟨(some 22),(.call ⟨(.builtin .len), #[(tK 21)], #[36]⟩),3,(some (some 17,false))⟩,⟨(some 23),(.binOp .neq 3 (tK 19) (tK 22) 3),4,(some (some 17,false))⟩,oX 24 (.pick (tK 17) (.const (.bool true)) (tK 23)) 4]) (.cond (tK 24) (.seq (.ops [oX 6 (.assign (.const (.bool false))) 4]) .ret) .skip)) (.seq (.seq (.ops [oM 25 2 22,oN 26 25 22,oX 27 (.move (iK 0)) 3]) (.block 0 wz)) (.seq (.ops [oX 6 (.assign (.const (.bool true))) 4]) .ret)))
theorem A5l:Tryz.f33.body.map (Bf lends)=some k33:=by kernel_rfl
theorem AIc:Bz Tryz.f33 3=true:=by kernel_rfl
theorem c33{a l:List D}{r:D×List D}(h:CF Y.env k33 (ES Ae l.length [ResultVar.tmp 6] r) (entry a l))(ha:a.length=3):Y.call 33 a l=some r:=
 Ab (Y:=Y) rfl Tryz.func33 (ha▸AIc) A5l h
def Da(AR:Int)(AV:Int)(AX:List (List Int))(AZ:List (List Int))(Ak:List (List (Int×Int)))(BV:List Int)(Ad:List Int)(l:List (List Int))(Ri:Int)(s:St):Prop:=s.v 3=D.box [D.int .i64 AR,D.int .i64 AV,D.sl 26 (AL (fun x=>D.sl 3 (AL (D.int .i64) x)) AX),D.sl 26 (AL (fun x=>D.sl 3 (AL (D.int .i64) x)) AZ)]∧s.v 4=D.box [D.sl 79 (AL (fun x=>D.sl 87 (Ay .i64 .i64 x)) Ak),D.sl 3 (AL (D.int .i64) BV),D.sl 3 (AL (D.int .i64) Ad)]∧s.v 25=D.sl 26 (AL (fun x=>D.sl 3 (AL (D.int .i64) x)) l)∧s.v 26=D.int .i64 (l.length:Int)∧s.v 27=D.int .i64 Ri
def EE(AR:Int)(AV:Int)(AX:List (List Int))(AZ:List (List Int))(Ak:List (List (Int×Int)))(BV:List Int)(Ad:List Int)(l:List (List Int))(r:Unit⊕Unit)(ex:Ex)(s:St):Prop:=match r with
 | .inl q=>ex= .ret∧s.v 6=D.bool false
 | .inr q=>ex= .exit 0
theorem TW(AR:Int)(AV:Int)(AX:List (List Int))(AZ:List (List Int))(Ak:List (List (Int×Int)))(BV:List Int)(Ad:List Int)(l:List (List Int)){v:Int}{s:St}{r:Unit⊕Unit}(h:JW AR AV AX AZ Ak BV Ad l v=some r)(hM:Da AR AV AX AZ Ak BV Ad l v s):CF Y.env wz (EE AR AV AX AZ Ak BV Ad l r) s:=by
 unfold JW at h;refine BN (c:=eX) (fun v=>FB AR AV AX AZ Ak BV Ad l v) (fun v s=>Da AR AV AX AZ Ak BV Ad l v s) (EE AR AV AX AZ Ak BV Ad l) ?_ h hM;clear h hM s v r;intro Ri s o hM h;unfold FB at h;unfold Da at hM;obtain⟨m0,m1,m2,m3,m4⟩:=hM;unfold eX;rcases iS h with⟨e11,h⟩|⟨e11,h⟩
 ·obtain⟨e12,e13,h⟩:=Ei h;rcases iS h with⟨e14,h⟩|⟨e14,h⟩
  ·obtain⟨e15,h⟩:=FK h;have c16:=Ra (l.getD Ri.toNat default) (-1:Int) (IntKind.i64.wrap (AR-1)) e15;rcases iS h with⟨e17,h⟩|⟨e17,h⟩
   ·obtain rfl:=Option.some.inj h
    simp (maxDischargeDepth:=9) only [↓AP,AQ,↓reduceIte,Nat.reduceEqDiff,Nat.reduceLT,Nat.reduceAdd,Int.reduceNeg,m0,m1,m2,m3,m4,e11,e12.1,e12.2,e13.2,decide_eq_true e14,c16,e17,Da,GZ]
   ·have e17f:(DC (l.getD Ri.toNat default) (-1:Int) (IntKind.i64.wrap (AR-1)))=false:=Fx.mpr e17
    obtain rfl:=Option.some.inj h
    simp (maxDischargeDepth:=9) only [↓AP,AQ,↓reduceIte,Nat.reduceEqDiff,Nat.reduceLT,Nat.reduceAdd,Int.reduceNeg,m0,m1,m2,m3,m4,e11,e12.1,e12.2,e13.2,decide_eq_true e14,c16,e17f,Da,EE,MP]
  ·obtain rfl:=Option.some.inj h
   simp (maxDischargeDepth:=9) only [↓AP,AQ,↓reduceIte,Nat.reduceEqDiff,Nat.reduceLT,Int.reduceNeg,m1,m2,m3,m4,e11,e12.1,e12.2,e13.2,e14,Da,EE,MP]
 ·obtain rfl:=Option.some.inj h
  simp (maxDischargeDepth:=9) only [↓AP,AQ,↓reduceIte,Nat.reduceLT,Int.reduceNeg,m3,m4,e11,Da,EE,KW]
theorem UT(AR:Int)(AV:Int)(AX:List (List Int))(AZ:List (List Int))(Ak:List (List (Int×Int)))(BV:List Int)(Ad:List Int)(l:List (List Int)){r:Bool}(h:O5 AR AV AX AZ Ak BV Ad l=some r):Y.call 33 [D.agg [D.int .i64 AR,D.int .i64 AV,D.sl 26 (AL (fun x=>D.sl 3 (AL (D.int .i64) x)) AX),D.sl 26 (AL (fun x=>D.sl 3 (AL (D.int .i64) x)) AZ)],D.agg [D.sl 79 (AL (fun x=>D.sl 87 (Ay .i64 .i64 x)) Ak),D.sl 3 (AL (D.int .i64) BV),D.sl 3 (AL (D.int .i64) Ad)],D.sl 26 (AL (fun x=>D.sl 3 (AL (D.int .i64) x)) l)] []=some (D.bool r,[]):=by
 refine c33 ?_ rfl;unfold k33;unfold O5 at h;obtain⟨e1,e2,h⟩:=Ei h;have c3:=jM AR AV AX AZ e1 e2;rcases iS h with⟨e4,h⟩|⟨e4,h⟩
 ·obtain⟨e5,e6,e7,h⟩:=Oa h;have c8:=jX Ak BV Ad e5 e6 e7;rcases iS h with⟨e9,h⟩|⟨e9,h⟩
  ·rcases iS h with⟨e10,h⟩|⟨e10,h⟩
   ·obtain⟨AY,hl12,h⟩:=Ag h;try dsimp only at h
    simp (maxDischargeDepth:=9) only [↓AP,AQ,↓reduceIte,Nat.reduceEqDiff,Nat.reduceLT,Nat.reduceAdd,c3,e4,c8,e9,decide_eq_true e10];refine Av (TW AR AV AX AZ Ak BV Ad l hl12 ?_) ?_
    ·simp (maxDischargeDepth:=9) only [C9,↓reduceIte,Nat.reduceEqDiff,Da]
    ·intro ex12 s12 hX12;rcases AY with q1000_|q1000_
     ·unfold EE at hX12;dsimp only at hX12 h;obtain⟨rfl,n12_0⟩:=hX12
      obtain rfl:=Option.some.inj h
      simp (maxDischargeDepth:=9) only [↓AP,AQ,↓reduceIte,n12_0]
     ·unfold EE at hX12;dsimp only at hX12 h
      obtain rfl:=hX12
      obtain rfl:=Option.some.inj h
      simp (maxDischargeDepth:=9) only [↓AP,AQ,↓reduceIte,Nat.reduceEqDiff,Nat.reduceLT]
   ·obtain rfl:=Option.some.inj h
    simp (maxDischargeDepth:=9) only [↓AP,AQ,↓reduceIte,Nat.reduceEqDiff,Nat.reduceLT,Nat.reduceAdd,c3,e4,c8,e9,e10]
  ·have e9f:(O3 Ak BV Ad)=false:=Fx.mpr e9
   obtain rfl:=Option.some.inj h
   simp (maxDischargeDepth:=9) only [↓AP,AQ,↓reduceIte,Nat.reduceEqDiff,Nat.reduceLT,Nat.reduceAdd,c3,e4,c8,e9f]
 ·have e4f:(Kq AR AV AX AZ)=false:=Fx.mpr e4
  obtain rfl:=Option.some.inj h
  simp (maxDischargeDepth:=9) only [↓AP,AQ,↓reduceIte,Nat.reduceEqDiff,Nat.reduceLT,Nat.reduceAdd,c3,e4f]
noncomputable def J2(l:List (List Int))(out:List (List Int))(NZ:Int):Option (((List (List Int))×Int)⊕((List (List Int)))):= if NZ<(l.length:Int)then ck (0≤NZ∧NZ.toNat<l.length)<| (Lg (l.getD NZ.toNat default)).bind fun YG=> ck (out.length+1<1099511627776)<| some (Sum.inl ((out++[YG]),IntKind.i64.wrap (NZ+1))) else some (Sum.inr out)
noncomputable def O6(l:List (List Int))(v:(List (List Int))×Int):Option ((List (List Int))):=I4 (fun v=>J2 l v.1 v.2) v
noncomputable def Oo(l:List (List Int)):Option ((List (List Int))):= (O6 l ([],0)).bind fun AY=> some AY
def eY:SC:= .seq (.ops [oB 9 .lss 3 (tK 8) (tK 7) 3 0]) (.seq (.cond (tK 9) .skip (.exit 0)) (.seq (.block 1 (.seq (.ops [oI 10 22 6 8,oL 11 26 10 26,oA 5 11 26]) (.ops [oM 12 3 22,oM 13 5 26,oC 14 92 [(tK 13)] [26] 26,oX 15 (.buildSlice 22 1 #[(0,(tK 14))]) 22,oX 16 (.call ⟨(.builtin .append), #[(tK 12),(tK 15)], #[22,22]⟩) 22,oA 3 16 22]))) (.ops [oB 17 .add 3 (tK 8) (iK 1) 3 3,oM 8 17 3])))
def x8:SC:= .loop eY
def k60:SC:= .seq (.ops [oX 2 (.assign (.const (.slice none 0 0))) 22]) (.seq (.ops [oX 3 (.assign (.const (.slice none 0 0))) 22]) (.seq (.seq (.ops [oM 6 0 22,oN 7 6 22,oX 8 (.move (iK 0)) 3]) (.block 0 x8)) (.seq (.ops [oM 18 3 22,oA 2 18 22]) .ret)))
theorem A5m:Tryz.f60.body.map (Bf lends)=some k60:=by kernel_rfl
theorem AIe:Bz Tryz.f60 1=true:=by kernel_rfl
theorem c60{a l:List D}{r:D×List D}(h:CF Y.env k60 (ES Ae l.length [ResultVar.tmp 2] r) (entry a l))(ha:a.length=1):Y.call 60 a l=some r:=
 Ab (Y:=Y) rfl Tryz.func60 (ha▸AIe) A5m h
def J3(l:List (List Int))(out:List (List Int))(NZ:Int)(s:St):Prop:=s.v 3=D.own 26 (AL (fun x=>D.own 3 (AL (D.int .i64) x)) out)∧s.v 6=D.sl 26 (AL (fun x=>D.sl 3 (AL (D.int .i64) x)) l)∧s.v 7=D.int .i64 (l.length:Int)∧s.v 8=D.int .i64 NZ
def Li(l:List (List Int))(r:(List (List Int)))(ex:Ex)(s:St):Prop:=ex= .exit 0∧s.v 3=D.own 26 (AL (fun x=>D.own 3 (AL (D.int .i64) x)) r)
theorem YP(l:List (List Int)){v:(List (List Int))×Int}{s:St}{r:(List (List Int))}(h:O6 l v=some r)(hM:J3 l v.1 v.2 s):CF Y.env x8 (Li l r) s:=by
 unfold O6 at h;refine BN (c:=eY) (fun v=>J2 l v.1 v.2) (fun v s=>J3 l v.1 v.2 s) (Li l) ?_ h hM;clear h hM s v r;intro v s o hM h;obtain⟨out,NZ⟩:=v;dsimp only at h hM;unfold J2 at h;unfold J3 at hM;obtain⟨m0,m1,m2,m3⟩:=hM;unfold eY;rcases iS h with⟨e1,h⟩|⟨e1,h⟩
 ·obtain⟨e2,h⟩:=FK h;obtain⟨YG,hl3,h⟩:=Ag h;have c3:=Mh (l.getD NZ.toNat default) hl3;obtain⟨e4,h⟩:=FK h
  obtain rfl:=Option.some.inj h
  simp (maxDischargeDepth:=9) only [↓AP,AQ,↓reduceIte,Nat.reduceEqDiff,Nat.reduceLT,Nat.reduceLeDiff,Nat.reduceAdd,m0,m1,m2,m3,e1,e2.1,e2.2,c3,e4,J3,GZ]
 ·obtain rfl:=Option.some.inj h
  simp (maxDischargeDepth:=9) only [↓AP,AQ,↓reduceIte,Nat.reduceEqDiff,Nat.reduceLT,m0,m2,m3,e1,J3,Li,KW]
theorem RL(l:List (List Int)){r:(List (List Int))}(h:Oo l=some r):Y.call 60 [D.sl 26 (AL (fun x=>D.sl 3 (AL (D.int .i64) x)) l)] []=some (D.own 26 (AL (fun x=>D.own 3 (AL (D.int .i64) x)) r),[]):=by
 refine c60 ?_ rfl;unfold k60;unfold Oo at h;obtain⟨AY,hl2,h⟩:=Ag h;try dsimp only at h
 simp (maxDischargeDepth:=9) only [↓AP,AQ,↓reduceIte,Nat.reduceEqDiff,Nat.reduceLT];refine Av (YP l hl2 ?_) ?_
 ·simp (maxDischargeDepth:=9) only [C9,↓reduceIte,Nat.reduceEqDiff,J3]<;>(repeat' apply A7)<;>first|rfl|exact⟨_,rfl⟩|exact⟨_,_,rfl⟩|simp [AL,BP]
 ·intro ex2 s2 hX2;unfold Li at hX2;obtain⟨rfl,n2_0⟩:=hX2
  obtain rfl:=Option.some.inj h
  simp (maxDischargeDepth:=9) only [↓AP,AQ,↓reduceIte,Nat.reduceEqDiff,Nat.reduceLT,n2_0]
noncomputable def J4(AR:Int)(AV:Int)(AX:List (List Int))(AZ:List (List Int))(IL:(List (List Int)))(out:List (List Int))(El:Int)(out1:List (List Int))(UU:Int):Option (((List (List Int))×Int)⊕((List (List Int)))):= if UU<((out.getD El.toNat default).length:Int)then ck (El.toNat<out1.length)<| ck (0≤UU∧UU.toNat<(out1.getD El.toNat default).length)<| if((out1.getD El.toNat default).getD UU.toNat default)<0 then ck (0≤El∧El.toNat<out1.length)<| ck (¬(IntKind.u64.wrap AR)<0)<| some (Sum.inl ((out1.set El.toNat ((out1.getD El.toNat default).set UU.toNat (IntKind.i64.wrap ((IntKind.i64.wrap (1*2 ^ (min (IntKind.u64.wrap AR).toNat (IntKind.i64.bits))))-1)))),IntKind.i64.wrap (UU+1))) else ck (0≤El∧El.toNat<out1.length)<| ck (¬(IntKind.u64.wrap ((out1.getD El.toNat default).getD UU.toNat default))<0)<| some (Sum.inl ((out1.set El.toNat ((out1.getD El.toNat default).set UU.toNat (IntKind.i64.wrap (1*2 ^ (min (IntKind.u64.wrap ((out1.getD El.toNat default).getD UU.toNat default)).toNat (IntKind.i64.bits)))))),IntKind.i64.wrap (UU+1))) else some (Sum.inr out1)
noncomputable def MJ(AR:Int)(AV:Int)(AX:List (List Int))(AZ:List (List Int))(IL:(List (List Int)))(out:List (List Int))(El:Int)(v:(List (List Int))×Int):Option ((List (List Int))):=I4 (fun v=>J4 AR AV AX AZ IL out El v.1 v.2) v
noncomputable def J5(AR:Int)(AV:Int)(AX:List (List Int))(AZ:List (List Int))(IL:(List (List Int)))(out:List (List Int))(El:Int):Option (((List (List Int))×Int)⊕((List (List Int)))):= if El<(IL.length:Int)then ck (0≤El∧El.toNat<out.length)<| (MJ AR AV AX AZ IL out El (out,0)).bind fun AY=> some (Sum.inl (AY,IntKind.i64.wrap (El+1))) else some (Sum.inr out)
noncomputable def MK(AR:Int)(AV:Int)(AX:List (List Int))(AZ:List (List Int))(IL:(List (List Int)))(v:(List (List Int))×Int):Option ((List (List Int))):=I4 (fun v=>J5 AR AV AX AZ IL v.1 v.2) v
noncomputable def QY(AR:Int)(AV:Int)(AX:List (List Int))(AZ:List (List Int))(l:List (List Int)):Option ((List (List Int))):= (Oo l).bind fun IL=> (MK AR AV AX AZ IL (IL,0)).bind fun Ec=> some Ec
def eZ:SC:= .seq (.ops [oB 22 .lss 3 (tK 21) (tK 20) 3 0]) (.seq (.cond (tK 22) .skip (.exit 2)) (.seq (.block 3 (.seq (.ops [oM 23 21 3,oI 24 26 19 21,oL 25 3 24 3,oA 8 23 3,oA 9 25 3]) (.seq (.ops [oM 26 9 3,oB 27 .lss 3 (tK 26) (iK 0) 3 4]) (.cond (tK 27) (.draws [(⟨[28,5,5],[28,29,30,31,32,33,34,35,36,37,38,38,37,5,37],[28]⟩,oM 28 5 22),(⟨[29,6,6],[28,29,30,31,32,33,34,35,36,37,38,38,37,5,37],[29]⟩,oM 29 6 3),(⟨[30,28,29,5,6],[28,29,30,31,32,33,34,35,36,37,38,38,37,5,37],[30]⟩,oI 30 22 28 29),(⟨[31,30,5],[28,29,30,31,32,33,34,35,36,37,38,38,37,5,37],[31]⟩,oL 31 26 30 26),(⟨[32,8,8],[28,29,30,31,32,33,34,35,36,37,38,38,37,5,37],[32]⟩,oM 32 8 3),(⟨[33,2,2],[28,29,30,31,32,33,34,35,36,37,38,38,37,5,37],[33]⟩,oF 33 34 2 0),(⟨[34,33,2],[28,29,30,31,32,33,34,35,36,37,38,38,37,5,37],[34]⟩,oL 34 3 33 3),(⟨[35,34,2],[28,29,30,31,32,33,34,35,36,37,38,38,37,5,37],[35]⟩,oX 35 (.convert 3 82 (tK 34)) 82),(⟨[36,35,35],[28,29,30,31,32,33,34,35,36,37,38,38,37,5,37],[36]⟩,oB 36 .shl 3 (iK 1) (tK 35) 82 3),(⟨[37,36,36],[28,29,30,31,32,33,34,35,36,37,38,38,37,5,37],[37]⟩,oB 37 .sub 3 (tK 36) (iK 1) 3 3),(⟨[38,31,32,5,8],[28,29,30,31,32,33,34,35,36,37,38,38,37,5,37],[38]⟩,oI 38 26 31 32),
 (⟨[38,37,5,37],[28,29,30,31,32,33,34,35,36,37,38,38,37,5,37],[38,37,5,37]⟩,oS 3 38 37)]) (.ops [oM 39 5 22,oM 40 6 3,oI 41 22 39 40,oL 42 26 41 26,oM 43 8 3,oM 44 9 3,oX 45 (.convert 3 82 (tK 44)) 82,oB 46 .shl 3 (iK 1) (tK 45) 82 3,oI 47 26 42 43,oS 3 47 46]))))) (.ops [oB 48 .add 3 (tK 21) (iK 1) 3 3,oM 21 48 3])))
def x9:SC:= .loop eZ
def ed:SC:= .seq (.ops [oB 15 .lss 3 (tK 14) (tK 13) 3 0]) (.seq (.cond (tK 15) .skip (.exit 0)) (.seq (.block 1 (.seq (.ops [oM 16 14 3,oI 17 22 12 14,oL 18 26 17 26,oA 6 16 3,oA 7 18 26]) (.seq (.ops [oM 19 7 26,oN 20 19 26,oX 21 (.move (iK 0)) 3]) (.block 2 x9)))) (.ops [oB 49 .add 3 (tK 14) (iK 1) 3 3,oM 14 49 3])))
def xA:SC:= .loop ed
def k35:SC:= .seq (.ops [oX 2 (.box 34 (tK 0)) 0,oX 4 (.assign (.const (.slice none 0 0))) 22]) (.seq (.ops [oM 10 1 22,oC 11 60 [(tK 10)] [22] 22,oA 5 11 22]) (.seq (.seq (.ops [oM 12 5 22,oN 13 12 22,oX 14 (.move (iK 0)) 3]) (.block 0 xA)) (.seq (.ops [oM 50 5 22,oA 4 50 22]) .ret)))
theorem A5n:Tryz.f35.body.map (Bf lends)=some k35:=by kernel_rfl
theorem AIh:Bz Tryz.f35 2=true:=by kernel_rfl
theorem c35{a l:List D}{r:D×List D}(h:CF Y.env k35 (ES Ae l.length [ResultVar.tmp 4] r) (entry a l))(ha:a.length=2):Y.call 35 a l=some r:=
 Ab (Y:=Y) rfl Tryz.func35 (ha▸AIh) A5n h
def GV(AR:Int)(AV:Int)(AX:List (List Int))(AZ:List (List Int))(IL:(List (List Int)))(out:List (List Int))(El:Int)(out1:List (List Int))(UU:Int)(s:St):Prop:=s.v 2=D.box [D.int .i64 AR,D.int .i64 AV,D.sl 26 (AL (fun x=>D.sl 3 (AL (D.int .i64) x)) AX),D.sl 26 (AL (fun x=>D.sl 3 (AL (D.int .i64) x)) AZ)]∧s.v 5=D.own 26 (AL (fun x=>D.own 3 (AL (D.int .i64) x)) out1)∧s.v 6=D.int .i64 El∧(∃w_,s.v 12=D.vw [5] (s.k 5) w_)∧s.v 13=D.int .i64 (IL.length:Int)∧s.v 14=D.int .i64 El∧s.v 19=D.vw [5,El.toNat] (s.k 5) (s.m 5)∧s.v 20=D.int .i64 ((out.getD El.toNat default).length:Int)∧s.v 21=D.int .i64 UU
def Lj(AR:Int)(AV:Int)(AX:List (List Int))(AZ:List (List Int))(IL:(List (List Int)))(out:List (List Int))(El:Int)(r:(List (List Int)))(ex:Ex)(s:St):Prop:=ex= .exit 2∧s.v 2=D.box [D.int .i64 AR,D.int .i64 AV,D.sl 26 (AL (fun x=>D.sl 3 (AL (D.int .i64) x)) AX),D.sl 26 (AL (fun x=>D.sl 3 (AL (D.int .i64) x)) AZ)]∧s.v 5=D.own 26 (AL (fun x=>D.own 3 (AL (D.int .i64) x)) r)∧(∃w_,s.v 12=D.vw [5] (s.k 5) w_)∧s.v 13=D.int .i64 (IL.length:Int)∧s.v 14=D.int .i64 El
theorem YQ(AR:Int)(AV:Int)(AX:List (List Int))(AZ:List (List Int))(IL:(List (List Int)))(out:List (List Int))(El:Int){v:(List (List Int))×Int}{s:St}{r:(List (List Int))}(h:MJ AR AV AX AZ IL out El v=some r)(hM:GV AR AV AX AZ IL out El v.1 v.2 s):CF Y.env x9 (Lj AR AV AX AZ IL out El r) s:=by
 unfold MJ at h;refine BN (c:=eZ) (fun v=>J4 AR AV AX AZ IL out El v.1 v.2) (fun v s=>GV AR AV AX AZ IL out El v.1 v.2 s) (Lj AR AV AX AZ IL out El) ?_ h hM;clear h hM s v r;intro v s o hM h;obtain⟨out1,UU⟩:=v;dsimp only at h hM;unfold J4 at h;unfold GV at hM;obtain⟨m0,m1,m2,⟨w3_,m3⟩,m4,m5,m6,m7,m8⟩:=hM;unfold eZ;rcases iS h with⟨e4,h⟩|⟨e4,h⟩
 ·obtain⟨e5,e6,h⟩:=Ei h;rcases iS h with⟨e7,h⟩|⟨e7,h⟩
  ·obtain⟨e8,e9,h⟩:=Ei h
   obtain rfl:=Option.some.inj h
   simp (maxDischargeDepth:=9) only [↓AP,AQ,↓reduceIte,Nat.reduceEqDiff,Nat.reduceLT,Nat.reduceBEq,m0,m1,m2,m3,m4,m5,m6,m7,m8,e4,e5,e6.1,e6.2,e7,e8.1,e9,GV,GZ]<;>(repeat' apply A7)<;>first|rfl|exact⟨_,rfl⟩|exact⟨_,_,rfl⟩|simp [AL,BP]
  ·obtain⟨e8,e9,h⟩:=Ei h
   obtain rfl:=Option.some.inj h
   simp (maxDischargeDepth:=9) only [↓AP,AQ,↓reduceIte,Nat.reduceEqDiff,Nat.reduceLT,m0,m1,m2,m3,m4,m5,m6,m7,m8,e4,e5,e6.1,e6.2,e7,e8.1,e9,GV,GZ]<;>(repeat' apply A7)<;>first|rfl|exact⟨_,rfl⟩|exact⟨_,_,rfl⟩|simp [AL,BP]
 ·obtain rfl:=Option.some.inj h
  simp (maxDischargeDepth:=9) only [↓AP,AQ,↓reduceIte,Nat.reduceEqDiff,Nat.reduceLT,m0,m1,m3,m4,m5,m7,m8,e4,GV,Lj,KW]<;>(repeat' apply A7)<;>first|rfl|exact⟨_,rfl⟩|exact⟨_,_,rfl⟩|simp [AL,BP]
def J6(AR:Int)(AV:Int)(AX:List (List Int))(AZ:List (List Int))(IL:(List (List Int)))(out:List (List Int))(El:Int)(s:St):Prop:=s.v 2=D.box [D.int .i64 AR,D.int .i64 AV,D.sl 26 (AL (fun x=>D.sl 3 (AL (D.int .i64) x)) AX),D.sl 26 (AL (fun x=>D.sl 3 (AL (D.int .i64) x)) AZ)]∧s.v 5=D.own 26 (AL (fun x=>D.own 3 (AL (D.int .i64) x)) out)∧(∃w_,s.v 12=D.vw [5] (s.k 5) w_)∧s.v 13=D.int .i64 (IL.length:Int)∧s.v 14=D.int .i64 El
def Ll(AR:Int)(AV:Int)(AX:List (List Int))(AZ:List (List Int))(IL:(List (List Int)))(r:(List (List Int)))(ex:Ex)(s:St):Prop:=ex= .exit 0∧s.v 5=D.own 26 (AL (fun x=>D.own 3 (AL (D.int .i64) x)) r)
theorem YR(AR:Int)(AV:Int)(AX:List (List Int))(AZ:List (List Int))(IL:(List (List Int))){v:(List (List Int))×Int}{s:St}{r:(List (List Int))}(h:MK AR AV AX AZ IL v=some r)(hM:J6 AR AV AX AZ IL v.1 v.2 s):CF Y.env xA (Ll AR AV AX AZ IL r) s:=by
 unfold MK at h;refine BN (c:=ed) (fun v=>J5 AR AV AX AZ IL v.1 v.2) (fun v s=>J6 AR AV AX AZ IL v.1 v.2 s) (Ll AR AV AX AZ IL) ?_ h hM;clear h hM s v r;intro v s o hM h;obtain⟨out,El⟩:=v;dsimp only at h hM;unfold J5 at h;unfold J6 at hM;obtain⟨m0,m1,⟨w2_,m2⟩,m3,m4⟩:=hM;unfold ed;rcases iS h with⟨e2,h⟩|⟨e2,h⟩
 ·obtain⟨e3,h⟩:=FK h;obtain⟨AY,hl5,h⟩:=Ag h;try dsimp only at h
  simp (maxDischargeDepth:=9) only [↓AP,AQ,↓reduceIte,Nat.reduceEqDiff,Nat.reduceLT,m1,m2,m3,m4,e2,e3.1,e3.2];refine Av (YQ AR AV AX AZ IL out El hl5 ?_) ?_
  ·simp (maxDischargeDepth:=9) only [C9,↓reduceIte,Nat.reduceEqDiff,m0,m1,m2,m3,m4,GV]<;>(repeat' apply A7)<;>first|rfl|exact⟨_,rfl⟩|exact⟨_,_,rfl⟩|simp [AL,BP]
  ·intro ex5 s5 hX5;unfold Lj at hX5;obtain⟨rfl,n5_0,n5_1,⟨w2_,n5_2⟩,n5_3,n5_4⟩:=hX5
   obtain rfl:=Option.some.inj h
   simp (maxDischargeDepth:=9) only [↓AP,AQ,↓reduceIte,Nat.reduceEqDiff,Nat.reduceLT,n5_0,n5_1,n5_2,n5_3,n5_4,J6,GZ]<;>(repeat' apply A7)<;>first|rfl|exact⟨_,rfl⟩|exact⟨_,_,rfl⟩|simp [AL,BP]
 ·obtain rfl:=Option.some.inj h
  simp (maxDischargeDepth:=9) only [↓AP,AQ,↓reduceIte,Nat.reduceEqDiff,Nat.reduceLT,m1,m3,m4,e2,J6,Ll,KW]
theorem ZZ(AR:Int)(AV:Int)(AX:List (List Int))(AZ:List (List Int))(l:List (List Int)){r:(List (List Int))}(h:QY AR AV AX AZ l=some r):Y.call 35 [D.agg [D.int .i64 AR,D.int .i64 AV,D.sl 26 (AL (fun x=>D.sl 3 (AL (D.int .i64) x)) AX),D.sl 26 (AL (fun x=>D.sl 3 (AL (D.int .i64) x)) AZ)],D.sl 26 (AL (fun x=>D.sl 3 (AL (D.int .i64) x)) l)] []=some (D.own 26 (AL (fun x=>D.own 3 (AL (D.int .i64) x)) r),[]):=by
 refine c35 ?_ rfl;unfold k35;unfold QY at h;obtain⟨IL,hl1,h⟩:=Ag h;have c1:=RL l hl1;obtain⟨Ec,hl3,h⟩:=Ag h;try dsimp only at h
 simp (maxDischargeDepth:=9) only [↓AP,AQ,↓reduceIte,Nat.reduceEqDiff,Nat.reduceLT,Nat.reduceAdd,c1];refine Av (YR AR AV AX AZ IL hl3 ?_) ?_
 ·simp (maxDischargeDepth:=9) only [C9,↓reduceIte,Nat.reduceEqDiff,Nat.reduceAdd,J6]<;>(repeat' apply A7)<;>first|rfl|exact⟨_,rfl⟩|exact⟨_,_,rfl⟩|simp [AL,BP]
 ·intro ex3 s3 hX3;unfold Ll at hX3;obtain⟨rfl,n3_0⟩:=hX3
  obtain rfl:=Option.some.inj h
  simp (maxDischargeDepth:=9) only [↓AP,AQ,↓reduceIte,Nat.reduceEqDiff,Nat.reduceLT,n3_0]
noncomputable def Jw(n_1:Int)(i1:Int):Option ((Int×Int)⊕(Int)):= if 0<i1 then some (Sum.inl (IntKind.i64.wrap (n_1.tdiv 2),IntKind.i64.wrap (i1-1))) else some (Sum.inr n_1)
noncomputable def NT(v:Int×Int):Option (Int):=I4 (fun v=>Jw v.1 v.2) v
noncomputable def WE(n_:Int)(i:Int):Option (Int):= (NT (n_,i)).bind fun AY=> some (AY.tmod 2)
def ek:SC:= .seq (.seq (.ops [oM 5 1 3,oB 6 .gtr 3 (tK 5) (iK 0) 3 4]) (.cond (tK 6) .skip (.exit 0))) (.seq (.block 1 (.ops [oM 9 0 3,oB 10 .quo 3 (tK 9) (iK 2) 3 3,oA 0 10 3])) (.ops [oM 7 1 3,oB 8 .sub 3 (tK 7) (iK 1) 3 3,oA 1 8 3]))
def xB:SC:= .loop ek
def k93:SC:= .seq (.ops [oX 4 (.assign (iK 0)) 3]) (.seq (.block 0 xB) (.seq (.ops [oM 11 0 3,oB 12 .rem 3 (tK 11) (iK 2) 3 3,oA 4 12 3]) .ret))
theorem A5o:Tryz.f93.body.map (Bf lends)=some k93:=by kernel_rfl
theorem AIk:Bz Tryz.f93 2=true:=by kernel_rfl
theorem c93{a l:List D}{r:D×List D}(h:CF Y.env k93 (ES Ae l.length [ResultVar.tmp 4] r) (entry a l))(ha:a.length=2):Y.call 93 a l=some r:=
 Ab (Y:=Y) rfl Tryz.func93 (ha▸AIk) A5o h
def Jy(n_1:Int)(i1:Int)(s:St):Prop:=s.v 0=D.int .i64 n_1∧s.v 1=D.int .i64 i1
def Mm(r:Int)(ex:Ex)(s:St):Prop:=ex= .exit 0∧s.v 0=D.int .i64 r
theorem Za{v:Int×Int}{s:St}{r:Int}(h:NT v=some r)(hM:Jy v.1 v.2 s):CF Y.env xB (Mm r) s:=by
 unfold NT at h;refine BN (c:=ek) (fun v=>Jw v.1 v.2) (fun v s=>Jy v.1 v.2 s) (Mm) ?_ h hM;clear h hM s v r;intro v s o hM h;obtain⟨n_1,i1⟩:=v;dsimp only at h hM;unfold Jw at h;unfold Jy at hM;obtain⟨m0,m1⟩:=hM;unfold ek;rcases iS h with⟨e1,h⟩|⟨e1,h⟩
 ·obtain rfl:=Option.some.inj h
  simp (maxDischargeDepth:=9) only [↓AP,AQ,↓reduceIte,Nat.reduceEqDiff,Nat.reduceLT,Int.reduceEq,m0,m1,e1,Jy,GZ]
 ·obtain rfl:=Option.some.inj h
  simp (maxDischargeDepth:=9) only [↓AP,AQ,↓reduceIte,Nat.reduceEqDiff,Nat.reduceLT,m0,m1,e1,Jy,Mm,KW]
theorem eu(n_:Int)(i:Int){r:Int}(h:WE n_ i=some r):Y.call 93 [D.int .i64 n_,D.int .i64 i] []=some (D.int .i64 r,[]):=by
 refine c93 ?_ rfl;unfold k93;unfold WE at h;obtain⟨AY,hl2,h⟩:=Ag h;try dsimp only at h
 simp (maxDischargeDepth:=9) only [↓AP,AQ,↓reduceIte,Nat.reduceEqDiff,Nat.reduceLT];refine Av (Za hl2 ?_) ?_
 ·simp (maxDischargeDepth:=9) only [C9,DK,↓reduceIte,Nat.reduceEqDiff,Nat.reduceLT,Jy]
 ·intro ex2 s2 hX2;unfold Mm at hX2;obtain⟨rfl,n2_0⟩:=hX2
  obtain rfl:=Option.some.inj h
  simp (maxDischargeDepth:=9) only [↓AP,AQ,↓reduceIte,Nat.reduceEqDiff,Nat.reduceLT,Int.reduceEq,n2_0]
noncomputable def Kz(mask:Int)(a:Int):Option (Bool):= (WE mask a).bind fun vX=> some (decide (vX=1))
def k61:SC:= .seq (.ops [oX 4 (.assign (.const (.bool false))) 4]) (.seq (.ops [oM 5 0 3,oM 6 1 3,oC 7 93 [(tK 5),(tK 6)] [3,3] 3,oB 8 .eql 3 (tK 7) (iK 1) 3 4,oA 4 8 4]) .ret)
theorem A5p:Tryz.f61.body.map (Bf lends)=some k61:=by kernel_rfl
theorem AIm:Bz Tryz.f61 2=true:=by kernel_rfl
theorem c61{a l:List D}{r:D×List D}(h:CF Y.env k61 (ES Ae l.length [ResultVar.tmp 4] r) (entry a l))(ha:a.length=2):Y.call 61 a l=some r:=
 Ab (Y:=Y) rfl Tryz.func61 (ha▸AIm) A5p h
theorem ML(mask:Int)(a:Int){r:Bool}(h:Kz mask a=some r):Y.call 61 [D.int .i64 mask,D.int .i64 a] []=some (D.bool r,[]):=by
 refine c61 ?_ rfl;unfold k61;unfold Kz at h;obtain⟨vX,hl1,h⟩:=Ag h;try dsimp only at h
 have c1:=eu mask a hl1
 obtain rfl:=Option.some.inj h
 simp (maxDischargeDepth:=9) only [↓AP,AQ,↓reduceIte,Nat.reduceEqDiff,Nat.reduceLT,Nat.reduceAdd,c1]
noncomputable def Hl(rec_:(List Int)→(List Int)→Int→Option Bool)(x_:List Int)(masks:List Int)(k:Int)(D5:Int):Option ((Int)⊕(Unit⊕Unit)):= if D5<(x_.length:Int)then ck (0≤D5∧D5.toNat<x_.length)<| if 0<D5 then ck (0≤IntKind.i64.wrap (D5-1)∧(IntKind.i64.wrap (D5-1)).toNat<x_.length)<| if(x_.getD ((IntKind.i64.wrap (D5-1)).toNat) default)=(x_.getD D5.toNat default)then some (Sum.inl (IntKind.i64.wrap (D5+1))) else ck (0≤k∧k.toNat<masks.length)<| (Kz (masks.getD k.toNat default) (x_.getD D5.toNat default)).bind fun mr=> if mr=true then ck (0≤D5)<| ck (D5.toNat≤x_.length)<| (Lg ((x_.take D5.toNat).drop 0)).bind fun nA=> ck (0≤IntKind.i64.wrap (D5+1))<| ck ((IntKind.i64.wrap (D5+1)).toNat≤x_.length)<| ck (nA.length+((x_.take x_.length).drop ((IntKind.i64.wrap (D5+1)).toNat)).length<1099511627776)<| (rec_ (nA++((x_.take x_.length).drop ((IntKind.i64.wrap (D5+1)).toNat))) masks (IntKind.i64.wrap (k+1))).bind fun YN=> if YN=true then some (Sum.inr (Sum.inl ())) else some (Sum.inl (IntKind.i64.wrap (D5+1))) else some (Sum.inl (IntKind.i64.wrap (D5+1))) else ck (0≤k∧k.toNat<masks.length)<| (Kz (masks.getD k.toNat default) (x_.getD D5.toNat default)).bind fun mr=> if mr=true then ck (0≤D5)<| ck (D5.toNat≤x_.length)<|
 (Lg ((x_.take D5.toNat).drop 0)).bind fun nA=> ck (0≤IntKind.i64.wrap (D5+1))<| ck ((IntKind.i64.wrap (D5+1)).toNat≤x_.length)<| ck (nA.length+((x_.take x_.length).drop ((IntKind.i64.wrap (D5+1)).toNat)).length<1099511627776)<| (rec_ (nA++((x_.take x_.length).drop ((IntKind.i64.wrap (D5+1)).toNat))) masks (IntKind.i64.wrap (k+1))).bind fun YN=> if YN=true then some (Sum.inr (Sum.inl ())) else some (Sum.inl (IntKind.i64.wrap (D5+1))) else some (Sum.inl (IntKind.i64.wrap (D5+1))) else some (Sum.inr (Sum.inr ()))
noncomputable def Mo(rec_:(List Int)→(List Int)→Int→Option Bool)(x_:List Int)(masks:List Int)(k:Int)(v:Int):Option (Unit⊕Unit):=I4 (fun v=>Hl rec_ x_ masks k v) v
noncomputable def JX(rec_:(List Int)→(List Int)→Int→Option Bool)(x_:List Int)(masks:List Int)(k:Int):Option (Bool):=
 if k=(masks.length:Int)then
  some true
 else
  (Mo rec_ x_ masks k 0).bind fun AY=>
  match AY with
  | .inl q1000_=>
   some true
  | .inr q1000_=>
   some false
noncomputable def EQ:Nat→(List Int)→(List Int)→Int→Option Bool |0=>fun _ _ _=>none |n+1=>fun x_ masks k=>JX (EQ n) x_ masks k
noncomputable def UV(x_:List Int)(masks:List Int)(k:Int):Option (Bool):=EQ 1000000 x_ masks k
def YS:SC:= .seq (.ops [oB 16 .lss 3 (tK 15) (tK 14) 3 0]) (.seq (.cond (tK 16) .skip (.exit 0)) (.seq (.block 1 (.seq (.ops [oM 17 15 3,oI 18 26 13 15,oL 19 3 18 3,oA 7 17 3,oA 8 19 3]) (.seq (.seq (.ops [oM 20 7 3,oB 21 .gtr 3 (tK 20) (iK 0) 3 4,oM 22 21 4,⟨(some 23),(.move (tK 0)),26,(some (some 22,true))⟩,⟨(some 24),(.move (tK 7)),3,(some (some 22,true))⟩,⟨(some 25),(.binOp .sub 3 (tK 24) (iK 1) 3),3,(some (some 22,true))⟩,⟨(some 26),(.indexAddr 26 (tK 23) (tK 25)),0,(some (some 22,true))⟩,⟨(some 27),(.load 3 (tK 26)),3,(some (some 22,true))⟩,⟨(some 28),(.move (tK 8)),3,(some (some 22,true))⟩,⟨(some 29),(.binOp .eql 3 (tK 27) (tK 28) 3),4,(some (some 22,true))⟩,oX 30 (.pick (tK 22) (tK 29) (.const (.bool false))) 4,oM 31 30 4,⟨(some 32),(.move (tK 1)),26,(some (some 31,false))⟩,⟨(some 33),(.move (tK 2)),3,(some (some 31,false))⟩,⟨(some 34),(.indexAddr 26 (tK 32) (tK 33)),0,(some (some 31,false))⟩,⟨(some 35),(.load 3 (tK 34)),3,(some (some 31,false))⟩,⟨(some 36),(.move (tK 8)),3,(some (some 31,false))⟩,⟨(some 37),(.call ⟨(.value (.func 61)), #[(tK 35),(tK 36)], #[3,3]⟩),4,(some (some 31,false))⟩,⟨(some 38),(.unOp .not 4 (tK 37)),4,(some (some 31,false))⟩,
 oX 39 (.pick (tK 31) (.const (.bool true)) (tK 38)) 4]) (.cond (tK 39) (.exit 1) .skip)) (.seq (.draws [(⟨[40,0,0],[40,41,42,43,44,45,46,47,48,43,47,43,0,49,50,51,52],[40]⟩,oM 40 0 26),(⟨[41,7,7],[40,41,42,43,44,45,46,47,48,43,47,43,0,49,50,51,52],[41]⟩,oM 41 7 3),(⟨[42,40,41,0,7],[40,41,42,43,44,45,46,47,48,43,47,43,0,49,50,51,52],[42]⟩,oX 42 (.slice 26 (tK 40) none (some (tK 41)) none) 26),(⟨[43,42,0],[40,41,42,43,44,45,46,47,48,43,47,43,0,49,50,51,52],[43]⟩,oC 43 92 [(tK 42)] [26] 26),(⟨[44,0,0],[40,41,42,43,44,45,46,47,48,43,47,43,0,49,50,51,52],[44]⟩,oM 44 0 26),(⟨[45,7,7],[40,41,42,43,44,45,46,47,48,43,47,43,0,49,50,51,52],[45]⟩,oM 45 7 3),(⟨[46,45,7],[40,41,42,43,44,45,46,47,48,43,47,43,0,49,50,51,52],[46]⟩,oB 46 .add 3 (tK 45) (iK 1) 3 3),(⟨[47,44,46,0,46],[40,41,42,43,44,45,46,47,48,43,47,43,0,49,50,51,52],[47]⟩,oX 47 (.slice 26 (tK 44) (some (tK 46)) none none) 26),(⟨[48,43,47,43,0],[40,41,42,43,44,45,46,47,48,43,47,43,0,49,50,51,52],[48,43,47,43,0]⟩,oX 48 (.call ⟨(.builtin .append), #[(tK 43),(tK 47)], #[26,26]⟩) 26),(⟨[49,1,1],[40,41,42,43,44,45,46,47,48,43,47,43,0,49,50,51,52],[49]⟩,oM 49 1 26),(⟨[50,2,2],[40,41,42,43,44,45,46,47,48,43,47,43,0,49,50,51,52],[50]⟩,oM 50 2 3),
 (⟨[51,50,2],[40,41,42,43,44,45,46,47,48,43,47,43,0,49,50,51,52],[51]⟩,oB 51 .add 3 (tK 50) (iK 1) 3 3),(⟨[52,48,49,51,48,1,51],[40,41,42,43,44,45,46,47,48,43,47,43,0,49,50,51,52],[52]⟩,oC 52 124 [(tK 48),(tK 49),(tK 51)] [26,26,3] 4)]) (.cond (tK 52) (.seq (.ops [oX 6 (.assign (.const (.bool true))) 4]) .ret) .skip))))) (.ops [oB 53 .add 3 (tK 15) (iK 1) 3 3,oM 15 53 3])))
def oV:SC:= .loop YS
def A5q:SC:= .seq (.ops [oX 6 (.assign (.const (.bool false))) 4]) (.seq (.seq (.ops [oM 9 2 3,oM 10 1 26,oN 11 10 26,oB 12 .eql 3 (tK 9) (tK 11) 3 4]) (.cond (tK 12) (.seq (.ops [oX 6 (.assign (.const (.bool true))) 4]) .ret) .skip)) (.seq (.seq (.ops [oM 13 0 26,oN 14 13 26,oX 15 (.move (iK 0)) 3]) (.block 0 oV)) (.seq (.ops [oX 6 (.assign (.const (.bool false))) 4]) .ret)))
theorem ze:Tryz.f124.body.map (Bf lends)=some A5q:=by kernel_rfl
theorem ACh:Bz Tryz.f124 3=true:=by kernel_rfl
theorem AIn{a l:List D}{r:D×List D}(h:CF Y.env A5q (ES Ae l.length [ResultVar.tmp 6] r) (entry a l))(ha:a.length=3):Y.call 124 a l=some r:=
 Ab (Y:=Y) rfl Tryz.func124 (ha▸ACh) ze h
def Ck(rec_:(List Int)→(List Int)→Int→Option Bool)(x_:List Int)(masks:List Int)(k:Int)(D5:Int)(s:St):Prop:=s.v 0=D.sl 3 (AL (D.int .i64) x_)∧s.v 1=D.sl 3 (AL (D.int .i64) masks)∧s.v 2=D.int .i64 k∧s.v 13=D.sl 3 (AL (D.int .i64) x_)∧s.v 14=D.int .i64 (x_.length:Int)∧s.v 15=D.int .i64 D5
def FU(rec_:(List Int)→(List Int)→Int→Option Bool)(x_:List Int)(masks:List Int)(k:Int)(r:Unit⊕Unit)(ex:Ex)(s:St):Prop:=match r with
 | .inl q=>ex= .ret∧s.v 6=D.bool true
 | .inr q=>ex= .exit 0
theorem Vj(rec_:(List Int)→(List Int)→Int→Option Bool)(x_:List Int)(masks:List Int)(k:Int)(rec_h: ∀(x_:List Int) (masks:List Int) (k:Int) (r:Bool),rec_ x_ masks k=some r→Y.call 124 [D.sl 3 (AL (D.int .i64) x_),D.sl 3 (AL (D.int .i64) masks),D.int .i64 k] []=some (D.bool r,[])){v:Int}{s:St}{r:Unit⊕Unit}(h:Mo rec_ x_ masks k v=some r)(hM:Ck rec_ x_ masks k v s):CF Y.env oV (FU rec_ x_ masks k r) s:=by
 unfold Mo at h;refine BN (c:=YS) (fun v=>Hl rec_ x_ masks k v) (fun v s=>Ck rec_ x_ masks k v s) (FU rec_ x_ masks k) ?_ h hM;clear h hM s v r;intro D5 s o hM h;unfold Hl at h;unfold Ck at hM;obtain⟨m0,m1,m2,m3,m4,m5⟩:=hM;unfold YS;rcases iS h with⟨e2,h⟩|⟨e2,h⟩
 ·obtain⟨e3,h⟩:=FK h;rcases iS h with⟨e4,h⟩|⟨e4,h⟩
  ·obtain⟨e5,h⟩:=FK h;rcases iS h with⟨e6,h⟩|⟨e6,h⟩
   ·obtain rfl:=Option.some.inj h
    simp (maxDischargeDepth:=9) only [↓AP,AQ,↓reduceIte,Nat.reduceEqDiff,Nat.reduceLT,m0,m1,m2,m3,m4,m5,e2,e3.1,e3.2,e4,e5.1,e5.2,decide_eq_true e6,Ck,GZ]
   ·obtain⟨e7,h⟩:=FK h;obtain⟨mr,hl8,h⟩:=Ag h;have c8:=ML (masks.getD k.toNat default) (x_.getD D5.toNat default) hl8;rcases iS h with⟨e9,h⟩|⟨e9,h⟩
    ·obtain⟨e10,e11,h⟩:=Ei h;obtain⟨nA,hl12,h⟩:=Ag h;have oD:=Mh ((x_.take D5.toNat).drop 0) hl12;obtain⟨e13,e14,e15,h⟩:=Oa h;obtain⟨YN,hl16,h⟩:=Ag h;have c16:=rec_h _ _ _ _ hl16;rcases iS h with⟨e17,h⟩|⟨e17,h⟩
     ·obtain rfl:=Option.some.inj h
      simp (maxDischargeDepth:=9) only [↓AP,AQ,↓reduceIte,Nat.reduceEqDiff,Nat.reduceLT,Nat.reduceLeDiff,Nat.reduceAdd,m0,m1,m2,m3,m4,m5,e2,e3.1,e3.2,e4,e5.1,e5.2,e6,e7.1,e7.2,c8,e9,e11,oD,e13,e14,e15,c16,e17,Ck,FU,MP]
     ·have e17f:YN=false:=Fx.mpr e17
      obtain rfl:=Option.some.inj h
      simp (maxDischargeDepth:=9) only [↓AP,AQ,↓reduceIte,Nat.reduceEqDiff,Nat.reduceLT,Nat.reduceLeDiff,Nat.reduceAdd,m0,m1,m2,m3,m4,m5,e2,e3.1,e3.2,e4,e5.1,e5.2,e6,e7.1,e7.2,c8,e9,e11,oD,e13,e14,e15,c16,e17f,Ck,GZ]
    ·have e9f:mr=false:=Fx.mpr e9
     obtain rfl:=Option.some.inj h
     simp (maxDischargeDepth:=9) only [↓AP,AQ,↓reduceIte,Nat.reduceEqDiff,Nat.reduceLT,Nat.reduceAdd,m0,m1,m2,m3,m4,m5,e2,e3.1,e3.2,e4,e5.1,e5.2,e6,e7.1,e7.2,c8,e9f,Ck,GZ]
  ·obtain⟨e5,h⟩:=FK h;obtain⟨mr,hl6,h⟩:=Ag h;have c6:=ML (masks.getD k.toNat default) (x_.getD D5.toNat default) hl6;rcases iS h with⟨e7,h⟩|⟨e7,h⟩
   ·obtain⟨e8,e9,h⟩:=Ei h;obtain⟨nA,hl10,h⟩:=Ag h;have RH:=Mh ((x_.take D5.toNat).drop 0) hl10;obtain⟨e11,e12,e13,h⟩:=Oa h;obtain⟨YN,hl14,h⟩:=Ag h;have ZY:=rec_h _ _ _ _ hl14;rcases iS h with⟨e15,h⟩|⟨e15,h⟩
    ·obtain rfl:=Option.some.inj h
     simp (maxDischargeDepth:=9) only [↓AP,AQ,↓reduceIte,Nat.reduceEqDiff,Nat.reduceLT,Nat.reduceLeDiff,Nat.reduceAdd,m0,m1,m2,m3,m4,m5,e2,e3.1,e3.2,e4,e5.1,e5.2,c6,e7,e9,RH,e11,e12,e13,ZY,e15,Ck,FU,MP]
    ·have e15f:YN=false:=Fx.mpr e15
     obtain rfl:=Option.some.inj h
     simp (maxDischargeDepth:=9) only [↓AP,AQ,↓reduceIte,Nat.reduceEqDiff,Nat.reduceLT,Nat.reduceLeDiff,Nat.reduceAdd,m0,m1,m2,m3,m4,m5,e2,e3.1,e3.2,e4,e5.1,e5.2,c6,e7,e9,RH,e11,e12,e13,ZY,e15f,Ck,GZ]
   ·have e7f:mr=false:=Fx.mpr e7
    obtain rfl:=Option.some.inj h
    simp (maxDischargeDepth:=9) only [↓AP,AQ,↓reduceIte,Nat.reduceEqDiff,Nat.reduceLT,Nat.reduceAdd,m0,m1,m2,m3,m4,m5,e2,e3.1,e3.2,e4,e5.1,e5.2,c6,e7f,Ck,GZ]
 ·obtain rfl:=Option.some.inj h
  simp (maxDischargeDepth:=9) only [↓AP,AQ,↓reduceIte,Nat.reduceLT,m4,m5,e2,Ck,FU,KW]
theorem UW(rec_:(List Int)→(List Int)→Int→Option Bool)(x_:List Int)(masks:List Int)(k:Int)(rec_h: ∀(x_:List Int) (masks:List Int) (k:Int) (r:Bool),rec_ x_ masks k=some r→Y.call 124 [D.sl 3 (AL (D.int .i64) x_),D.sl 3 (AL (D.int .i64) masks),D.int .i64 k] []=some (D.bool r,[])){r:Bool}(h:JX rec_ x_ masks k=some r):Y.call 124 [D.sl 3 (AL (D.int .i64) x_),D.sl 3 (AL (D.int .i64) masks),D.int .i64 k] []=some (D.bool r,[]):=by
 refine AIn ?_ rfl;unfold A5q;unfold JX at h;rcases iS h with⟨e1,h⟩|⟨e1,h⟩
 ·obtain rfl:=Option.some.inj h
  simp (maxDischargeDepth:=9) only [↓AP,AQ,↓reduceIte,Nat.reduceEqDiff,Nat.reduceLT,decide_eq_true e1]
 ·obtain⟨AY,hl3,h⟩:=Ag h;try dsimp only at h
  simp (maxDischargeDepth:=9) only [↓AP,AQ,↓reduceIte,Nat.reduceEqDiff,Nat.reduceLT,e1];refine Av (Vj rec_ x_ masks k rec_h hl3 ?_) ?_
  ·simp (maxDischargeDepth:=9) only [C9,DK,↓reduceIte,Nat.reduceEqDiff,Nat.reduceLT,Ck]
  ·intro ex3 s3 hX3;rcases AY with q1000_|q1000_
   ·unfold FU at hX3;dsimp only at hX3 h;obtain⟨rfl,n3_0⟩:=hX3
    obtain rfl:=Option.some.inj h
    simp (maxDischargeDepth:=9) only [↓AP,AQ,↓reduceIte,n3_0]
   ·unfold FU at hX3;dsimp only at hX3 h
    obtain rfl:=hX3
    obtain rfl:=Option.some.inj h
    simp (maxDischargeDepth:=9) only [↓AP,AQ,↓reduceIte,Nat.reduceEqDiff,Nat.reduceLT]
theorem UX(n:Nat): ∀(x_:List Int) (masks:List Int) (k:Int) (r:Bool),EQ n x_ masks k=some r→Y.call 124 [D.sl 3 (AL (D.int .i64) x_),D.sl 3 (AL (D.int .i64) masks),D.int .i64 k] []=some (D.bool r,[]):=by
 induction n with
 |zero=>intro x_ masks k r h;exact absurd h (by rw [EQ];exact fun e=>by cases e)
 |succ n ih=>intro x_ masks k r h;rw [EQ]at h;exact UW (EQ n) x_ masks k ih h
theorem YT(x_:List Int)(masks:List Int)(k:Int){r:Bool}(h:UV x_ masks k=some r):Y.call 124 [D.sl 3 (AL (D.int .i64) x_),D.sl 3 (AL (D.int .i64) masks),D.int .i64 k] []=some (D.bool r,[]):=UX 1000000 x_ masks k r h
noncomputable def Fp(AX:List (List Int))(masks:List Int)(NQ:Int):Option ((Int)⊕(Unit⊕Unit)):= if NQ<(AX.length:Int)then ck (0≤NQ∧NQ.toNat<AX.length)<| (UV (AX.getD NQ.toNat default) masks (0:Int)).bind fun Xd=> if Xd=true then some (Sum.inr (Sum.inl ())) else some (Sum.inl (IntKind.i64.wrap (NQ+1))) else some (Sum.inr (Sum.inr ()))
noncomputable def Lm(AX:List (List Int))(masks:List Int)(v:Int):Option (Unit⊕Unit):=I4 (fun v=>Fp AX masks v) v
noncomputable def NU(AR:Int)(AV:Int)(AX:List (List Int))(AZ:List (List Int))(masks:List Int):Option (Bool):=
 (Lm AX masks 0).bind fun AY=>
 match AY with
 | .inl q1000_=>
  some true
 | .inr q1000_=>
  some false
def fA:SC:= .seq (.ops [oB 11 .lss 3 (tK 10) (tK 9) 3 0]) (.seq (.cond (tK 11) .skip (.exit 0)) (.seq (.block 1 (.seq (.ops [oI 12 22 8 10,oL 13 26 12 26,oA 6 13 26]) (.seq (.ops [oM 14 6 26,oM 15 1 26,oC 16 124 [(tK 14),(tK 15),(iK 0)] [26,26,3] 4]) (.cond (tK 16) (.seq (.ops [oX 4 (.assign (.const (.bool true))) 4]) .ret) .skip)))) (.ops [oB 17 .add 3 (tK 10) (iK 1) 3 3,oM 10 17 3])))
def xC:SC:= .loop fA
def k95:SC:= .seq (.ops [oX 2 (.box 34 (tK 0)) 0,oX 4 (.assign (.const (.bool false))) 4]) (.seq (.seq (.ops [oF 7 34 2 2,oL 8 22 7 22,oN 9 8 22,oX 10 (.move (iK 0)) 3]) (.block 0 xC)) (.seq (.ops [oX 4 (.assign (.const (.bool false))) 4]) .ret))
theorem A5r:Tryz.f95.body.map (Bf lends)=some k95:=by kernel_rfl
theorem AIp:Bz Tryz.f95 2=true:=by kernel_rfl
theorem c95{a l:List D}{r:D×List D}(h:CF Y.env k95 (ES Ae l.length [ResultVar.tmp 4] r) (entry a l))(ha:a.length=2):Y.call 95 a l=some r:=
 Ab (Y:=Y) rfl Tryz.func95 (ha▸AIp) A5r h
def Ed(AX:List (List Int))(masks:List Int)(NQ:Int)(s:St):Prop:=s.v 1=D.sl 3 (AL (D.int .i64) masks)∧s.v 8=D.sl 26 (AL (fun x=>D.sl 3 (AL (D.int .i64) x)) AX)∧s.v 9=D.int .i64 (AX.length:Int)∧s.v 10=D.int .i64 NQ
def Fq(AX:List (List Int))(masks:List Int)(r:Unit⊕Unit)(ex:Ex)(s:St):Prop:=match r with
 | .inl q=>ex= .ret∧s.v 4=D.bool true
 | .inr q=>ex= .exit 0
theorem UY(AX:List (List Int))(masks:List Int){v:Int}{s:St}{r:Unit⊕Unit}(h:Lm AX masks v=some r)(hM:Ed AX masks v s):CF Y.env xC (Fq AX masks r) s:=by
 unfold Lm at h;refine BN (c:=fA) (fun v=>Fp AX masks v) (fun v s=>Ed AX masks v s) (Fq AX masks) ?_ h hM;clear h hM s v r;intro NQ s o hM h;unfold Fp at h;unfold Ed at hM;obtain⟨m0,m1,m2,m3⟩:=hM;unfold fA;rcases iS h with⟨e1,h⟩|⟨e1,h⟩
 ·obtain⟨e2,h⟩:=FK h;obtain⟨Xd,hl3,h⟩:=Ag h;have c3:=YT (AX.getD NQ.toNat default) masks (0:Int) hl3;rcases iS h with⟨e4,h⟩|⟨e4,h⟩
  ·obtain rfl:=Option.some.inj h
   simp (maxDischargeDepth:=9) only [↓AP,AQ,↓reduceIte,Nat.reduceEqDiff,Nat.reduceLT,Nat.reduceAdd,m0,m1,m2,m3,e1,e2.1,e2.2,c3,e4,Ed,Fq,MP]
  ·have e4f:Xd=false:=Fx.mpr e4
   obtain rfl:=Option.some.inj h
   simp (maxDischargeDepth:=9) only [↓AP,AQ,↓reduceIte,Nat.reduceEqDiff,Nat.reduceLT,Nat.reduceAdd,m0,m1,m2,m3,e1,e2.1,e2.2,c3,e4f,Ed,GZ]
 ·obtain rfl:=Option.some.inj h
  simp (maxDischargeDepth:=9) only [↓AP,AQ,↓reduceIte,Nat.reduceLT,m2,m3,e1,Ed,Fq,KW]
theorem Vk(AR:Int)(AV:Int)(AX:List (List Int))(AZ:List (List Int))(masks:List Int){r:Bool}(h:NU AR AV AX AZ masks=some r):Y.call 95 [D.agg [D.int .i64 AR,D.int .i64 AV,D.sl 26 (AL (fun x=>D.sl 3 (AL (D.int .i64) x)) AX),D.sl 26 (AL (fun x=>D.sl 3 (AL (D.int .i64) x)) AZ)],D.sl 3 (AL (D.int .i64) masks)] []=some (D.bool r,[]):=by
 refine c95 ?_ rfl;unfold k95;unfold NU at h;obtain⟨AY,hl2,h⟩:=Ag h;try dsimp only at h
 simp (maxDischargeDepth:=9) only [↓AP,AQ,↓reduceIte,Nat.reduceEqDiff,Nat.reduceLT,Nat.reduceAdd];refine Av (UY AX masks hl2 ?_) ?_
 ·simp (maxDischargeDepth:=9) only [C9,DK,↓reduceIte,Nat.reduceEqDiff,Nat.reduceLT,Ed]
 ·intro ex2 s2 hX2;rcases AY with q1000_|q1000_
  ·unfold Fq at hX2;dsimp only at hX2 h;obtain⟨rfl,n2_0⟩:=hX2
   obtain rfl:=Option.some.inj h
   simp (maxDischargeDepth:=9) only [↓AP,AQ,↓reduceIte,n2_0]
  ·unfold Fq at hX2;dsimp only at hX2 h
   obtain rfl:=hX2
   obtain rfl:=Option.some.inj h
   simp (maxDischargeDepth:=9) only [↓AP,AQ,↓reduceIte,Nat.reduceEqDiff,Nat.reduceLT]
noncomputable def EF(A9:Int)(AC:Int)(AJ:List (List Int))(AB:List (List Int))(AO:List (List (Int×Int)))(Aa:List Int)(A8:List Int)(Cf:List (List Int))(Ga:Int)(MZ:Int)(UZ:Int)(El:Bool)(D5:Int):Option ((Bool×Int)⊕(Bool)):= if D5<A9 then if(((CV (AO.getD Ga.toNat default) MZ.toNat)==Ga)&&((Cx (AO.getD Ga.toNat default) MZ.toNat)==MZ))=true then if El=true then some (Sum.inl (true,IntKind.i64.wrap (D5+1))) else if UZ=D5 then ck (0≤(CV (AO.getD Ga.toNat default) MZ.toNat)∧(CV (AO.getD Ga.toNat default) MZ.toNat).toNat<Cf.length)<| ck (0≤(Cx (AO.getD Ga.toNat default) MZ.toNat)∧(Cx (AO.getD Ga.toNat default) MZ.toNat).toNat<(Cf.getD ((CV (AO.getD Ga.toNat default) MZ.toNat).toNat) default).length)<| (Kz ((Cf.getD ((CV (AO.getD Ga.toNat default) MZ.toNat).toNat) default).getD ((Cx (AO.getD Ga.toNat default) MZ.toNat).toNat) default) D5).bind fun fB=> if fB=true then ck (BB AB)<| some (Sum.inl ((Na AB UZ D5),IntKind.i64.wrap (D5+1))) else some (Sum.inl (false,IntKind.i64.wrap (D5+1))) else some (Sum.inl (false,IntKind.i64.wrap (D5+1))) else if El=true then some (Sum.inl (true,IntKind.i64.wrap (D5+1))) else ck (0≤(CV (AO.getD Ga.toNat default) MZ.toNat)∧(CV (AO.getD Ga.toNat default) MZ.toNat).toNat<Cf.length)<|
 ck (0≤(Cx (AO.getD Ga.toNat default) MZ.toNat)∧(Cx (AO.getD Ga.toNat default) MZ.toNat).toNat<(Cf.getD ((CV (AO.getD Ga.toNat default) MZ.toNat).toNat) default).length)<| (Kz ((Cf.getD ((CV (AO.getD Ga.toNat default) MZ.toNat).toNat) default).getD ((Cx (AO.getD Ga.toNat default) MZ.toNat).toNat) default) D5).bind fun fB=> if fB=true then ck (BB AB)<| some (Sum.inl ((Na AB UZ D5),IntKind.i64.wrap (D5+1))) else some (Sum.inl (false,IntKind.i64.wrap (D5+1))) else some (Sum.inr El)
noncomputable def Hm(A9:Int)(AC:Int)(AJ:List (List Int))(AB:List (List Int))(AO:List (List (Int×Int)))(Aa:List Int)(A8:List Int)(Cf:List (List Int))(Ga:Int)(MZ:Int)(UZ:Int)(v:Bool×Int):Option (Bool):=I4 (fun v=>EF A9 AC AJ AB AO Aa A8 Cf Ga MZ UZ v.1 v.2) v
noncomputable def KG(A9:Int)(AC:Int)(AJ:List (List Int))(AB:List (List Int))(AO:List (List (Int×Int)))(Aa:List Int)(A8:List Int)(Cf:List (List Int))(Ga:Int)(MZ:Int)(UZ:Int):Option (Bool):= ck (0≤Ga∧Ga.toNat<AO.length)<| ck (0≤MZ∧MZ.toNat<(AO.getD Ga.toNat default).length)<| (Hm A9 AC AJ AB AO Aa A8 Cf Ga MZ UZ (false,0)).bind fun AY=> if AY=true then if((AO.getD Ga.toNat default).length:Int)=AC then ck (0≤Ga∧Ga.toNat<Cf.length)<| (Lg (Cf.getD Ga.toNat default)).bind fun zf=> ck (¬(IntKind.u64.wrap UZ)<0)<| ck (0≤MZ∧MZ.toNat<zf.length)<| (NU A9 AC AJ AB (zf.set MZ.toNat (IntKind.i64.wrap (1*2 ^ (min (IntKind.u64.wrap UZ).toNat (IntKind.i64.bits)))))).bind fun ACi=> some ACi else some AY else some AY
def fC:SC:= .seq (.seq (.ops [oM 26 15 3,oF 27 34 6 0,oL 28 3 27 3,oB 29 .lss 3 (tK 26) (tK 28) 3 4]) (.cond (tK 29) .skip (.exit 0))) (.seq (.block 1 (.seq (.ops [oL 32 87 13 87,oM 33 3 3,oM 34 4 3,oX 35 (.build 87 #[(0,(tK 33)),(1,(tK 34))]) 87,oB 36 .neq 87 (tK 32) (tK 35) 87 4,oM 37 36 4,⟨(some 38),(.move (tK 5)),3,(some (some 37,false))⟩,⟨(some 39),(.move (tK 15)),3,(some (some 37,false))⟩,⟨(some 40),(.binOp .eql 3 (tK 38) (tK 39) 3),4,(some (some 37,false))⟩,oX 41 (.pick (tK 37) (.const (.bool true)) (tK 40)) 4,oA 16 41 4]) (.draws [(⟨[42,14,14],[42,43,42,44,45,44,46,47,48,49,50,51,52,53,54,55,56,57,58,59,60,61,62,63,64,14,64,64],[42]⟩,oM 42 14 4),(⟨[43,42,14],[42,43,42,44,45,44,46,47,48,49,50,51,52,53,54,55,56,57,58,59,60,61,62,63,64,14,64,64],[43,42]⟩,oM 43 42 4),(⟨[44,16,16,43],[42,43,42,44,45,44,46,47,48,49,50,51,52,53,54,55,56,57,58,59,60,61,62,63,64,14,64,64],[44]⟩,⟨(some 44),(.move (tK 16)),4,(some (some 43,false))⟩),(⟨[45,44,16,43],[42,43,42,44,45,44,46,47,48,49,50,51,52,53,54,55,56,57,58,59,60,61,62,63,64,14,64,64],[45,44]⟩,⟨(some 45),(.move (tK 44)),4,(some (some 43,false))⟩),(⟨[46,2,2,45],[42,43,42,44,45,44,46,47,48,49,50,51,52,53,54,55,56,57,58,59,60,61,62,63,64,14,64,64],[46]⟩,⟨(some 46),(.move (tK 2)),22,(some (some 45,true))⟩),
 (⟨[47,13,13,45],[42,43,42,44,45,44,46,47,48,49,50,51,52,53,54,55,56,57,58,59,60,61,62,63,64,14,64,64],[47]⟩,⟨(some 47),(.fieldAddr 87 (tK 13) 0),0,(some (some 45,true))⟩),(⟨[48,47,13,45],[42,43,42,44,45,44,46,47,48,49,50,51,52,53,54,55,56,57,58,59,60,61,62,63,64,14,64,64],[48]⟩,⟨(some 48),(.load 3 (tK 47)),3,(some (some 45,true))⟩),(⟨[49,46,48,2,13,45],[42,43,42,44,45,44,46,47,48,49,50,51,52,53,54,55,56,57,58,59,60,61,62,63,64,14,64,64],[49]⟩,⟨(some 49),(.indexAddr 22 (tK 46) (tK 48)),0,(some (some 45,true))⟩),(⟨[50,49,2,45],[42,43,42,44,45,44,46,47,48,49,50,51,52,53,54,55,56,57,58,59,60,61,62,63,64,14,64,64],[50]⟩,⟨(some 50),(.load 26 (tK 49)),26,(some (some 45,true))⟩),(⟨[51,13,13,45],[42,43,42,44,45,44,46,47,48,49,50,51,52,53,54,55,56,57,58,59,60,61,62,63,64,14,64,64],[51]⟩,⟨(some 51),(.fieldAddr 87 (tK 13) 1),0,(some (some 45,true))⟩),(⟨[52,51,13,45],[42,43,42,44,45,44,46,47,48,49,50,51,52,53,54,55,56,57,58,59,60,61,62,63,64,14,64,64],[52]⟩,⟨(some 52),(.load 3 (tK 51)),3,(some (some 45,true))⟩),(⟨[53,50,52,2,13,45],[42,43,42,44,45,44,46,47,48,49,50,51,52,53,54,55,56,57,58,59,60,61,62,63,64,14,64,64],[53]⟩,⟨(some 53),(.indexAddr 26 (tK 50) (tK 52)),0,(some (some 45,true))⟩),
 (⟨[54,53,2,45],[42,43,42,44,45,44,46,47,48,49,50,51,52,53,54,55,56,57,58,59,60,61,62,63,64,14,64,64],[54]⟩,⟨(some 54),(.load 3 (tK 53)),3,(some (some 45,true))⟩),(⟨[55,15,15,45],[42,43,42,44,45,44,46,47,48,49,50,51,52,53,54,55,56,57,58,59,60,61,62,63,64,14,64,64],[55]⟩,⟨(some 55),(.move (tK 15)),3,(some (some 45,true))⟩),(⟨[56,54,55,2,15,45],[42,43,42,44,45,44,46,47,48,49,50,51,52,53,54,55,56,57,58,59,60,61,62,63,64,14,64,64],[56]⟩,⟨(some 56),(.call ⟨(.value (.func 61)), #[(tK 54),(tK 55)], #[3,3]⟩),4,(some (some 45,true))⟩),(⟨[57,45,56,16,56,43],[42,43,42,44,45,44,46,47,48,49,50,51,52,53,54,55,56,57,58,59,60,61,62,63,64,14,64,64],[57]⟩,⟨(some 57),(.pick (tK 45) (tK 56) (.const (.bool false))),4,(some (some 43,false))⟩),(⟨[58,57,57,43],[42,43,42,44,45,44,46,47,48,49,50,51,52,53,54,55,56,57,58,59,60,61,62,63,64,14,64,64],[58]⟩,⟨(some 58),(.move (tK 57)),4,(some (some 43,false))⟩),(⟨[59,6,6,58],[42,43,42,44,45,44,46,47,48,49,50,51,52,53,54,55,56,57,58,59,60,61,62,63,64,14,64,64],[59]⟩,⟨(some 59),(.load 34 (tK 6)),34,(some (some 58,true))⟩),(⟨[60,5,5,58],[42,43,42,44,45,44,46,47,48,49,50,51,52,53,54,55,56,57,58,59,60,61,62,63,64,14,64,64],[60]⟩,⟨(some 60),(.move (tK 5)),3,(some (some 58,true))⟩),
 (⟨[61,15,15,58],[42,43,42,44,45,44,46,47,48,49,50,51,52,53,54,55,56,57,58,59,60,61,62,63,64,14,64,64],[61]⟩,⟨(some 61),(.move (tK 15)),3,(some (some 58,true))⟩),(⟨[62,59,60,61,6,5,15,58],[42,43,42,44,45,44,46,47,48,49,50,51,52,53,54,55,56,57,58,59,60,61,62,63,64,14,64,64],[62]⟩,⟨(some 62),(.call ⟨(.value (.func 94)), #[(tK 59),(tK 60),(tK 61)], #[34,3,3]⟩),4,(some (some 58,true))⟩),(⟨[63,58,62,57,62,43],[42,43,42,44,45,44,46,47,48,49,50,51,52,53,54,55,56,57,58,59,60,61,62,63,64,14,64,64],[63]⟩,⟨(some 63),(.pick (tK 58) (tK 62) (.const (.bool false))),4,(some (some 43,false))⟩),(⟨[64,43,63,14,63],[42,43,42,44,45,44,46,47,48,49,50,51,52,53,54,55,56,57,58,59,60,61,62,63,64,14,64,64],[64]⟩,oX 64 (.pick (tK 43) (.const (.bool true)) (tK 63)) 4),(⟨[14,64,64],[42,43,42,44,45,44,46,47,48,49,50,51,52,53,54,55,56,57,58,59,60,61,62,63,64,14,64,64],[14,64,64]⟩,oA 14 64 4)]))) (.ops [oM 30 15 3,oB 31 .add 3 (tK 30) (iK 1) 3 3,oA 15 31 3]))
def xD:SC:= .loop fC
def k62:SC:= .seq (.ops [oX 6 (.box 34 (tK 0)) 0,oX 7 (.box 38 (tK 1)) 0,oX 12 (.assign (.const (.bool false))) 4]) (.seq (.ops [oF 18 38 7 0,oL 19 36 18 36,oM 20 3 3,oI 21 36 19 20,oL 22 79 21 79,oM 23 4 3,oI 24 79 22 23,oL 25 87 24 87,oX 13 (.alloc 87) 0,oS 87 13 25]) (.seq (.ops [oX 14 (.assign (.const (.bool false))) 4]) (.seq (.seq (.ops [oX 15 (.assign (iK 0)) 3]) (.block 0 xD)) (.seq (.seq (.draws [(⟨[65,14,14],[65,66,67,68,69,70,71,72,73,74,75,76,77],[65]⟩,oM 65 14 4),(⟨[66,65,14],[65,66,67,68,69,70,71,72,73,74,75,76,77],[66]⟩,oX 66 (.unOp .not 4 (tK 65)) 4),(⟨[67,66,66],[65,66,67,68,69,70,71,72,73,74,75,76,77],[67]⟩,oM 67 66 4),(⟨[68,7,7,67],[65,66,67,68,69,70,71,72,73,74,75,76,77],[68]⟩,⟨(some 68),(.fieldAddr 38 (tK 7) 0),0,(some (some 67,false))⟩),(⟨[69,68,7,67],[65,66,67,68,69,70,71,72,73,74,75,76,77],[69]⟩,⟨(some 69),(.load 36 (tK 68)),36,(some (some 67,false))⟩),(⟨[70,3,3,67],[65,66,67,68,69,70,71,72,73,74,75,76,77],[70]⟩,⟨(some 70),(.move (tK 3)),3,(some (some 67,false))⟩),(⟨[71,69,70,7,3,67],[65,66,67,68,69,70,71,72,73,74,75,76,77],[71]⟩,⟨(some 71),(.indexAddr 36 (tK 69) (tK 70)),0,(some (some 67,false))⟩),(⟨[72,71,7,67],[65,66,67,68,69,70,71,72,73,74,75,76,77],[72]⟩,⟨(some 72),(.load 79 (tK 71)),79,(some (some 67,false))⟩),
 (⟨[73,72,7,67],[65,66,67,68,69,70,71,72,73,74,75,76,77],[73]⟩,⟨(some 73),(.call ⟨(.builtin .len), #[(tK 72)], #[79]⟩),3,(some (some 67,false))⟩),(⟨[74,6,6,67],[65,66,67,68,69,70,71,72,73,74,75,76,77],[74]⟩,⟨(some 74),(.fieldAddr 34 (tK 6) 1),0,(some (some 67,false))⟩),(⟨[75,74,6,67],[65,66,67,68,69,70,71,72,73,74,75,76,77],[75]⟩,⟨(some 75),(.load 3 (tK 74)),3,(some (some 67,false))⟩),(⟨[76,73,75,73,6,67],[65,66,67,68,69,70,71,72,73,74,75,76,77],[76]⟩,⟨(some 76),(.binOp .neq 3 (tK 73) (tK 75) 3),4,(some (some 67,false))⟩),(⟨[77,67,76,66,76],[65,66,67,68,69,70,71,72,73,74,75,76,77],[77]⟩,oX 77 (.pick (tK 67) (.const (.bool true)) (tK 76)) 4)]) (.cond (tK 77) (.seq (.ops [oM 78 14 4,oA 12 78 4]) .ret) .skip)) (.seq (.ops [oM 79 2 22,oM 80 3 3,oI 81 22 79 80,oL 82 26 81 26,oC 83 92 [(tK 82)] [26] 26,oA 17 83 26]) (.seq (.ops [oM 84 17 26,oM 85 4 3,oM 86 5 3,oX 87 (.convert 3 82 (tK 86)) 82,oB 88 .shl 3 (iK 1) (tK 87) 82 3,oI 89 26 84 85,oS 3 89 88]) (.seq (.ops [oL 90 34 6 34,oM 91 17 26,oC 92 95 [(tK 90),(tK 91)] [34,26] 4,oA 12 92 4]) .ret)))))))
theorem A5s:Tryz.f62.body.map (Bf lends)=some k62:=by kernel_rfl
theorem AIr:Bz Tryz.f62 6=true:=by kernel_rfl
theorem c62{a l:List D}{r:D×List D}(h:CF Y.env k62 (ES Ae l.length [ResultVar.tmp 12] r) (entry a l))(ha:a.length=6):Y.call 62 a l=some r:=
 Ab (Y:=Y) rfl Tryz.func62 (ha▸AIr) A5s h
def Bw(A9:Int)(AC:Int)(AJ:List (List Int))(AB:List (List Int))(AO:List (List (Int×Int)))(Aa:List Int)(A8:List Int)(Cf:List (List Int))(Ga:Int)(MZ:Int)(UZ:Int)(El:Bool)(D5:Int)(s:St):Prop:=s.v 2=D.sl 26 (AL (fun x=>D.sl 3 (AL (D.int .i64) x)) Cf)∧s.v 3=D.int .i64 Ga∧s.v 4=D.int .i64 MZ∧s.v 5=D.int .i64 UZ∧s.v 6=D.box [D.int .i64 A9,D.int .i64 AC,D.sl 26 (AL (fun x=>D.sl 3 (AL (D.int .i64) x)) AJ),D.sl 26 (AL (fun x=>D.sl 3 (AL (D.int .i64) x)) AB)]∧s.v 7=D.box [D.sl 79 (AL (fun x=>D.sl 87 (Ay .i64 .i64 x)) AO),D.sl 3 (AL (D.int .i64) Aa),D.sl 3 (AL (D.int .i64) A8)]∧s.v 13=D.box [D.int .i64 (CV (AO.getD Ga.toNat default) MZ.toNat),D.int .i64 (Cx (AO.getD Ga.toNat default) MZ.toNat)]∧s.v 14=D.bool El∧s.v 15=D.int .i64 D5
def IR(A9:Int)(AC:Int)(AJ:List (List Int))(AB:List (List Int))(AO:List (List (Int×Int)))(Aa:List Int)(A8:List Int)(Cf:List (List Int))(Ga:Int)(MZ:Int)(UZ:Int)(r:Bool)(ex:Ex)(s:St):Prop:=ex= .exit 0∧s.v 2=D.sl 26 (AL (fun x=>D.sl 3 (AL (D.int .i64) x)) Cf)∧s.v 3=D.int .i64 Ga∧s.v 4=D.int .i64 MZ∧s.v 5=D.int .i64 UZ∧s.v 6=D.box [D.int .i64 A9,D.int .i64 AC,D.sl 26 (AL (fun x=>D.sl 3 (AL (D.int .i64) x)) AJ),D.sl 26 (AL (fun x=>D.sl 3 (AL (D.int .i64) x)) AB)]∧s.v 7=D.box [D.sl 79 (AL (fun x=>D.sl 87 (Ay .i64 .i64 x)) AO),D.sl 3 (AL (D.int .i64) Aa),D.sl 3 (AL (D.int .i64) A8)]∧s.v 14=D.bool r
theorem R7(A9:Int)(AC:Int)(AJ:List (List Int))(AB:List (List Int))(AO:List (List (Int×Int)))(Aa:List Int)(A8:List Int)(Cf:List (List Int))(Ga:Int)(MZ:Int)(UZ:Int){v:Bool×Int}{s:St}{r:Bool}(h:Hm A9 AC AJ AB AO Aa A8 Cf Ga MZ UZ v=some r)(hM:Bw A9 AC AJ AB AO Aa A8 Cf Ga MZ UZ v.1 v.2 s):CF Y.env xD (IR A9 AC AJ AB AO Aa A8 Cf Ga MZ UZ r) s:=by
 unfold Hm at h;refine BN (c:=fC) (fun v=>EF A9 AC AJ AB AO Aa A8 Cf Ga MZ UZ v.1 v.2) (fun v s=>Bw A9 AC AJ AB AO Aa A8 Cf Ga MZ UZ v.1 v.2 s) (IR A9 AC AJ AB AO Aa A8 Cf Ga MZ UZ) ?_ h hM;clear h hM s v r;intro v s o hM h;obtain⟨El,D5⟩:=v;dsimp only at h hM;unfold EF at h;unfold Bw at hM;obtain⟨m0,m1,m2,m3,m4,m5,m6,m7,m8⟩:=hM;unfold fC;rcases iS h with⟨e3,h⟩|⟨e3,h⟩
 ·rcases iS h with⟨e4,h⟩|⟨e4,h⟩
  ·rcases iS h with⟨e5,h⟩|⟨e5,h⟩
   ·obtain rfl:=Option.some.inj h
    simp (maxDischargeDepth:=9) only [↓AP,AQ,↓reduceIte,Nat.reduceEqDiff,Nat.reduceLT,Nat.reduceLeDiff,Nat.reduceAdd,m0,m1,m2,m3,m4,m5,m6,m7,m8,e3,e4,e5,Bw,GZ]
   ·have e5f:El=false:=Fx.mpr e5;rcases iS h with⟨e6,h⟩|⟨e6,h⟩
    ·obtain⟨e7,e8,h⟩:=Ei h;obtain⟨fB,hl9,h⟩:=Ag h;have c9:=ML ((Cf.getD ((CV (AO.getD Ga.toNat default) MZ.toNat).toNat) default).getD ((Cx (AO.getD Ga.toNat default) MZ.toNat).toNat) default) D5 hl9;rcases iS h with⟨e10,h⟩|⟨e10,h⟩
     ·obtain⟨e11,h⟩:=FK h;have oD:=V9 A9 AC AJ AB UZ D5 e11
      obtain rfl:=Option.some.inj h
      simp (maxDischargeDepth:=9) only [↓AP,AQ,↓reduceIte,Nat.reduceEqDiff,Nat.reduceLT,Nat.reduceLeDiff,Nat.reduceAdd,Nat.reduceBEq,m0,m1,m2,m3,m4,m5,m6,m7,m8,e3,e4,e5f,decide_eq_true e6,e7.1,e7.2,e8.1,e8.2,c9,e10,oD,Bw,GZ]
     ·have e10f:fB=false:=Fx.mpr e10
      obtain rfl:=Option.some.inj h
      simp (maxDischargeDepth:=9) only [↓AP,AQ,↓reduceIte,Nat.reduceEqDiff,Nat.reduceLT,Nat.reduceLeDiff,Nat.reduceAdd,Nat.reduceBEq,m0,m1,m2,m3,m4,m5,m6,m7,m8,e3,e4,e5f,decide_eq_true e6,e7.1,e7.2,e8.1,e8.2,c9,e10f,Bw,GZ]
    ·obtain rfl:=Option.some.inj h
     simp (maxDischargeDepth:=9) only [↓AP,AQ,↓reduceIte,Nat.reduceEqDiff,Nat.reduceLT,Nat.reduceLeDiff,Nat.reduceAdd,m0,m1,m2,m3,m4,m5,m6,m7,m8,e3,e4,e5f,e6,Bw,GZ]
  ·have e4f:(((CV (AO.getD Ga.toNat default) MZ.toNat)==Ga)&&((Cx (AO.getD Ga.toNat default) MZ.toNat)==MZ))=false:=Fx.mpr e4;rcases iS h with⟨e5,h⟩|⟨e5,h⟩
   ·obtain rfl:=Option.some.inj h
    simp (maxDischargeDepth:=9) only [↓AP,AQ,↓reduceIte,Nat.reduceEqDiff,Nat.reduceLT,Nat.reduceLeDiff,Nat.reduceAdd,m0,m1,m2,m3,m4,m5,m6,m7,m8,e3,e4f,e5,Bw,GZ]
   ·have e5f:El=false:=Fx.mpr e5;obtain⟨e6,e7,h⟩:=Ei h;obtain⟨fB,hl8,h⟩:=Ag h;have c8:=ML ((Cf.getD ((CV (AO.getD Ga.toNat default) MZ.toNat).toNat) default).getD ((Cx (AO.getD Ga.toNat default) MZ.toNat).toNat) default) D5 hl8;rcases iS h with⟨e9,h⟩|⟨e9,h⟩
    ·obtain⟨e10,h⟩:=FK h;have o6:=V9 A9 AC AJ AB UZ D5 e10
     obtain rfl:=Option.some.inj h
     simp (maxDischargeDepth:=9) only [↓AP,AQ,↓reduceIte,Nat.reduceEqDiff,Nat.reduceLT,Nat.reduceLeDiff,Nat.reduceAdd,Nat.reduceBEq,m0,m1,m2,m3,m4,m5,m6,m7,m8,e3,e4f,e5f,e6.1,e6.2,e7.1,e7.2,c8,e9,o6,Bw,GZ]
    ·have e9f:fB=false:=Fx.mpr e9
     obtain rfl:=Option.some.inj h
     simp (maxDischargeDepth:=9) only [↓AP,AQ,↓reduceIte,Nat.reduceEqDiff,Nat.reduceLT,Nat.reduceLeDiff,Nat.reduceAdd,Nat.reduceBEq,m0,m1,m2,m3,m4,m5,m6,m7,m8,e3,e4f,e5f,e6.1,e6.2,e7.1,e7.2,c8,e9f,Bw,GZ]
 ·obtain rfl:=Option.some.inj h
  simp (maxDischargeDepth:=9) only [↓AP,AQ,↓reduceIte,Nat.reduceEqDiff,Nat.reduceLT,m0,m1,m2,m3,m4,m5,m7,m8,e3,Bw,IR,KW]
theorem Rj(A9:Int)(AC:Int)(AJ:List (List Int))(AB:List (List Int))(AO:List (List (Int×Int)))(Aa:List Int)(A8:List Int)(Cf:List (List Int))(Ga:Int)(MZ:Int)(UZ:Int){r:Bool}(h:KG A9 AC AJ AB AO Aa A8 Cf Ga MZ UZ=some r):Y.call 62 [D.agg [D.int .i64 A9,D.int .i64 AC,D.sl 26 (AL (fun x=>D.sl 3 (AL (D.int .i64) x)) AJ),D.sl 26 (AL (fun x=>D.sl 3 (AL (D.int .i64) x)) AB)],D.agg [D.sl 79 (AL (fun x=>D.sl 87 (Ay .i64 .i64 x)) AO),D.sl 3 (AL (D.int .i64) Aa),D.sl 3 (AL (D.int .i64) A8)],D.sl 26 (AL (fun x=>D.sl 3 (AL (D.int .i64) x)) Cf),D.int .i64 Ga,D.int .i64 MZ,D.int .i64 UZ] []=some (D.bool r,[]):=by
 refine c62 ?_ rfl;unfold k62;unfold KG at h;obtain⟨e1,e2,h⟩:=Ei h;obtain⟨AY,hl4,h⟩:=Ag h;try dsimp only at h
 simp (maxDischargeDepth:=9) only [↓AP,AQ,↓reduceIte,Nat.reduceEqDiff,Nat.reduceLT,Nat.reduceAdd,e1.1,e1.2,e2.1,e2.2];refine Av (R7 A9 AC AJ AB AO Aa A8 Cf Ga MZ UZ hl4 ?_) ?_
 ·simp (maxDischargeDepth:=9) only [C9,DK,↓reduceIte,Nat.reduceEqDiff,Nat.reduceLT,Bw]
 ·intro ex4 s4 hX4;unfold IR at hX4;obtain⟨rfl,n4_0,n4_1,n4_2,n4_3,n4_4,n4_5,n4_6⟩:=hX4;rcases iS h with⟨e5,h⟩|⟨e5,h⟩
  ·rcases iS h with⟨e6,h⟩|⟨e6,h⟩
   ·obtain⟨e7,h⟩:=FK h;obtain⟨zf,hl8,h⟩:=Ag h;have c8:=Mh (Cf.getD Ga.toNat default) hl8;obtain⟨e9,e10,h⟩:=Ei h;obtain⟨ACi,hl11,h⟩:=Ag h;try dsimp only at h
    have o6:=Vk A9 AC AJ AB (zf.set MZ.toNat (IntKind.i64.wrap (1*2 ^ (min (IntKind.u64.wrap UZ).toNat (IntKind.i64.bits))))) hl11
    obtain rfl:=Option.some.inj h
    simp (maxDischargeDepth:=9) only [↓AP,AQ,↓reduceIte,Nat.reduceEqDiff,Nat.reduceLT,Nat.reduceAdd,Nat.reduceBEq,e1.1,e1.2,e2.1,n4_0,n4_1,n4_2,n4_3,n4_4,n4_5,n4_6,e5,decide_eq_true e6,e7.2,c8,e9,e10.2,o6]
   ·obtain rfl:=Option.some.inj h
    simp (maxDischargeDepth:=9) only [↓AP,AQ,↓reduceIte,Nat.reduceEqDiff,Nat.reduceLT,Nat.reduceBEq,e1.1,e1.2,n4_1,n4_4,n4_5,n4_6,e5,e6]
  ·have e5f:AY=false:=Fx.mpr e5
   obtain rfl:=Option.some.inj h
   simp (maxDischargeDepth:=9) only [↓AP,AQ,↓reduceIte,Nat.reduceEqDiff,Nat.reduceLT,n4_1,n4_6,e5f]
noncomputable def Ho(A9:Int)(AC:Int)(AJ:List (List Int))(AB:List (List Int))(AO:List (List (Int×Int)))(Aa:List Int)(A8:List Int)(MM:List (List Int))(t7_1:List (List Int))(E5:Int)(KY:Int)(t7_3:List (List Int))(t8_3:Bool)(Cb:Int):Option (((List (List Int))×Bool×Int)⊕((List (List Int))×Bool)):= if Cb<A9 then ck (0≤E5∧E5.toNat<t7_3.length)<| ck (0≤KY∧KY.toNat<(t7_3.getD E5.toNat default).length)<| (Kz ((t7_3.getD E5.toNat default).getD KY.toNat default) Cb).bind fun R8=> if R8=true then (KG A9 AC AJ AB AO Aa A8 t7_3 E5 KY Cb).bind fun A5t=> if A5t=true then some (Sum.inl (t7_3,t8_3,IntKind.i64.wrap (Cb+1))) else ck (¬(IntKind.u64.wrap Cb)<0)<| some (Sum.inl ((t7_3.set E5.toNat ((t7_3.getD E5.toNat default).set KY.toNat (IntKind.i64.wrap (((t7_3.getD E5.toNat default).getD KY.toNat default)-(IntKind.i64.wrap (1*2 ^ (min (IntKind.u64.wrap Cb).toNat (IntKind.i64.bits)))))))),true,IntKind.i64.wrap (Cb+1))) else some (Sum.inl (t7_3,t8_3,IntKind.i64.wrap (Cb+1))) else some (Sum.inr (t7_3,t8_3))
noncomputable def Mq(A9:Int)(AC:Int)(AJ:List (List Int))(AB:List (List Int))(AO:List (List (Int×Int)))(Aa:List Int)(A8:List Int)(MM:List (List Int))(t7_1:List (List Int))(E5:Int)(KY:Int)(v:(List (List Int))×Bool×Int):Option ((List (List Int))×Bool):=I4 (fun v=>Ho A9 AC AJ AB AO Aa A8 MM t7_1 E5 KY v.1 v.2.1 v.2.2) v
noncomputable def Hq(A9:Int)(AC:Int)(AJ:List (List Int))(AB:List (List Int))(AO:List (List (Int×Int)))(Aa:List Int)(A8:List Int)(MM:List (List Int))(t7_1:List (List Int))(E5:Int)(t7_2:List (List Int))(t8_2:Bool)(KY:Int):Option (((List (List Int))×Bool×Int)⊕((List (List Int))×Bool)):= if KY<((t7_1.getD E5.toNat default).length:Int)then (Mq A9 AC AJ AB AO Aa A8 MM t7_1 E5 KY (t7_2,t8_2,0)).bind fun AY=> some (Sum.inl (AY.1,AY.2,IntKind.i64.wrap (KY+1))) else some (Sum.inr (t7_2,t8_2))
noncomputable def Mr(A9:Int)(AC:Int)(AJ:List (List Int))(AB:List (List Int))(AO:List (List (Int×Int)))(Aa:List Int)(A8:List Int)(MM:List (List Int))(t7_1:List (List Int))(E5:Int)(v:(List (List Int))×Bool×Int):Option ((List (List Int))×Bool):=I4 (fun v=>Hq A9 AC AJ AB AO Aa A8 MM t7_1 E5 v.1 v.2.1 v.2.2) v
noncomputable def Hr(A9:Int)(AC:Int)(AJ:List (List Int))(AB:List (List Int))(AO:List (List (Int×Int)))(Aa:List Int)(A8:List Int)(MM:List (List Int))(t7_1:List (List Int))(t8_1:Bool)(E5:Int):Option (((List (List Int))×Bool×Int)⊕((List (List Int))×Bool)):= if E5<(MM.length:Int)then ck (0≤E5∧E5.toNat<t7_1.length)<| (Mr A9 AC AJ AB AO Aa A8 MM t7_1 E5 (t7_1,t8_1,0)).bind fun Ec=> some (Sum.inl (Ec.1,Ec.2,IntKind.i64.wrap (E5+1))) else some (Sum.inr (t7_1,t8_1))
noncomputable def Ms(A9:Int)(AC:Int)(AJ:List (List Int))(AB:List (List Int))(AO:List (List (Int×Int)))(Aa:List Int)(A8:List Int)(MM:List (List Int))(v:(List (List Int))×Bool×Int):Option ((List (List Int))×Bool):=I4 (fun v=>Hr A9 AC AJ AB AO Aa A8 MM v.1 v.2.1 v.2.2) v
noncomputable def Ht(A9:Int)(AC:Int)(AJ:List (List Int))(AB:List (List Int))(AO:List (List (Int×Int)))(Aa:List Int)(A8:List Int)(MM:List (List Int))(NZ:Bool):Option (((List (List Int))×Bool)⊕((List (List Int)))):= if NZ=true then (Ms A9 AC AJ AB AO Aa A8 MM (MM,false,0)).bind fun CK=> some (Sum.inl (CK.1,CK.2)) else some (Sum.inr MM)
noncomputable def GJ(A9:Int)(AC:Int)(AJ:List (List Int))(AB:List (List Int))(AO:List (List (Int×Int)))(Aa:List Int)(A8:List Int)(v:(List (List Int))×Bool):Option ((List (List Int))):=I4 (fun v=>Ht A9 AC AJ AB AO Aa A8 v.1 v.2) v
noncomputable def Oq(A9:Int)(AC:Int)(AJ:List (List Int))(AB:List (List Int))(AO:List (List (Int×Int)))(Aa:List Int)(A8:List Int)(Cf:List (List Int)):Option ((List (List Int))):= (Oo Cf).bind fun wV=> (GJ A9 AC AJ AB AO Aa A8 (wV,true)).bind fun UO=> some UO
def fD:SC:= .seq (.seq (.ops [oM 28 11 3,oF 29 34 3 0,oL 30 3 29 3,oB 31 .lss 3 (tK 28) (tK 30) 3 4]) (.cond (tK 31) .skip (.exit 6))) (.seq (.block 7 (.seq (.ops [oM 34 7 22,oM 35 9 3,oI 36 22 34 35,oL 37 26 36 26,oM 38 10 3,oI 39 26 37 38,oL 40 3 39 3,oM 41 11 3,oC 42 61 [(tK 40),(tK 41)] [3,3] 4,oM 43 42 4,⟨(some 44),(.load 34 (tK 3)),34,(some (some 43,true))⟩,⟨(some 45),(.load 38 (tK 4)),38,(some (some 43,true))⟩,⟨(some 46),(.move (tK 7)),22,(some (some 43,true))⟩,⟨(some 47),(.move (tK 9)),3,(some (some 43,true))⟩,⟨(some 48),(.move (tK 10)),3,(some (some 43,true))⟩,⟨(some 49),(.move (tK 11)),3,(some (some 43,true))⟩,⟨(some 50),(.call ⟨(.value (.func 62)), #[(tK 44),(tK 45),(tK 46),(tK 47),(tK 48),(tK 49)], #[34,38,22,3,3,3]⟩),4,(some (some 43,true))⟩,⟨(some 51),(.unOp .not 4 (tK 50)),4,(some (some 43,true))⟩,oX 52 (.pick (tK 43) (tK 51) (.const (.bool false))) 4]) (.cond (tK 52) (.seq (.ops [oM 53 7 22,oM 54 9 3,oI 55 22 53 54,oL 56 26 55 26,oM 57 10 3,oI 58 26 56 57,oL 59 3 58 3,oM 60 11 3,oX 61 (.convert 3 82 (tK 60)) 82,oB 62 .shl 3 (iK 1) (tK 61) 82 3,oB 63 .sub 3 (tK 59) (tK 62) 3 3,oI 64 26 56 57,oS 3 64 63]) (.ops [oX 8 (.assign (.const (.bool true))) 4]))
 .skip))) (.ops [oM 32 11 3,oB 33 .add 3 (tK 32) (iK 1) 3 3,oA 11 33 3]))
def xE:SC:= .loop fD
def fF:SC:= .seq (.ops [oB 26 .lss 3 (tK 25) (tK 24) 3 0]) (.seq (.cond (tK 26) .skip (.exit 4)) (.seq (.block 5 (.seq (.ops [oM 27 25 3,oA 10 27 3]) (.seq (.ops [oX 11 (.assign (iK 0)) 3]) (.block 6 xE)))) (.ops [oB 65 .add 3 (tK 25) (iK 1) 3 3,oM 25 65 3])))
def xF:SC:= .loop fF
def fG:SC:= .seq (.ops [oB 18 .lss 3 (tK 17) (tK 16) 3 0]) (.seq (.cond (tK 18) .skip (.exit 2)) (.seq (.block 3 (.seq (.ops [oM 19 17 3,oA 9 19 3]) (.seq (.ops [oM 20 7 22,oM 21 9 3,oI 22 22 20 21,oL 23 26 22 26,oN 24 23 26,oX 25 (.move (iK 0)) 3]) (.block 4 xF)))) (.ops [oB 66 .add 3 (tK 17) (iK 1) 3 3,oM 17 66 3])))
def xG:SC:= .loop fG
def fH:SC:= .seq (.seq (.ops [oM 14 8 4]) (.cond (tK 14) .skip (.exit 0))) (.block 1 (.seq (.ops [oX 8 (.assign (.const (.bool false))) 4]) (.seq (.ops [oM 15 7 22,oN 16 15 22,oX 17 (.move (iK 0)) 3]) (.block 2 xG))))
def xH:SC:= .loop fH
def k34:SC:= .seq (.ops [oX 3 (.box 34 (tK 0)) 0,oX 4 (.box 38 (tK 1)) 0,oX 6 (.assign (.const (.slice none 0 0))) 22]) (.seq (.ops [oM 12 2 22,oC 13 60 [(tK 12)] [22] 22,oA 7 13 22]) (.seq (.seq (.ops [oX 8 (.assign (.const (.bool true))) 4]) (.block 0 xH)) (.seq (.ops [oM 67 7 22,oA 6 67 22]) .ret)))
theorem A5u:Tryz.f34.body.map (Bf lends)=some k34:=by kernel_rfl
theorem AIt:Bz Tryz.f34 3=true:=by kernel_rfl
theorem c34{a l:List D}{r:D×List D}(h:CF Y.env k34 (ES Ae l.length [ResultVar.tmp 6] r) (entry a l))(ha:a.length=3):Y.call 34 a l=some r:=
 Ab (Y:=Y) rfl Tryz.func34 (ha▸AIt) A5u h
def ER(A9:Int)(AC:Int)(AJ:List (List Int))(AB:List (List Int))(AO:List (List (Int×Int)))(Aa:List Int)(A8:List Int)(MM:List (List Int))(t7_1:List (List Int))(E5:Int)(KY:Int)(t7_3:List (List Int))(t8_3:Bool)(Cb:Int)(s:St):Prop:=s.v 3=D.box [D.int .i64 A9,D.int .i64 AC,D.sl 26 (AL (fun x=>D.sl 3 (AL (D.int .i64) x)) AJ),D.sl 26 (AL (fun x=>D.sl 3 (AL (D.int .i64) x)) AB)]∧s.v 4=D.box [D.sl 79 (AL (fun x=>D.sl 87 (Ay .i64 .i64 x)) AO),D.sl 3 (AL (D.int .i64) Aa),D.sl 3 (AL (D.int .i64) A8)]∧s.v 7=D.own 26 (AL (fun x=>D.own 3 (AL (D.int .i64) x)) t7_3)∧s.v 8=D.bool t8_3∧s.v 9=D.int .i64 E5∧s.v 10=D.int .i64 KY∧s.v 11=D.int .i64 Cb∧s.v 16=D.int .i64 (MM.length:Int)∧s.v 17=D.int .i64 E5∧s.v 24=D.int .i64 ((t7_1.getD E5.toNat default).length:Int)∧s.v 25=D.int .i64 KY
def L6(A9:Int)(AC:Int)(AJ:List (List Int))(AB:List (List Int))(AO:List (List (Int×Int)))(Aa:List Int)(A8:List Int)(MM:List (List Int))(t7_1:List (List Int))(E5:Int)(KY:Int)(r:(List (List Int))×Bool)(ex:Ex)(s:St):Prop:=ex= .exit 6∧s.v 3=D.box [D.int .i64 A9,D.int .i64 AC,D.sl 26 (AL (fun x=>D.sl 3 (AL (D.int .i64) x)) AJ),D.sl 26 (AL (fun x=>D.sl 3 (AL (D.int .i64) x)) AB)]∧s.v 4=D.box [D.sl 79 (AL (fun x=>D.sl 87 (Ay .i64 .i64 x)) AO),D.sl 3 (AL (D.int .i64) Aa),D.sl 3 (AL (D.int .i64) A8)]∧s.v 7=D.own 26 (AL (fun x=>D.own 3 (AL (D.int .i64) x)) r.1)∧s.v 8=D.bool r.2∧s.v 9=D.int .i64 E5∧s.v 16=D.int .i64 (MM.length:Int)∧s.v 17=D.int .i64 E5∧s.v 24=D.int .i64 ((t7_1.getD E5.toNat default).length:Int)∧s.v 25=D.int .i64 KY
theorem Vl(A9:Int)(AC:Int)(AJ:List (List Int))(AB:List (List Int))(AO:List (List (Int×Int)))(Aa:List Int)(A8:List Int)(MM:List (List Int))(t7_1:List (List Int))(E5:Int)(KY:Int){v:(List (List Int))×Bool×Int}{s:St}{r:(List (List Int))×Bool}(h:Mq A9 AC AJ AB AO Aa A8 MM t7_1 E5 KY v=some r)(hM:ER A9 AC AJ AB AO Aa A8 MM t7_1 E5 KY v.1 v.2.1 v.2.2 s):CF Y.env xE (L6 A9 AC AJ AB AO Aa A8 MM t7_1 E5 KY r) s:=by
 unfold Mq at h;refine BN (c:=fD) (fun v=>Ho A9 AC AJ AB AO Aa A8 MM t7_1 E5 KY v.1 v.2.1 v.2.2) (fun v s=>ER A9 AC AJ AB AO Aa A8 MM t7_1 E5 KY v.1 v.2.1 v.2.2 s) (L6 A9 AC AJ AB AO Aa A8 MM t7_1 E5 KY) ?_ h hM;clear h hM s v r;intro v s o hM h;obtain⟨t7_3,t8_3,Cb⟩:=v;dsimp only at h hM;unfold Ho at h;unfold ER at hM;obtain⟨m0,m1,m2,m3,m4,m5,m6,m7,m8,m9,m10⟩:=hM;unfold fD;rcases iS h with⟨e6,h⟩|⟨e6,h⟩
 ·obtain⟨e7,e8,h⟩:=Ei h;obtain⟨R8,hl9,h⟩:=Ag h;have c9:=ML ((t7_3.getD E5.toNat default).getD KY.toNat default) Cb hl9;rcases iS h with⟨e10,h⟩|⟨e10,h⟩
  ·obtain⟨A5t,hl11,h⟩:=Ag h;have o6:=Rj A9 AC AJ AB AO Aa A8 t7_3 E5 KY Cb hl11;rcases iS h with⟨e12,h⟩|⟨e12,h⟩
   ·obtain rfl:=Option.some.inj h
    simp (maxDischargeDepth:=9) only [↓AP,AQ,↓reduceIte,Nat.reduceEqDiff,Nat.reduceLT,Nat.reduceAdd,m0,m1,m2,m3,m4,m5,m6,m7,m8,m9,m10,e6,e7.1,e7.2,e8.1,e8.2,c9,e10,o6,e12,ER,GZ]
   ·have e12f:A5t=false:=Fx.mpr e12;obtain⟨e13,h⟩:=FK h
    obtain rfl:=Option.some.inj h
    simp (maxDischargeDepth:=9) only [↓AP,AQ,↓reduceIte,Nat.reduceEqDiff,Nat.reduceLT,Nat.reduceAdd,m0,m1,m2,m4,m5,m6,m7,m8,m9,m10,e6,e7.1,e7.2,e8.1,e8.2,c9,e10,o6,e12f,e13,ER,GZ]
  ·have e10f:R8=false:=Fx.mpr e10
   obtain rfl:=Option.some.inj h
   simp (maxDischargeDepth:=9) only [↓AP,AQ,↓reduceIte,Nat.reduceEqDiff,Nat.reduceLT,Nat.reduceAdd,m0,m1,m2,m3,m4,m5,m6,m7,m8,m9,m10,e6,e7.1,e7.2,e8.1,e8.2,c9,e10f,ER,GZ]
 ·obtain rfl:=Option.some.inj h
  simp (maxDischargeDepth:=9) only [↓AP,AQ,↓reduceIte,Nat.reduceEqDiff,Nat.reduceLT,m0,m1,m2,m3,m4,m6,m7,m8,m9,m10,e6,ER,L6,KW]
def Hu(A9:Int)(AC:Int)(AJ:List (List Int))(AB:List (List Int))(AO:List (List (Int×Int)))(Aa:List Int)(A8:List Int)(MM:List (List Int))(t7_1:List (List Int))(E5:Int)(t7_2:List (List Int))(t8_2:Bool)(KY:Int)(s:St):Prop:=s.v 3=D.box [D.int .i64 A9,D.int .i64 AC,D.sl 26 (AL (fun x=>D.sl 3 (AL (D.int .i64) x)) AJ),D.sl 26 (AL (fun x=>D.sl 3 (AL (D.int .i64) x)) AB)]∧s.v 4=D.box [D.sl 79 (AL (fun x=>D.sl 87 (Ay .i64 .i64 x)) AO),D.sl 3 (AL (D.int .i64) Aa),D.sl 3 (AL (D.int .i64) A8)]∧s.v 7=D.own 26 (AL (fun x=>D.own 3 (AL (D.int .i64) x)) t7_2)∧s.v 8=D.bool t8_2∧s.v 9=D.int .i64 E5∧s.v 16=D.int .i64 (MM.length:Int)∧s.v 17=D.int .i64 E5∧s.v 24=D.int .i64 ((t7_1.getD E5.toNat default).length:Int)∧s.v 25=D.int .i64 KY
def L8(A9:Int)(AC:Int)(AJ:List (List Int))(AB:List (List Int))(AO:List (List (Int×Int)))(Aa:List Int)(A8:List Int)(MM:List (List Int))(t7_1:List (List Int))(E5:Int)(r:(List (List Int))×Bool)(ex:Ex)(s:St):Prop:=ex= .exit 4∧s.v 3=D.box [D.int .i64 A9,D.int .i64 AC,D.sl 26 (AL (fun x=>D.sl 3 (AL (D.int .i64) x)) AJ),D.sl 26 (AL (fun x=>D.sl 3 (AL (D.int .i64) x)) AB)]∧s.v 4=D.box [D.sl 79 (AL (fun x=>D.sl 87 (Ay .i64 .i64 x)) AO),D.sl 3 (AL (D.int .i64) Aa),D.sl 3 (AL (D.int .i64) A8)]∧s.v 7=D.own 26 (AL (fun x=>D.own 3 (AL (D.int .i64) x)) r.1)∧s.v 8=D.bool r.2∧s.v 16=D.int .i64 (MM.length:Int)∧s.v 17=D.int .i64 E5
theorem Vm(A9:Int)(AC:Int)(AJ:List (List Int))(AB:List (List Int))(AO:List (List (Int×Int)))(Aa:List Int)(A8:List Int)(MM:List (List Int))(t7_1:List (List Int))(E5:Int){v:(List (List Int))×Bool×Int}{s:St}{r:(List (List Int))×Bool}(h:Mr A9 AC AJ AB AO Aa A8 MM t7_1 E5 v=some r)(hM:Hu A9 AC AJ AB AO Aa A8 MM t7_1 E5 v.1 v.2.1 v.2.2 s):CF Y.env xF (L8 A9 AC AJ AB AO Aa A8 MM t7_1 E5 r) s:=by
 unfold Mr at h;refine BN (c:=fF) (fun v=>Hq A9 AC AJ AB AO Aa A8 MM t7_1 E5 v.1 v.2.1 v.2.2) (fun v s=>Hu A9 AC AJ AB AO Aa A8 MM t7_1 E5 v.1 v.2.1 v.2.2 s) (L8 A9 AC AJ AB AO Aa A8 MM t7_1 E5) ?_ h hM;clear h hM s v r;intro v s o hM h;obtain⟨t7_2,t8_2,KY⟩:=v;dsimp only at h hM;unfold Hq at h;unfold Hu at hM;obtain⟨m0,m1,m2,m3,m4,m5,m6,m7,m8⟩:=hM;unfold fF;rcases iS h with⟨e5,h⟩|⟨e5,h⟩
 ·obtain⟨AY,hl7,h⟩:=Ag h;try dsimp only at h
  simp (maxDischargeDepth:=9) only [↓AP,AQ,↓reduceIte,Nat.reduceEqDiff,Nat.reduceLT,m7,m8,e5];refine Av (Vl A9 AC AJ AB AO Aa A8 MM t7_1 E5 KY hl7 ?_) ?_
  ·simp (maxDischargeDepth:=9) only [C9,↓reduceIte,Nat.reduceEqDiff,m0,m1,m2,m3,m4,m5,m6,m7,m8,ER]
  ·intro ex7 s7 hX7;unfold L6 at hX7;obtain⟨rfl,n7_0,n7_1,n7_2,n7_3,n7_4,n7_5,n7_6,n7_7,n7_8⟩:=hX7
   obtain rfl:=Option.some.inj h
   simp (maxDischargeDepth:=9) only [↓AP,AQ,↓reduceIte,Nat.reduceEqDiff,Nat.reduceLT,n7_0,n7_1,n7_2,n7_3,n7_4,n7_5,n7_6,n7_7,n7_8,Hu,GZ]
 ·obtain rfl:=Option.some.inj h
  simp (maxDischargeDepth:=9) only [↓AP,AQ,↓reduceIte,Nat.reduceEqDiff,Nat.reduceLT,m0,m1,m2,m3,m5,m6,m7,m8,e5,Hu,L8,KW]
def Hw(A9:Int)(AC:Int)(AJ:List (List Int))(AB:List (List Int))(AO:List (List (Int×Int)))(Aa:List Int)(A8:List Int)(MM:List (List Int))(t7_1:List (List Int))(t8_1:Bool)(E5:Int)(s:St):Prop:=s.v 3=D.box [D.int .i64 A9,D.int .i64 AC,D.sl 26 (AL (fun x=>D.sl 3 (AL (D.int .i64) x)) AJ),D.sl 26 (AL (fun x=>D.sl 3 (AL (D.int .i64) x)) AB)]∧s.v 4=D.box [D.sl 79 (AL (fun x=>D.sl 87 (Ay .i64 .i64 x)) AO),D.sl 3 (AL (D.int .i64) Aa),D.sl 3 (AL (D.int .i64) A8)]∧s.v 7=D.own 26 (AL (fun x=>D.own 3 (AL (D.int .i64) x)) t7_1)∧s.v 8=D.bool t8_1∧s.v 16=D.int .i64 (MM.length:Int)∧s.v 17=D.int .i64 E5
def L9(A9:Int)(AC:Int)(AJ:List (List Int))(AB:List (List Int))(AO:List (List (Int×Int)))(Aa:List Int)(A8:List Int)(MM:List (List Int))(r:(List (List Int))×Bool)(ex:Ex)(s:St):Prop:=ex= .exit 2∧s.v 3=D.box [D.int .i64 A9,D.int .i64 AC,D.sl 26 (AL (fun x=>D.sl 3 (AL (D.int .i64) x)) AJ),D.sl 26 (AL (fun x=>D.sl 3 (AL (D.int .i64) x)) AB)]∧s.v 4=D.box [D.sl 79 (AL (fun x=>D.sl 87 (Ay .i64 .i64 x)) AO),D.sl 3 (AL (D.int .i64) Aa),D.sl 3 (AL (D.int .i64) A8)]∧s.v 7=D.own 26 (AL (fun x=>D.own 3 (AL (D.int .i64) x)) r.1)∧s.v 8=D.bool r.2
theorem Vn(A9:Int)(AC:Int)(AJ:List (List Int))(AB:List (List Int))(AO:List (List (Int×Int)))(Aa:List Int)(A8:List Int)(MM:List (List Int)){v:(List (List Int))×Bool×Int}{s:St}{r:(List (List Int))×Bool}(h:Ms A9 AC AJ AB AO Aa A8 MM v=some r)(hM:Hw A9 AC AJ AB AO Aa A8 MM v.1 v.2.1 v.2.2 s):CF Y.env xG (L9 A9 AC AJ AB AO Aa A8 MM r) s:=by
 unfold Ms at h;refine BN (c:=fG) (fun v=>Hr A9 AC AJ AB AO Aa A8 MM v.1 v.2.1 v.2.2) (fun v s=>Hw A9 AC AJ AB AO Aa A8 MM v.1 v.2.1 v.2.2 s) (L9 A9 AC AJ AB AO Aa A8 MM) ?_ h hM;clear h hM s v r;intro v s o hM h;obtain⟨t7_1,t8_1,E5⟩:=v;dsimp only at h hM;unfold Hr at h;unfold Hw at hM;obtain⟨m0,m1,m2,m3,m4,m5⟩:=hM;unfold fG;rcases iS h with⟨e3,h⟩|⟨e3,h⟩
 ·obtain⟨e4,h⟩:=FK h;obtain⟨Ec,hl6,h⟩:=Ag h;try dsimp only at h
  simp (maxDischargeDepth:=9) only [↓AP,AQ,↓reduceIte,Nat.reduceEqDiff,Nat.reduceLT,m2,m4,m5,e3,e4.1,e4.2];refine Av (Vm A9 AC AJ AB AO Aa A8 MM t7_1 E5 hl6 ?_) ?_
  ·simp (maxDischargeDepth:=9) only [C9,↓reduceIte,Nat.reduceEqDiff,m0,m1,m2,m3,m4,m5,Hu]
  ·intro ex6 s6 hX6;unfold L8 at hX6;obtain⟨rfl,n6_0,n6_1,n6_2,n6_3,n6_4,n6_5⟩:=hX6
   obtain rfl:=Option.some.inj h
   simp (maxDischargeDepth:=9) only [↓AP,AQ,↓reduceIte,Nat.reduceEqDiff,Nat.reduceLT,n6_0,n6_1,n6_2,n6_3,n6_4,n6_5,Hw,GZ]
 ·obtain rfl:=Option.some.inj h
  simp (maxDischargeDepth:=9) only [↓AP,AQ,↓reduceIte,Nat.reduceEqDiff,Nat.reduceLT,m0,m1,m2,m3,m4,m5,e3,Hw,L9,KW]
def Hy(A9:Int)(AC:Int)(AJ:List (List Int))(AB:List (List Int))(AO:List (List (Int×Int)))(Aa:List Int)(A8:List Int)(MM:List (List Int))(NZ:Bool)(s:St):Prop:=s.v 3=D.box [D.int .i64 A9,D.int .i64 AC,D.sl 26 (AL (fun x=>D.sl 3 (AL (D.int .i64) x)) AJ),D.sl 26 (AL (fun x=>D.sl 3 (AL (D.int .i64) x)) AB)]∧s.v 4=D.box [D.sl 79 (AL (fun x=>D.sl 87 (Ay .i64 .i64 x)) AO),D.sl 3 (AL (D.int .i64) Aa),D.sl 3 (AL (D.int .i64) A8)]∧s.v 7=D.own 26 (AL (fun x=>D.own 3 (AL (D.int .i64) x)) MM)∧s.v 8=D.bool NZ
def LA(A9:Int)(AC:Int)(AJ:List (List Int))(AB:List (List Int))(AO:List (List (Int×Int)))(Aa:List Int)(A8:List Int)(r:(List (List Int)))(ex:Ex)(s:St):Prop:=ex= .exit 0∧s.v 7=D.own 26 (AL (fun x=>D.own 3 (AL (D.int .i64) x)) r)
theorem Vo(A9:Int)(AC:Int)(AJ:List (List Int))(AB:List (List Int))(AO:List (List (Int×Int)))(Aa:List Int)(A8:List Int){v:(List (List Int))×Bool}{s:St}{r:(List (List Int))}(h:GJ A9 AC AJ AB AO Aa A8 v=some r)(hM:Hy A9 AC AJ AB AO Aa A8 v.1 v.2 s):CF Y.env xH (LA A9 AC AJ AB AO Aa A8 r) s:=by
 unfold GJ at h;refine BN (c:=fH) (fun v=>Ht A9 AC AJ AB AO Aa A8 v.1 v.2) (fun v s=>Hy A9 AC AJ AB AO Aa A8 v.1 v.2 s) (LA A9 AC AJ AB AO Aa A8) ?_ h hM;clear h hM s v r;intro v s o hM h;obtain⟨MM,NZ⟩:=v;dsimp only at h hM;unfold Ht at h;unfold Hy at hM;obtain⟨m0,m1,m2,m3⟩:=hM;unfold fH;rcases iS h with⟨e2,h⟩|⟨e2,h⟩
 ·obtain⟨CK,hl4,h⟩:=Ag h;try dsimp only at h
  simp (maxDischargeDepth:=9) only [↓AP,AQ,↓reduceIte,Nat.reduceEqDiff,Nat.reduceLT,m2,m3,e2];refine Av (Vn A9 AC AJ AB AO Aa A8 MM hl4 ?_) ?_
  ·simp (maxDischargeDepth:=9) only [C9,↓reduceIte,Nat.reduceEqDiff,m0,m1,m2,Hw]
  ·intro ex4 s4 hX4;unfold L9 at hX4;obtain⟨rfl,n4_0,n4_1,n4_2,n4_3⟩:=hX4
   obtain rfl:=Option.some.inj h
   simp (maxDischargeDepth:=9) only [↓AP,AQ,↓reduceIte,n4_0,n4_1,n4_2,n4_3,Hy,GZ]
 ·have e2f:NZ=false:=Fx.mpr e2
  obtain rfl:=Option.some.inj h
  simp (maxDischargeDepth:=9) only [↓AP,AQ,↓reduceIte,Nat.reduceEqDiff,m2,m3,e2f,Hy,LA,KW]
theorem YU(A9:Int)(AC:Int)(AJ:List (List Int))(AB:List (List Int))(AO:List (List (Int×Int)))(Aa:List Int)(A8:List Int)(Cf:List (List Int)){r:(List (List Int))}(h:Oq A9 AC AJ AB AO Aa A8 Cf=some r):Y.call 34 [D.agg [D.int .i64 A9,D.int .i64 AC,D.sl 26 (AL (fun x=>D.sl 3 (AL (D.int .i64) x)) AJ),D.sl 26 (AL (fun x=>D.sl 3 (AL (D.int .i64) x)) AB)],D.agg [D.sl 79 (AL (fun x=>D.sl 87 (Ay .i64 .i64 x)) AO),D.sl 3 (AL (D.int .i64) Aa),D.sl 3 (AL (D.int .i64) A8)],D.sl 26 (AL (fun x=>D.sl 3 (AL (D.int .i64) x)) Cf)] []=some (D.own 26 (AL (fun x=>D.own 3 (AL (D.int .i64) x)) r),[]):=by
 refine c34 ?_ rfl;unfold k34;unfold Oq at h;obtain⟨wV,hl1,h⟩:=Ag h;have c1:=RL Cf hl1;obtain⟨UO,hl3,h⟩:=Ag h;try dsimp only at h
 simp (maxDischargeDepth:=9) only [↓AP,AQ,↓reduceIte,Nat.reduceEqDiff,Nat.reduceLT,Nat.reduceAdd,c1];refine Av (Vo A9 AC AJ AB AO Aa A8 hl3 ?_) ?_
 ·simp (maxDischargeDepth:=9) only [C9,↓reduceIte,Nat.reduceEqDiff,Hy]
 ·intro ex3 s3 hX3;unfold LA at hX3;obtain⟨rfl,n3_0⟩:=hX3
  obtain rfl:=Option.some.inj h
  simp (maxDischargeDepth:=9) only [↓AP,AQ,↓reduceIte,Nat.reduceEqDiff,Nat.reduceLT,n3_0]
noncomputable def FC(Ma:(List (List Int)))(YV:Int):Option ((Int)⊕(Unit⊕Unit)):= if YV<(Ma.length:Int)then ck (0≤YV∧YV.toNat<Ma.length)<| ck ((Ma.getD YV.toNat default).length<1099511627776)<| if((Ma.getD YV.toNat default).contains (0:Int))=true then some (Sum.inr (Sum.inl ())) else some (Sum.inl (IntKind.i64.wrap (YV+1))) else some (Sum.inr (Sum.inr ()))
noncomputable def LB(Ma:(List (List Int)))(v:Int):Option (Unit⊕Unit):=I4 (fun v=>FC Ma v) v
noncomputable def MN(AR:Int)(AV:Int)(AX:List (List Int))(AZ:List (List Int))(Ak:List (List (Int×Int)))(BV:List Int)(Ad:List Int)(l:List (List Int)):Option ((List (List Int))×Bool):=
 (O5 AR AV AX AZ Ak BV Ad l).bind fun YG=>
 if YG=true then
  (QY AR AV AX AZ l).bind fun Rc=>
  (Oq AR AV AX AZ Ak BV Ad Rc).bind fun Ma=>
  (LB Ma 0).bind fun AY=>
  match AY with
  | .inl q1000_=>
   some ([],false)
  | .inr q1000_=>
   some (Ma,true)
 else
  some ([],false)
def fI:SC:= .seq (.ops [oB 25 .lss 3 (tK 24) (tK 23) 3 0]) (.seq (.cond (tK 25) .skip (.exit 0)) (.seq (.block 1 (.seq (.ops [oI 26 22 22 24,oL 27 26 26 26,oA 10 27 26]) (.seq (.ops [oM 28 10 26,oC 29 36 [(tK 28),(iK 0)] [26,3] 4]) (.cond (tK 29) (.seq (.ops [oX 6 (.assign (.const (.slice none 0 0))) 22,oX 7 (.assign (.const (.bool false))) 4]) .ret) .skip)))) (.ops [oB 30 .add 3 (tK 24) (iK 1) 3 3,oM 24 30 3])))
def xI:SC:= .loop fI
def k10:SC:= .seq (.ops [oX 3 (.box 34 (tK 0)) 0,oX 4 (.box 38 (tK 1)) 0,oX 6 (.assign (.const (.slice none 0 0))) 22,oX 7 (.assign (.const (.bool false))) 4]) (.seq (.seq (.ops [oL 11 34 3 34,oL 12 38 4 38,oM 13 2 22,oC 14 33 [(tK 11),(tK 12),(tK 13)] [34,38,22] 4,oX 15 (.unOp .not 4 (tK 14)) 4]) (.cond (tK 15) (.seq (.ops [oX 6 (.assign (.const (.slice none 0 0))) 22,oX 7 (.assign (.const (.bool false))) 4]) .ret) .skip)) (.seq (.draws [(⟨[16,3,3],[16,17,18,19,20,21,8,21,21],[16]⟩,oL 16 34 3 34),(⟨[17,4,4],[16,17,18,19,20,21,8,21,21],[17]⟩,oL 17 38 4 38),(⟨[18,3,3],[16,17,18,19,20,21,8,21,21],[18]⟩,oL 18 34 3 34),(⟨[19,2,2],[16,17,18,19,20,21,8,21,21],[19]⟩,oM 19 2 22),(⟨[20,18,19,3,2],[16,17,18,19,20,21,8,21,21],[20]⟩,oC 20 35 [(tK 18),(tK 19)] [34,22] 22),(⟨[21,16,17,20,3,4,20],[16,17,18,19,20,21,8,21,21],[21]⟩,oC 21 34 [(tK 16),(tK 17),(tK 20)] [34,38,22] 22),(⟨[8,21,21],[16,17,18,19,20,21,8,21,21],[8,21,21]⟩,oA 8 21 22)]) (.seq (.seq (.ops [oM 22 8 22,oN 23 22 22,oX 24 (.move (iK 0)) 3]) (.block 0 xI)) (.seq (.ops [oM 31 8 22,oA 6 31 22,oX 7 (.assign (.const (.bool true))) 4]) .ret))))
theorem A5v:Tryz.f10.body.map (Bf lends)=some k10:=by kernel_rfl
theorem AIv:Bz Tryz.f10 3=true:=by kernel_rfl
theorem RH{a l:List D}{r:D×List D}(h:CF Y.env k10 (ES Ae l.length [ResultVar.tmp 6,ResultVar.tmp 7] r) (entry a l))(ha:a.length=3):Y.call 10 a l=some r:=
 Ab (Y:=Y) rfl Tryz.func10 (ha▸AIv) A5v h
def EG(Ma:(List (List Int)))(YV:Int)(s:St):Prop:=s.v 8=D.own 26 (AL (fun x=>D.own 3 (AL (D.int .i64) x)) Ma)∧(∃w_,s.v 22=D.vw [8] (s.k 8) w_)∧s.v 23=D.int .i64 (Ma.length:Int)∧s.v 24=D.int .i64 YV
def FD(Ma:(List (List Int)))(r:Unit⊕Unit)(ex:Ex)(s:St):Prop:=match r with
 | .inl q=>ex= .ret∧s.v 6=D.own 26 []∧s.v 7=D.bool false
 | .inr q=>ex= .exit 0∧s.v 8=D.own 26 (AL (fun x=>D.own 3 (AL (D.int .i64) x)) Ma)
theorem TY(Ma:(List (List Int))){v:Int}{s:St}{r:Unit⊕Unit}(h:LB Ma v=some r)(hM:EG Ma v s):CF Y.env xI (FD Ma r) s:=by
 unfold LB at h;refine BN (c:=fI) (fun v=>FC Ma v) (fun v s=>EG Ma v s) (FD Ma) ?_ h hM;clear h hM s v r;intro YV s o hM h;unfold FC at h;unfold EG at hM;obtain⟨m0,⟨w1_,m1⟩,m2,m3⟩:=hM;unfold fI;rcases iS h with⟨e5,h⟩|⟨e5,h⟩
 ·obtain⟨e6,e7,h⟩:=Ei h;have c8:=Xv (Ma.getD YV.toNat default) (0:Int) e7;rcases iS h with⟨e9,h⟩|⟨e9,h⟩
  ·obtain rfl:=Option.some.inj h
   simp (maxDischargeDepth:=9) only [↓AP,AQ,↓reduceIte,Nat.reduceEqDiff,Nat.reduceLT,Nat.reduceAdd,m0,m1,m2,m3,e5,e6.1,e6.2,c8,e9,EG,FD,MP]
  ·have e9f:((Ma.getD YV.toNat default).contains (0:Int))=false:=Fx.mpr e9
   obtain rfl:=Option.some.inj h
   simp (maxDischargeDepth:=9) only [↓AP,AQ,↓reduceIte,Nat.reduceEqDiff,Nat.reduceLT,Nat.reduceAdd,m0,m1,m2,m3,e5,e6.1,e6.2,c8,e9f,EG,GZ]<;>(repeat' apply A7)<;>first|rfl|exact⟨_,rfl⟩|exact⟨_,_,rfl⟩|simp [AL,BP]
 ·obtain rfl:=Option.some.inj h
  simp (maxDischargeDepth:=9) only [↓AP,AQ,↓reduceIte,Nat.reduceEqDiff,Nat.reduceLT,m0,m2,m3,e5,EG,FD,KW]
theorem Ua(AR:Int)(AV:Int)(AX:List (List Int))(AZ:List (List Int))(Ak:List (List (Int×Int)))(BV:List Int)(Ad:List Int)(l:List (List Int)){r:(List (List Int))×Bool}(h:MN AR AV AX AZ Ak BV Ad l=some r):Y.call 10 [D.agg [D.int .i64 AR,D.int .i64 AV,D.sl 26 (AL (fun x=>D.sl 3 (AL (D.int .i64) x)) AX),D.sl 26 (AL (fun x=>D.sl 3 (AL (D.int .i64) x)) AZ)],D.agg [D.sl 79 (AL (fun x=>D.sl 87 (Ay .i64 .i64 x)) Ak),D.sl 3 (AL (D.int .i64) BV),D.sl 3 (AL (D.int .i64) Ad)],D.sl 26 (AL (fun x=>D.sl 3 (AL (D.int .i64) x)) l)] []=some (D.tup [D.own 26 (AL (fun x=>D.own 3 (AL (D.int .i64) x)) r.1),D.bool r.2],[]):=by
 refine RH ?_ rfl;unfold k10;unfold MN at h;obtain⟨YG,hl1,h⟩:=Ag h;have c1:=UT AR AV AX AZ Ak BV Ad l hl1;rcases iS h with⟨e2,h⟩|⟨e2,h⟩
 ·obtain⟨Rc,hl3,h⟩:=Ag h;have c3:=ZZ AR AV AX AZ l hl3;obtain⟨Ma,hl4,h⟩:=Ag h;have c4:=YU AR AV AX AZ Ak BV Ad Rc hl4;obtain⟨AY,hl6,h⟩:=Ag h;try dsimp only at h
  simp (maxDischargeDepth:=9) only [↓AP,AQ,↓reduceIte,Nat.reduceEqDiff,Nat.reduceLT,Nat.reduceAdd,c1,e2,c3,c4];refine Av (TY Ma hl6 ?_) ?_
  ·simp (maxDischargeDepth:=9) only [C9,↓reduceIte,Nat.reduceEqDiff,Nat.reduceAdd,EG]<;>(repeat' apply A7)<;>first|rfl|exact⟨_,rfl⟩|exact⟨_,_,rfl⟩|simp [AL,BP]
  ·intro ex6 s6 hX6;rcases AY with q1000_|q1000_
   ·unfold FD at hX6;dsimp only at hX6 h;obtain⟨rfl,n6_0,n6_1⟩:=hX6
    obtain rfl:=Option.some.inj h
    simp (maxDischargeDepth:=9) only [↓AP,AQ,↓reduceIte,Nat.reduceEqDiff,n6_0,n6_1]<;>(repeat' apply A7)<;>first|rfl|exact⟨_,rfl⟩|exact⟨_,_,rfl⟩|simp [AL,BP]
   ·unfold FD at hX6;dsimp only at hX6 h;obtain⟨rfl,n6_0⟩:=hX6
    obtain rfl:=Option.some.inj h
    simp (maxDischargeDepth:=9) only [↓AP,AQ,↓reduceIte,Nat.reduceEqDiff,Nat.reduceLT,n6_0]
 ·have e2f:YG=false:=Fx.mpr e2
  obtain rfl:=Option.some.inj h
  simp (maxDischargeDepth:=9) only [↓AP,AQ,↓reduceIte,Nat.reduceEqDiff,Nat.reduceLT,Nat.reduceAdd,c1,e2f]<;>(repeat' apply A7)<;>first|rfl|exact⟨_,rfl⟩|exact⟨_,_,rfl⟩|simp [AL,BP]
end Go.Proofs.YtiehjihckndgkaaGreat
