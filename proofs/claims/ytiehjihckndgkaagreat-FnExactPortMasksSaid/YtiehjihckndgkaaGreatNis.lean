/- When lists are a network, as plain functions. Conditions: the lists are short. -/
import Derived.Test.YtiehjihckndgkaaGreatL6
import Derived.Test.YtiehjihckndgkaaGreatNet
namespace Go.Proofs.YtiehjihckndgkaaGreat
open Go Dv
set_option linter.unusedSimpArgs false
set_option linter.unusedVariables false
set_option maxRecDepth 100000
set_option maxHeartbeats 4000000
noncomputable def EY(list:List Int)(low:Int)(high:Int)(Cb:Int):Option ((Int)⊕(Unit⊕Unit)):= if Cb<(list.length:Int)then ck (0≤Cb∧Cb.toNat<list.length)<| if(KL (list.getD Cb.toNat default) low high)=true then if 0<Cb then ck (0≤IntKind.i64.wrap (Cb-1)∧(IntKind.i64.wrap (Cb-1)).toNat<list.length)<| if(list.getD Cb.toNat default)≤(list.getD ((IntKind.i64.wrap (Cb-1)).toNat) default)then some (Sum.inr (Sum.inl ())) else some (Sum.inl (IntKind.i64.wrap (Cb+1))) else some (Sum.inl (IntKind.i64.wrap (Cb+1))) else some (Sum.inr (Sum.inl ())) else some (Sum.inr (Sum.inr ()))
noncomputable def KM(list:List Int)(low:Int)(high:Int)(v:Int):Option (Unit⊕Unit):=I4 (fun v=>EY list low high v) v
noncomputable def Mk(list:List Int)(low:Int)(high:Int):Option (Bool):=
 (KM list low high 0).bind fun AY=>
 match AY with
 | .inl q1000_=>
  some false
 | .inr q1000_=>
  some true
def Y7:SC:= .seq (.ops [oB 12 .lss 3 (tK 11) (tK 10) 3 0]) (.seq (.cond (tK 12) .skip (.exit 0)) (.seq (.block 1 (.seq (.ops [oM 13 11 3,oI 14 26 9 11,oL 15 3 14 3,oA 7 13 3,oA 8 15 3]) (.seq (.ops [oM 16 8 3,oM 17 1 3,oM 18 2 3,oC 19 64 [(tK 16),(tK 17),(tK 18)] [3,3,3] 4,oX 20 (.unOp .not 4 (tK 19)) 4,oM 21 20 4,⟨(some 22),(.move (tK 7)),3,(some (some 21,false))⟩,⟨(some 23),(.binOp .gtr 3 (tK 22) (iK 0) 3),4,(some (some 21,false))⟩,⟨(some 24),(.move (tK 23)),4,(some (some 21,false))⟩,⟨(some 25),(.move (tK 0)),26,(some (some 24,true))⟩,⟨(some 26),(.move (tK 7)),3,(some (some 24,true))⟩,⟨(some 27),(.binOp .sub 3 (tK 26) (iK 1) 3),3,(some (some 24,true))⟩,⟨(some 28),(.indexAddr 26 (tK 25) (tK 27)),0,(some (some 24,true))⟩,⟨(some 29),(.load 3 (tK 28)),3,(some (some 24,true))⟩,⟨(some 30),(.move (tK 8)),3,(some (some 24,true))⟩,⟨(some 31),(.binOp .geq 3 (tK 29) (tK 30) 3),4,(some (some 24,true))⟩,⟨(some 32),(.pick (tK 24) (tK 31) (.const (.bool false))),4,(some (some 21,false))⟩,oX 33 (.pick (tK 21) (.const (.bool true)) (tK 32)) 4]) (.cond (tK 33) (.seq (.ops [oX 6 (.assign (.const (.bool false))) 4]) .ret) .skip)))) (.ops [oB 34 .add 3 (tK 11) (iK 1) 3 3,oM 11 34 3])))
def oO:SC:= .loop Y7
def A5G:SC:= .seq (.ops [oX 6 (.assign (.const (.bool false))) 4]) (.seq (.seq (.ops [oM 9 0 26,oN 10 9 26,oX 11 (.move (iK 0)) 3]) (.block 0 oO)) (.seq (.ops [oX 6 (.assign (.const (.bool true))) 4]) .ret))
theorem zS:Tryz.f101.body.map (Bf lends)=some A5G:=by kernel_rfl
theorem ACU:Bz Tryz.f101 3=true:=by kernel_rfl
theorem AHp{a l:List D}{r:D×List D}(h:CF Y.env A5G (ES Ae l.length [ResultVar.tmp 6] r) (entry a l))(ha:a.length=3):Y.call 101 a l=some r:=
 Ab (Y:=Y) rfl Tryz.func101 (ha▸ACU) zS h
def Cq(list:List Int)(low:Int)(high:Int)(Cb:Int)(s:St):Prop:=s.v 0=D.sl 3 (AL (D.int .i64) list)∧s.v 1=D.int .i64 low∧s.v 2=D.int .i64 high∧s.v 9=D.sl 3 (AL (D.int .i64) list)∧s.v 10=D.int .i64 (list.length:Int)∧s.v 11=D.int .i64 Cb
def Dp(list:List Int)(low:Int)(high:Int)(r:Unit⊕Unit)(ex:Ex)(s:St):Prop:=match r with
 | .inl q=>ex= .ret∧s.v 6=D.bool false
 | .inr q=>ex= .exit 0
theorem Rh(list:List Int)(low:Int)(high:Int){v:Int}{s:St}{r:Unit⊕Unit}(h:KM list low high v=some r)(hM:Cq list low high v s):CF Y.env oO (Dp list low high r) s:=by
 unfold KM at h;refine BN (c:=Y7) (fun v=>EY list low high v) (fun v s=>Cq list low high v s) (Dp list low high) ?_ h hM;clear h hM s v r;intro Cb s o hM h;unfold EY at h;unfold Cq at hM;obtain⟨m0,m1,m2,m3,m4,m5⟩:=hM;unfold Y7;rcases iS h with⟨e1,h⟩|⟨e1,h⟩
 ·obtain⟨e2,h⟩:=FK h;have c3:=JN (list.getD Cb.toNat default) low high;rcases iS h with⟨e4,h⟩|⟨e4,h⟩
  ·rcases iS h with⟨e5,h⟩|⟨e5,h⟩
   ·obtain⟨e6,h⟩:=FK h;rcases iS h with⟨e7,h⟩|⟨e7,h⟩
    ·obtain rfl:=Option.some.inj h
     simp (maxDischargeDepth:=9) only [↓AP,AQ,↓reduceIte,Nat.reduceEqDiff,Nat.reduceLT,Nat.reduceAdd,m0,m1,m2,m3,m4,m5,e1,e2.1,e2.2,c3,e4,e5,e6.1,e6.2,e7,Cq,Dp,MP]
    ·obtain rfl:=Option.some.inj h
     simp (maxDischargeDepth:=9) only [↓AP,AQ,↓reduceIte,Nat.reduceEqDiff,Nat.reduceLT,Nat.reduceAdd,m0,m1,m2,m3,m4,m5,e1,e2.1,e2.2,c3,e4,e5,e6.1,e6.2,e7,Cq,GZ]
   ·obtain rfl:=Option.some.inj h
    simp (maxDischargeDepth:=9) only [↓AP,AQ,↓reduceIte,Nat.reduceEqDiff,Nat.reduceLT,Nat.reduceAdd,m0,m1,m2,m3,m4,m5,e1,e2.1,e2.2,c3,e4,e5,Cq,GZ]
  ·have e4f:(KL (list.getD Cb.toNat default) low high)=false:=Fx.mpr e4
   obtain rfl:=Option.some.inj h
   simp (maxDischargeDepth:=9) only [↓AP,AQ,↓reduceIte,Nat.reduceEqDiff,Nat.reduceLT,Nat.reduceAdd,m1,m2,m3,m4,m5,e1,e2.1,e2.2,c3,e4f,Cq,Dp,MP]
 ·obtain rfl:=Option.some.inj h
  simp (maxDischargeDepth:=9) only [↓AP,AQ,↓reduceIte,Nat.reduceLT,m4,m5,e1,Cq,Dp,KW]
theorem TI(list:List Int)(low:Int)(high:Int){r:Bool}(h:Mk list low high=some r):Y.call 101 [D.sl 3 (AL (D.int .i64) list),D.int .i64 low,D.int .i64 high] []=some (D.bool r,[]):=by
 refine AHp ?_ rfl;unfold A5G;unfold Mk at h;obtain⟨AY,hl2,h⟩:=Ag h;try dsimp only at h
 simp (maxDischargeDepth:=9) only [↓AP,AQ,↓reduceIte,Nat.reduceEqDiff,Nat.reduceLT];refine Av (Rh list low high hl2 ?_) ?_
 ·simp (maxDischargeDepth:=9) only [C9,DK,↓reduceIte,Nat.reduceEqDiff,Nat.reduceLT,Cq]
 ·intro ex2 s2 hX2;rcases AY with q1000_|q1000_
  ·unfold Dp at hX2;dsimp only at hX2 h;obtain⟨rfl,n2_0⟩:=hX2
   obtain rfl:=Option.some.inj h
   simp (maxDischargeDepth:=9) only [↓AP,AQ,↓reduceIte,n2_0]
  ·unfold Dp at hX2;dsimp only at hX2 h
   obtain rfl:=hX2
   obtain rfl:=Option.some.inj h
   simp (maxDischargeDepth:=9) only [↓AP,AQ,↓reduceIte,Nat.reduceEqDiff,Nat.reduceLT]
def Y8(l:List Int)(lo hi:Int):Bool:=(List.range l.length).all fun i=>KL (l.getD i default) lo hi&&(decide (i=0)||decide (l.getD (i-1) default<l.getD i default))
theorem Vf(l:List Int)(lo hi:Int)(h:l.length<1099511627776):Mk l lo hi=some (Y8 l lo hi):=by
 have key:=Db (fun v=>EY l lo hi v) (fun i=>(i:Int)) l.length (fun i=>KL (l.getD i default) lo hi&&(decide (i=0)||decide (l.getD (i-1) default<l.getD i default))) (.inl ()) (.inr ()) ?_ ?_
 ·rw [GY]at key;unfold Mk KM Y8;rw [key]
  cases (List.range l.length).all fun i=>KL (l.getD i default) lo hi&&(decide (i=0)||decide (l.getD (i-1) default<l.getD i default))<;>rfl
 ·intro i hi';simp only [EY,IV];rw [if_pos (CJ hi'),BJ (by omega),Kh i (by omega)]
  cases hr:KL (l.getD i default) lo hi with
  |false=>simp
  |true=>
   by_cases h0:i=0
   ·subst h0;rw [if_pos rfl,if_neg (by omega)]
    simp
   ·rw [if_pos rfl,if_pos (by omega),J9 _ (by omega),BJ (by omega),show((i:Int)-1).toNat=i-1 by omega,decide_eq_false h0]
    by_cases hlt:l.getD (i-1) default<l.getD i default
    ·rw [if_neg (by omega),decide_eq_true hlt];rfl
    ·rw [if_pos (by omega),decide_eq_false hlt];rfl
 ·simp only [EY];rw [if_neg (Ar _)]
theorem Vg(list:List Int)(low:Int)(high:Int)(h0:list.length<1099511627776):Y.call 101 [D.sl 3 (AL (D.int .i64) list),D.int .i64 low,D.int .i64 high] []=some (D.bool (Y8 list low high),[]):=TI list low high (Vf list low high h0)
theorem mY{l:List Int}{lo hi:Int}(h:Y8 l lo hi=true):l.Pairwise (fun a b=>a<b)∧ ∀x∈l,KL x lo hi=true:=by
 have h0:=CW.1 h
 have step: ∀i,i+1<l.length→l.getD i default<l.getD (i+1) default:=fun i hi=>by
  have:=h0 (i+1) hi
  rw [Fa]at this;simpa using this.2
 have nV: ∀(d i:Nat),i+d+1<l.length→l.getD i default<l.getD (i+d+1) default:=by
  intro d
  induction d with
  |zero=>intro i hi;exact step i hi
  |succ d ih=>
   intro i hi;have h1:=ih i (by omega)
   have h2:=step (i+d+1) (by omega)
   rw [show i+(d+1)+1=i+d+1+1 by omega]
   omega
 refine⟨List.pairwise_iff_getElem.2 fun i j hi hj hij=> ?_,fun x hx=> ?_⟩
 ·have:=nV (j-i-1) i (by omega)
  rw [show i+(j-i-1)+1=j by omega,Am _ _ hi,Am _ _ hj]at this
  exact this
 ·obtain⟨i,hi,rfl⟩:=VB hx;have:=h0 i hi
  rw [Fa,Am _ _ hi]at this;exact this.1
theorem wH{l:List Int}{lo hi:Int}(h1:l.Pairwise (fun a b=>a<b))(h2: ∀x∈l,KL x lo hi=true):Y8 l lo hi=true:=by
 refine CW.2 fun i hi=> ?_;rw [Fa]
 refine⟨by rw [Am _ _ hi];exact h2 _ (OA hi), ?_⟩
 by_cases h0:i=0
 ·rw [decide_eq_true h0];rfl
 ·have:=List.pairwise_iff_getElem.1 h1 (i-1) i (by omega) hi (by omega)
  rw [Rs]
  right
  rw [decide_eq_true_eq,Am _ _ hi,Am _ _ (by omega:i-1<l.length)]
  exact this
def UK(ids:List Int)(n:Int):Bool:=decide (ids.length=0)||(decide ((ids.length:Int)=n)&&(decide ids.Nodup&&DC ids 1 999999))
theorem mZ(ids:List Int)(lo hi:Int):Y8 (LK ids) lo hi=(decide ids.Nodup&&DC ids lo hi):=by
 rw [Rt,Fa,decide_eq_true_eq];have hp:=NN ids;unfold DC;rw [JG]
 constructor
 ·intro h;obtain⟨h1,h2⟩:=mY h
  refine⟨hp.nodup_iff.1 (h1.imp fun h=>by omega),fun x hx=>h2 x (hp.mem_iff.2 hx)⟩
 ·rintro⟨h1,h2⟩
  refine wH ?_ fun x hx=>h2 x (hp.mem_iff.1 hx);have hn:(LK ids).Pairwise (fun a b=>a≠b):=hp.nodup_iff.2 h1
  exact((Re ids).and hn).imp fun h=>by omega
theorem JQ(xs:List Int)(h:xs.length<1099511627776):Y.call 99 [.sl 3 (AL (D.int .i64) xs)] []=some (.own 3 (AL (D.int .i64) xs),[]):=by
 refine vL (AL (D.int .i64) xs) (by rw [XO];exact h) (aD _ _ (fun x=>rfl)) (XP _ _ (fun x=>by first|exact hoI .. |exact A7j .. |exact hoB .. |exact hoS ..)) ?_
 simp (maxDischargeDepth:=9) only [C9,A92,DK]
noncomputable def WB(ids:List Int)(nodes:Int):Option (Bool):= if(ids.length:Int)=0 then some true else ck (ids.length<1099511627776)<| ck (ids.length<4611686018427387904)<| if(ids.length:Int)=nodes then ck ((K3 ids).length<1099511627776)<| some (Y8 (K3 ids) (1:Int) (999999:Int)) else some false
def k66:SC:= .seq (.ops [oX 4 (.assign (.const (.bool false))) 4]) (.seq (.seq (.ops [oM 6 0 26,oN 7 6 26,oB 8 .eql 3 (tK 7) (iK 0) 3 4]) (.cond (tK 8) (.seq (.ops [oX 4 (.assign (.const (.bool true))) 4]) .ret) .skip)) (.seq (.ops [oM 9 0 26,oC 10 99 [(tK 9)] [26] 26,oA 5 10 26]) (.seq (.ops [oM 11 5 26,oC 12 100 [(tK 11)] [26] 0]) (.seq (.ops [oM 13 0 26,oN 14 13 26,oM 15 1 3,oB 16 .eql 3 (tK 14) (tK 15) 3 4,oM 17 16 4,⟨(some 18),(.move (tK 5)),26,(some (some 17,true))⟩,⟨(some 19),(.call ⟨(.value (.func 101)), #[(tK 18),(iK 1),(iK 999999)], #[26,3,3]⟩),4,(some (some 17,true))⟩,oX 20 (.pick (tK 17) (tK 19) (.const (.bool false))) 4,oA 4 20 4]) .ret))))
theorem A5H:Tryz.f66.body.map (Bf lends)=some k66:=by kernel_rfl
theorem AHr:Bz Tryz.f66 2=true:=by kernel_rfl
theorem c66{a l:List D}{r:D×List D}(h:CF Y.env k66 (ES Ae l.length [ResultVar.tmp 4] r) (entry a l))(ha:a.length=2):Y.call 66 a l=some r:=
 Ab (Y:=Y) rfl Tryz.func66 (ha▸AHr) A5H h
theorem dW(ids:List Int)(nodes:Int){r:Bool}(h:WB ids nodes=some r):Y.call 66 [D.sl 3 (AL (D.int .i64) ids),D.int .i64 nodes] []=some (D.bool r,[]):=by
 refine c66 ?_ rfl;unfold k66;unfold WB at h;rcases iS h with⟨e1,h⟩|⟨e1,h⟩
 ·obtain rfl:=Option.some.inj h
  simp (maxDischargeDepth:=9) only [↓AP,AQ,↓reduceIte,Nat.reduceEqDiff,Nat.reduceLT,decide_eq_true e1]
 ·obtain⟨e2,h⟩:=FK h;have c3:=JQ ids e2;obtain⟨e4,h⟩:=FK h;have c5:=vK ids e4;rcases iS h with⟨e6,h⟩|⟨e6,h⟩
  ·obtain⟨e7,h⟩:=FK h;have c8:=Vg (K3 ids) (1:Int) (999999:Int) e7
   obtain rfl:=Option.some.inj h
   simp (maxDischargeDepth:=9) only [↓AP,AQ,↓reduceIte,Nat.reduceEqDiff,Nat.reduceLT,Nat.reduceAdd,e1,c3,c5,decide_eq_true e6,c8]
  ·obtain rfl:=Option.some.inj h
   simp (maxDischargeDepth:=9) only [↓AP,AQ,↓reduceIte,Nat.reduceEqDiff,Nat.reduceLT,Nat.reduceAdd,e1,c3,c5,e6]
noncomputable def Jp(ids:List Int)(nodes:Int)(Lf:Int):Option ((Int)⊕(Unit⊕Unit)):= if Lf<(ids.length:Int)then ck (0≤Lf∧Lf.toNat<ids.length)<| if(KL (ids.getD Lf.toNat default) (1:Int) (999999:Int))=true then ck (0≤Lf)<| ck (Lf.toNat≤ids.length)<| ck (((ids.take Lf.toNat).drop 0).length<1099511627776)<| if(((ids.take Lf.toNat).drop 0).contains (ids.getD Lf.toNat default))=true then some (Sum.inr (Sum.inl ())) else some (Sum.inl (IntKind.i64.wrap (Lf+1))) else some (Sum.inr (Sum.inl ())) else some (Sum.inr (Sum.inr ()))
noncomputable def PP(ids:List Int)(nodes:Int)(v:Int):Option (Unit⊕Unit):=I4 (fun v=>Jp ids nodes v) v
noncomputable def WC(ids:List Int)(nodes:Int):Option (Bool):=
 (PP ids nodes 0).bind fun AY=>
 match AY with
 | .inl q1000_=>
  some false
 | .inr q1000_=>
  if(ids.length:Int)=0 then
   some true
  else
   some (decide ((ids.length:Int)=nodes))
def dX:SC:= .seq (.ops [oB 10 .lss 3 (tK 9) (tK 8) 3 0]) (.seq (.cond (tK 10) .skip (.exit 0)) (.seq (.block 1 (.seq (.ops [oM 11 9 3,oI 12 26 7 9,oL 13 3 12 3,oA 5 11 3,oA 6 13 3]) (.seq (.ops [oM 14 6 3,oC 15 82 [(tK 14),(iK 1),(iK 999999)] [3,3,3] 4,oX 16 (.unOp .not 4 (tK 15)) 4,oM 17 16 4,⟨(some 18),(.move (tK 0)),26,(some (some 17,false))⟩,⟨(some 19),(.move (tK 5)),3,(some (some 17,false))⟩,⟨(some 20),(.slice 26 (tK 18) none (some (tK 19)) none),900001,(some (some 17,false))⟩,⟨(some 21),(.move (tK 6)),3,(some (some 17,false))⟩,⟨(some 22),(.call ⟨(.value (.func 36)), #[(tK 20),(tK 21)], #[26,3]⟩),4,(some (some 17,false))⟩,oX 23 (.pick (tK 17) (.const (.bool true)) (tK 22)) 4]) (.cond (tK 23) (.seq (.ops [oX 4 (.assign (.const (.bool false))) 4]) .ret) .skip)))) (.ops [oB 24 .add 3 (tK 9) (iK 1) 3 3,oM 9 24 3])))
def wI:SC:= .loop dX
def k91:SC:= .seq (.ops [oX 4 (.assign (.const (.bool false))) 4]) (.seq (.seq (.ops [oM 7 0 26,oN 8 7 26,oX 9 (.move (iK 0)) 3]) (.block 0 wI)) (.seq (.ops [oM 25 0 26,oN 26 25 26,oB 27 .eql 3 (tK 26) (iK 0) 3 4,oM 28 27 4,⟨(some 29),(.move (tK 0)),26,(some (some 28,false))⟩,⟨(some 30),(.call ⟨(.builtin .len), #[(tK 29)], #[26]⟩),3,(some (some 28,false))⟩,⟨(some 31),(.move (tK 1)),3,(some (some 28,false))⟩,⟨(some 32),(.binOp .eql 3 (tK 30) (tK 31) 3),4,(some (some 28,false))⟩,oX 33 (.pick (tK 28) (.const (.bool true)) (tK 32)) 4,oA 4 33 4]) .ret))
theorem A5I:Tryz.f91.body.map (Bf lends)=some k91:=by kernel_rfl
theorem AHt:Bz Tryz.f91 2=true:=by kernel_rfl
theorem c91{a l:List D}{r:D×List D}(h:CF Y.env k91 (ES Ae l.length [ResultVar.tmp 4] r) (entry a l))(ha:a.length=2):Y.call 91 a l=some r:=
 Ab (Y:=Y) rfl Tryz.func91 (ha▸AHt) A5I h
def GD(ids:List Int)(nodes:Int)(Lf:Int)(s:St):Prop:=s.v 0=D.sl 3 (AL (D.int .i64) ids)∧s.v 1=D.int .i64 nodes∧s.v 7=D.sl 3 (AL (D.int .i64) ids)∧s.v 8=D.int .i64 (ids.length:Int)∧s.v 9=D.int .i64 Lf
def IK(ids:List Int)(nodes:Int)(r:Unit⊕Unit)(ex:Ex)(s:St):Prop:=match r with
 | .inl q=>ex= .ret∧s.v 4=D.bool false
 | .inr q=>ex= .exit 0∧s.v 0=D.sl 3 (AL (D.int .i64) ids)∧s.v 1=D.int .i64 nodes
theorem ZU(ids:List Int)(nodes:Int){v:Int}{s:St}{r:Unit⊕Unit}(h:PP ids nodes v=some r)(hM:GD ids nodes v s):CF Y.env wI (IK ids nodes r) s:=by
 unfold PP at h;refine BN (c:=dX) (fun v=>Jp ids nodes v) (fun v s=>GD ids nodes v s) (IK ids nodes) ?_ h hM;clear h hM s v r;intro Lf s o hM h;unfold Jp at h;unfold GD at hM;obtain⟨m0,m1,m2,m3,m4⟩:=hM;unfold dX;rcases iS h with⟨e1,h⟩|⟨e1,h⟩
 ·obtain⟨e2,h⟩:=FK h;have c3:=LV (ids.getD Lf.toNat default) (1:Int) (999999:Int);rcases iS h with⟨e4,h⟩|⟨e4,h⟩
  ·obtain⟨e5,e6,e7,h⟩:=Oa h;have c8:=Xv ((ids.take Lf.toNat).drop 0) (ids.getD Lf.toNat default) e7;rcases iS h with⟨e9,h⟩|⟨e9,h⟩
   ·obtain rfl:=Option.some.inj h
    simp (maxDischargeDepth:=9) only [↓AP,AQ,↓reduceIte,Nat.reduceEqDiff,Nat.reduceLT,Nat.reduceAdd,m0,m2,m3,m4,e1,e2.1,e2.2,c3,e4,e6,c8,e9,GD,IK,MP]
   ·have e9f:(((ids.take Lf.toNat).drop 0).contains (ids.getD Lf.toNat default))=false:=Fx.mpr e9
    obtain rfl:=Option.some.inj h
    simp (maxDischargeDepth:=9) only [↓AP,AQ,↓reduceIte,Nat.reduceEqDiff,Nat.reduceLT,Nat.reduceAdd,m0,m1,m2,m3,m4,e1,e2.1,e2.2,c3,e4,e6,c8,e9f,GD,GZ]
  ·have e4f:(KL (ids.getD Lf.toNat default) (1:Int) (999999:Int))=false:=Fx.mpr e4
   obtain rfl:=Option.some.inj h
   simp (maxDischargeDepth:=9) only [↓AP,AQ,↓reduceIte,Nat.reduceEqDiff,Nat.reduceLT,Nat.reduceAdd,m2,m3,m4,e1,e2.1,e2.2,c3,e4f,GD,IK,MP]
 ·obtain rfl:=Option.some.inj h
  simp (maxDischargeDepth:=9) only [↓AP,AQ,↓reduceIte,Nat.reduceEqDiff,Nat.reduceLT,m0,m1,m3,m4,e1,GD,IK,KW]
theorem dY(ids:List Int)(nodes:Int){r:Bool}(h:WC ids nodes=some r):Y.call 91 [D.sl 3 (AL (D.int .i64) ids),D.int .i64 nodes] []=some (D.bool r,[]):=by
 refine c91 ?_ rfl;unfold k91;unfold WC at h;obtain⟨AY,hl2,h⟩:=Ag h;try dsimp only at h
 simp (maxDischargeDepth:=9) only [↓AP,AQ,↓reduceIte,Nat.reduceEqDiff,Nat.reduceLT];refine Av (ZU ids nodes hl2 ?_) ?_
 ·simp (maxDischargeDepth:=9) only [C9,DK,↓reduceIte,Nat.reduceEqDiff,Nat.reduceLT,GD]
 ·intro ex2 s2 hX2;rcases AY with q1000_|q1000_
  ·unfold IK at hX2;dsimp only at hX2 h;obtain⟨rfl,n2_0⟩:=hX2
   obtain rfl:=Option.some.inj h
   simp (maxDischargeDepth:=9) only [↓AP,AQ,↓reduceIte,n2_0]
  ·unfold IK at hX2;dsimp only at hX2 h;obtain⟨rfl,n2_0,n2_1⟩:=hX2;rcases iS h with⟨e3,h⟩|⟨e3,h⟩
   ·obtain rfl:=Option.some.inj h
    simp (maxDischargeDepth:=9) only [↓AP,AQ,↓reduceIte,Nat.reduceEqDiff,Nat.reduceLT,n2_0,decide_eq_true e3]
   ·obtain rfl:=Option.some.inj h
    simp (maxDischargeDepth:=9) only [↓AP,AQ,↓reduceIte,Nat.reduceEqDiff,Nat.reduceLT,n2_0,n2_1,e3]
theorem ma(ids:List Int)(n:Int)(h:ids.length<1099511627776):WB ids n=some (UK ids n):=by
 unfold WB UK;by_cases h0:ids.length=0
 ·rw [if_pos (by omega),decide_eq_true h0];rfl
 ·rw [if_neg (by omega),BJ h,BJ (by omega),decide_eq_false h0,Bool.false_or]
  by_cases h1:(ids.length:Int)=n
  ·rw [if_pos h1,jO,BJ (by rw [aK];exact h),mZ,decide_eq_true h1];rfl
  ·rw [if_neg h1,decide_eq_false h1];rfl
theorem qz(ids:List Int):(List.range ids.length).all (fun i=>KL (ids.getD i default) 1 999999&& !(ids.take i).contains (ids.getD i default))=(decide ids.Nodup&&DC ids 1 999999):=by
 rw [Rt,CW,Fa,decide_eq_true_eq];unfold DC;rw [JG]
 constructor
 ·intro h
  refine⟨List.pairwise_iff_getElem.2 fun i j hi hj hij he=> ?_,fun x hx=> ?_⟩
  ·have:=h j hj
   rw [Fa,O9,←Bool.not_eq_true,RP,Am _ _ hj]at this;refine this.2 ?_;rw [←he];exact List.mem_take_iff_getElem.2 ⟨i,by omega,rfl⟩
  ·obtain⟨i,hi,rfl⟩:=VB hx;have:=h i hi
   rw [Fa,Am _ _ hi]at this;exact this.1
 ·rintro⟨h1,h2⟩ i hi
  rw [Fa,O9,←Bool.not_eq_true,RP,Am _ _ hi]
  refine⟨h2 _ (OA hi),fun hm=> ?_⟩
  obtain⟨j,hj,he⟩:=List.mem_take_iff_getElem.1 hm;exact List.pairwise_iff_getElem.1 h1 j i (by omega) hi (by omega) he
theorem mf(ids:List Int)(n:Int)(h:ids.length<1099511627776):WC ids n=some (UK ids n):=by
 have key:=Db (fun v=>Jp ids n v) (fun i=>(i:Int)) ids.length (fun i=>KL (ids.getD i default) 1 999999&& !(ids.take i).contains (ids.getD i default)) (.inl ()) (.inr ()) ?_ ?_
 ·rw [GY,qz]at key;unfold WC PP UK;rw [key,DJ];by_cases h0:ids.length=0
  ·have:ids=[]:=ow h0
   subst this;simp [DC]
  ·rw [decide_eq_false h0,Bool.false_or]
   cases decide ids.Nodup&&DC ids 1 999999 with
   |false=>rw [Bool.and_false];rfl
   |true=>rw [aT,if_pos rfl];simp only;rw [if_neg (by omega)]
 ·intro i hi;simp only [Jp,IV,Ru];rw [if_pos (CJ hi),BJ (by omega),BJ (by omega),BJ (by omega),BJ (by rw [Rq];omega),Kh i (by omega)]
  cases KL (ids.getD i default) 1 999999<;>cases (ids.take i).contains (ids.getD i default)<;>rfl
 ·simp only [Jp];rw [if_neg (Ar _)]
theorem mg(ids:List Int)(nodes:Int)(h0:ids.length<1099511627776):Y.call 66 [D.sl 3 (AL (D.int .i64) ids),D.int .i64 nodes] []=some (D.bool (UK ids nodes),[]):=dW ids nodes (ma ids nodes h0)
theorem mh(ids:List Int)(nodes:Int)(h0:ids.length<1099511627776):Y.call 91 [D.sl 3 (AL (D.int .i64) ids),D.int .i64 nodes] []=some (D.bool (UK ids nodes),[]):=dY ids nodes (mf ids nodes h0)
noncomputable def PQ(inputs:List Int)(nodes:Int):Option (Bool):= if(inputs.length:Int)=nodes then ck (inputs.length<1099511627776)<| some (DC inputs (0:Int) (9:Int)) else some false
def k67:SC:= .seq (.ops [oX 4 (.assign (.const (.bool false))) 4]) (.seq (.ops [oM 5 0 26,oN 6 5 26,oM 7 1 3,oB 8 .eql 3 (tK 6) (tK 7) 3 4,oM 9 8 4,⟨(some 10),(.move (tK 0)),26,(some (some 9,true))⟩,⟨(some 11),(.call ⟨(.value (.func 71)), #[(tK 10),(iK 0),(iK 9)], #[26,3,3]⟩),4,(some (some 9,true))⟩,oX 12 (.pick (tK 9) (tK 11) (.const (.bool false))) 4,oA 4 12 4]) .ret)
theorem A5J:Tryz.f67.body.map (Bf lends)=some k67:=by kernel_rfl
theorem AHv:Bz Tryz.f67 2=true:=by kernel_rfl
theorem c67{a l:List D}{r:D×List D}(h:CF Y.env k67 (ES Ae l.length [ResultVar.tmp 4] r) (entry a l))(ha:a.length=2):Y.call 67 a l=some r:=
 Ab (Y:=Y) rfl Tryz.func67 (ha▸AHv) A5J h
theorem Vh(inputs:List Int)(nodes:Int){r:Bool}(h:PQ inputs nodes=some r):Y.call 67 [D.sl 3 (AL (D.int .i64) inputs),D.int .i64 nodes] []=some (D.bool r,[]):=by
 refine c67 ?_ rfl;unfold k67;unfold PQ at h;rcases iS h with⟨e1,h⟩|⟨e1,h⟩
 ·obtain⟨e2,h⟩:=FK h;have c3:=NM inputs (0:Int) (9:Int) e2
  obtain rfl:=Option.some.inj h
  simp (maxDischargeDepth:=9) only [↓AP,AQ,↓reduceIte,Nat.reduceEqDiff,Nat.reduceLT,Nat.reduceAdd,decide_eq_true e1,c3]
 ·obtain rfl:=Option.some.inj h
  simp (maxDischargeDepth:=9) only [↓AP,AQ,↓reduceIte,Nat.reduceEqDiff,Nat.reduceLT,e1]
noncomputable def JB(Ak:List (List (Int×Int)))(BV:List Int)(Ad:List Int)(v_:Int):Option (Bool):= some (KL v_ (0:Int) (IntKind.i64.wrap ((Ak.length:Int)-1)))
def k86:SC:= .seq (.ops [oX 2 (.box 38 (tK 0)) 0,oX 4 (.assign (.const (.bool false))) 4]) (.seq (.ops [oM 5 1 3,oF 6 38 2 0,oL 7 36 6 36,oN 8 7 36,oB 9 .sub 3 (tK 8) (iK 1) 3 3,oC 10 64 [(tK 5),(iK 0),(tK 9)] [3,3,3] 4,oA 4 10 4]) .ret)
theorem A5K:Tryz.f86.body.map (Bf lends)=some k86:=by kernel_rfl
theorem AHx:Bz Tryz.f86 2=true:=by kernel_rfl
theorem c86{a l:List D}{r:D×List D}(h:CF Y.env k86 (ES Ae l.length [ResultVar.tmp 4] r) (entry a l))(ha:a.length=2):Y.call 86 a l=some r:=
 Ab (Y:=Y) rfl Tryz.func86 (ha▸AHx) A5K h
theorem PR(Ak:List (List (Int×Int)))(BV:List Int)(Ad:List Int)(v_:Int){r:Bool}(h:JB Ak BV Ad v_=some r):Y.call 86 [D.agg [D.sl 79 (AL (fun x=>D.sl 87 (Ay .i64 .i64 x)) Ak),D.sl 3 (AL (D.int .i64) BV),D.sl 3 (AL (D.int .i64) Ad)],D.int .i64 v_] []=some (D.bool r,[]):=by
 refine c86 ?_ rfl;unfold k86;unfold JB at h;have c1:=JN v_ (0:Int) (IntKind.i64.wrap ((Ak.length:Int)-1))
 obtain rfl:=Option.some.inj h
 simp (maxDischargeDepth:=9) only [↓AP,AQ,↓reduceIte,Nat.reduceEqDiff,Nat.reduceLT,Nat.reduceAdd,c1]
noncomputable def JC(Ak:List (List (Int×Int)))(BV:List Int)(Ad:List Int)(v_:Int)(i:Int):Option (Bool):= (JB Ak BV Ad v_).bind fun o8=> if o8=true then ck (0≤v_∧v_.toNat<Ak.length)<| some (KL i (0:Int) (IntKind.i64.wrap (((Ak.getD v_.toNat default).length:Int)-1))) else some false
def k52:SC:= .seq (.ops [oX 3 (.box 38 (tK 0)) 0,oX 6 (.assign (.const (.bool false))) 4]) (.seq (.ops [oL 7 38 3 38,oM 8 1 3,oC 9 86 [(tK 7),(tK 8)] [38,3] 4,oM 10 9 4,⟨(some 11),(.move (tK 2)),3,(some (some 10,true))⟩,⟨(some 12),(.fieldAddr 38 (tK 3) 0),0,(some (some 10,true))⟩,⟨(some 13),(.load 36 (tK 12)),36,(some (some 10,true))⟩,⟨(some 14),(.move (tK 1)),3,(some (some 10,true))⟩,⟨(some 15),(.indexAddr 36 (tK 13) (tK 14)),0,(some (some 10,true))⟩,⟨(some 16),(.load 79 (tK 15)),79,(some (some 10,true))⟩,⟨(some 17),(.call ⟨(.builtin .len), #[(tK 16)], #[79]⟩),3,(some (some 10,true))⟩,⟨(some 18),(.binOp .sub 3 (tK 17) (iK 1) 3),3,(some (some 10,true))⟩,⟨(some 19),(.call ⟨(.value (.func 64)), #[(tK 11),(iK 0),(tK 18)], #[3,3,3]⟩),4,(some (some 10,true))⟩,oX 20 (.pick (tK 10) (tK 19) (.const (.bool false))) 4,oA 6 20 4]) .ret)
theorem A5L:Tryz.f52.body.map (Bf lends)=some k52:=by kernel_rfl
theorem AHz:Bz Tryz.f52 3=true:=by kernel_rfl
theorem c52{a l:List D}{r:D×List D}(h:CF Y.env k52 (ES Ae l.length [ResultVar.tmp 6] r) (entry a l))(ha:a.length=3):Y.call 52 a l=some r:=
 Ab (Y:=Y) rfl Tryz.func52 (ha▸AHz) A5L h
theorem PS(Ak:List (List (Int×Int)))(BV:List Int)(Ad:List Int)(v_:Int)(i:Int){r:Bool}(h:JC Ak BV Ad v_ i=some r):Y.call 52 [D.agg [D.sl 79 (AL (fun x=>D.sl 87 (Ay .i64 .i64 x)) Ak),D.sl 3 (AL (D.int .i64) BV),D.sl 3 (AL (D.int .i64) Ad)],D.int .i64 v_,D.int .i64 i] []=some (D.bool r,[]):=by
 refine c52 ?_ rfl;unfold k52;unfold JC at h;obtain⟨o8,hl1,h⟩:=Ag h;have c1:=PR Ak BV Ad v_ hl1;rcases iS h with⟨e2,h⟩|⟨e2,h⟩
 ·obtain⟨e3,h⟩:=FK h;have c4:=JN i (0:Int) (IntKind.i64.wrap (((Ak.getD v_.toNat default).length:Int)-1))
  obtain rfl:=Option.some.inj h
  simp (maxDischargeDepth:=9) only [↓AP,AQ,↓reduceIte,Nat.reduceEqDiff,Nat.reduceLT,Nat.reduceAdd,c1,e2,e3.1,e3.2,c4]
 ·have e2f:o8=false:=Fx.mpr e2
  obtain rfl:=Option.some.inj h
  simp (maxDischargeDepth:=9) only [↓AP,AQ,↓reduceIte,Nat.reduceEqDiff,Nat.reduceLT,Nat.reduceAdd,c1,e2f]
noncomputable def Ev(AU:List (List (Int×Int)))(Ah:List Int)(Ac:List Int)(Ew:Int)(M9:Int):Option ((Int)⊕(Unit⊕Unit)):= if M9<((AU.getD Ew.toNat default).length:Int)then ck (0≤M9∧M9.toNat<(AU.getD Ew.toNat default).length)<| (JC AU Ah Ac (CV (AU.getD Ew.toNat default) M9.toNat) (Cx (AU.getD Ew.toNat default) M9.toNat)).bind fun A5M=> if A5M=true then ck (0≤(CV (AU.getD Ew.toNat default) M9.toNat)∧(CV (AU.getD Ew.toNat default) M9.toNat).toNat<AU.length)<| ck (0≤(Cx (AU.getD Ew.toNat default) M9.toNat)∧(Cx (AU.getD Ew.toNat default) M9.toNat).toNat<(AU.getD ((CV (AU.getD Ew.toNat default) M9.toNat).toNat) default).length)<| if(((CV (AU.getD ((CV (AU.getD Ew.toNat default) M9.toNat).toNat) default) ((Cx (AU.getD Ew.toNat default) M9.toNat).toNat))==Ew)&&((Cx (AU.getD ((CV (AU.getD Ew.toNat default) M9.toNat).toNat) default) ((Cx (AU.getD Ew.toNat default) M9.toNat).toNat))==M9))=true then some (Sum.inl (IntKind.i64.wrap (M9+1))) else some (Sum.inr (Sum.inl ())) else some (Sum.inr (Sum.inl ())) else some (Sum.inr (Sum.inr ()))
noncomputable def JR(AU:List (List (Int×Int)))(Ah:List Int)(Ac:List Int)(Ew:Int)(v:Int):Option (Unit⊕Unit):=I4 (fun v=>Ev AU Ah Ac Ew v) v
noncomputable def Ey(AU:List (List (Int×Int)))(Ah:List Int)(Ac:List Int)(Ew:Int):Option ((Int)⊕(Unit⊕Unit)):=
 if Ew<(AU.length:Int)then
  ck (0≤Ew∧Ew.toNat<AU.length)<|
  if 6<((AU.getD Ew.toNat default).length:Int)then
   some (Sum.inr (Sum.inl ()))
  else
   (JR AU Ah Ac Ew 0).bind fun AY=>
   match AY with
   | .inl q1000_=>
    some (Sum.inr (Sum.inl ()))
   | .inr q1000_=>
    some (Sum.inl (IntKind.i64.wrap (Ew+1)))
 else
  some (Sum.inr (Sum.inr ()))
noncomputable def JS(AU:List (List (Int×Int)))(Ah:List Int)(Ac:List Int)(v:Int):Option (Unit⊕Unit):=I4 (fun v=>Ey AU Ah Ac v) v
noncomputable def O1(AU:List (List (Int×Int)))(Ah:List Int)(Ac:List Int):Option (Bool):=
 if(KL (AU.length:Int) (1:Int) (40:Int))=true then
  ck (Ah.length<1099511627776)<|
  if(UK Ah (AU.length:Int))=true then
   (PQ Ac (AU.length:Int)).bind fun A5N=>
   if A5N=true then
    (JS AU Ah Ac 0).bind fun Ec=>
    match Ec with
    | .inl q1001_=>
     some false
    | .inr q1001_=>
     some true
   else
    some false
  else
   some false
 else
  some false
def dZ:SC:= .seq (.ops [oB 44 .lss 3 (tK 43) (tK 42) 3 0]) (.seq (.cond (tK 44) .skip (.exit 2)) (.seq (.block 3 (.seq (.ops [oM 45 43 3,oI 46 79 41 43,oL 47 87 46 87,oX 6 (.alloc 87) 0,oA 5 45 3,oS 87 6 47]) (.seq (.draws [(⟨[48,1,1],[48,49,50,51,52,53,54,55,56,57,58,59,60,61,62,63,64,65,66,67,68,66,67,69,70],[48]⟩,oL 48 38 1 38),(⟨[49,6,6],[48,49,50,51,52,53,54,55,56,57,58,59,60,61,62,63,64,65,66,67,68,66,67,69,70],[49]⟩,oF 49 87 6 0),(⟨[50,49,6],[48,49,50,51,52,53,54,55,56,57,58,59,60,61,62,63,64,65,66,67,68,66,67,69,70],[50]⟩,oL 50 3 49 3),(⟨[51,6,6],[48,49,50,51,52,53,54,55,56,57,58,59,60,61,62,63,64,65,66,67,68,66,67,69,70],[51]⟩,oF 51 87 6 1),(⟨[52,51,6],[48,49,50,51,52,53,54,55,56,57,58,59,60,61,62,63,64,65,66,67,68,66,67,69,70],[52]⟩,oL 52 3 51 3),(⟨[53,48,50,52,1,6,6],[48,49,50,51,52,53,54,55,56,57,58,59,60,61,62,63,64,65,66,67,68,66,67,69,70],[53]⟩,oC 53 52 [(tK 48),(tK 50),(tK 52)] [38,3,3] 4),(⟨[54,53,53],[48,49,50,51,52,53,54,55,56,57,58,59,60,61,62,63,64,65,66,67,68,66,67,69,70],[54]⟩,oX 54 (.unOp .not 4 (tK 53)) 4),(⟨[55,54,54],[48,49,50,51,52,53,54,55,56,57,58,59,60,61,62,63,64,65,66,67,68,66,67,69,70],[55]⟩,oM 55 54 4),(⟨[56,1,1,55],[48,49,50,51,52,53,54,55,56,57,58,59,60,61,62,63,64,65,66,67,68,66,67,69,70],[56]⟩,⟨(some 56),(.fieldAddr 38 (tK 1) 0),0,(some (some 55,false))⟩),
 (⟨[57,56,1,55],[48,49,50,51,52,53,54,55,56,57,58,59,60,61,62,63,64,65,66,67,68,66,67,69,70],[57]⟩,⟨(some 57),(.load 36 (tK 56)),36,(some (some 55,false))⟩),(⟨[58,6,6,55],[48,49,50,51,52,53,54,55,56,57,58,59,60,61,62,63,64,65,66,67,68,66,67,69,70],[58]⟩,⟨(some 58),(.fieldAddr 87 (tK 6) 0),0,(some (some 55,false))⟩),(⟨[59,58,6,55],[48,49,50,51,52,53,54,55,56,57,58,59,60,61,62,63,64,65,66,67,68,66,67,69,70],[59]⟩,⟨(some 59),(.load 3 (tK 58)),3,(some (some 55,false))⟩),(⟨[60,57,59,1,6,55],[48,49,50,51,52,53,54,55,56,57,58,59,60,61,62,63,64,65,66,67,68,66,67,69,70],[60]⟩,⟨(some 60),(.indexAddr 36 (tK 57) (tK 59)),0,(some (some 55,false))⟩),(⟨[61,60,1,55],[48,49,50,51,52,53,54,55,56,57,58,59,60,61,62,63,64,65,66,67,68,66,67,69,70],[61]⟩,⟨(some 61),(.load 79 (tK 60)),79,(some (some 55,false))⟩),(⟨[62,6,6,55],[48,49,50,51,52,53,54,55,56,57,58,59,60,61,62,63,64,65,66,67,68,66,67,69,70],[62]⟩,⟨(some 62),(.fieldAddr 87 (tK 6) 1),0,(some (some 55,false))⟩),(⟨[63,62,6,55],[48,49,50,51,52,53,54,55,56,57,58,59,60,61,62,63,64,65,66,67,68,66,67,69,70],[63]⟩,⟨(some 63),(.load 3 (tK 62)),3,(some (some 55,false))⟩),(⟨[64,61,63,1,6,55],[48,49,50,51,52,53,54,55,56,57,58,59,60,61,62,63,64,65,66,67,68,66,67,69,70],[64]⟩,⟨(some 64),(.indexAddr 79 (tK 61) (tK 63)),0,(some (some 55,false))⟩),
 (⟨[65,64,1,55],[48,49,50,51,52,53,54,55,56,57,58,59,60,61,62,63,64,65,66,67,68,66,67,69,70],[65]⟩,⟨(some 65),(.load 87 (tK 64)),87,(some (some 55,false))⟩),(⟨[66,3,3,55],[48,49,50,51,52,53,54,55,56,57,58,59,60,61,62,63,64,65,66,67,68,66,67,69,70],[66]⟩,⟨(some 66),(.move (tK 3)),3,(some (some 55,false))⟩),(⟨[67,5,5,55],[48,49,50,51,52,53,54,55,56,57,58,59,60,61,62,63,64,65,66,67,68,66,67,69,70],[67]⟩,⟨(some 67),(.move (tK 5)),3,(some (some 55,false))⟩),(⟨[68,66,67,3,5,55],[48,49,50,51,52,53,54,55,56,57,58,59,60,61,62,63,64,65,66,67,68,66,67,69,70],[68,66,67]⟩,⟨(some 68),(.build 87 #[(0,(tK 66)),(1,(tK 67))]),87,(some (some 55,false))⟩),(⟨[69,65,68,1,68,55],[48,49,50,51,52,53,54,55,56,57,58,59,60,61,62,63,64,65,66,67,68,66,67,69,70],[69]⟩,⟨(some 69),(.binOp .neq 87 (tK 65) (tK 68) 87),4,(some (some 55,false))⟩),(⟨[70,55,69,54,69],[48,49,50,51,52,53,54,55,56,57,58,59,60,61,62,63,64,65,66,67,68,66,67,69,70],[70]⟩,oX 70 (.pick (tK 55) (.const (.bool true)) (tK 69)) 4)]) (.cond (tK 70) (.seq (.ops [oX 2 (.assign (.const (.bool false))) 4]) .ret) .skip)))) (.ops [oB 71 .add 3 (tK 43) (iK 1) 3 3,oM 43 71 3])))
def wJ:SC:= .loop dZ
def df:SC:= .seq (.ops [oB 34 .lss 3 (tK 33) (tK 32) 3 0]) (.seq (.cond (tK 34) .skip (.exit 0)) (.seq (.block 1 (.seq (.ops [oM 35 33 3,oI 36 36 31 33,oL 37 79 36 79,oA 3 35 3,oA 4 37 79]) (.seq (.seq (.ops [oM 38 4 79,oN 39 38 79,oB 40 .gtr 3 (tK 39) (iK 6) 3 4]) (.cond (tK 40) (.seq (.ops [oX 2 (.assign (.const (.bool false))) 4]) .ret) .skip)) (.seq (.ops [oM 41 4 79,oN 42 41 79,oX 43 (.move (iK 0)) 3]) (.block 2 wJ))))) (.ops [oB 72 .add 3 (tK 33) (iK 1) 3 3,oM 33 72 3])))
def wK:SC:= .loop df
def k40:SC:= .seq (.ops [oX 1 (.box 38 (tK 0)) 0,oX 2 (.assign (.const (.bool false))) 4]) (.seq (.seq (.ops [oF 7 38 1 0,oL 8 36 7 36,oN 9 8 36,oC 10 64 [(tK 9),(iK 1),(iK 40)] [3,3,3] 4,oX 11 (.unOp .not 4 (tK 10)) 4,oM 12 11 4,⟨(some 13),(.fieldAddr 38 (tK 1) 1),0,(some (some 12,false))⟩,⟨(some 14),(.load 26 (tK 13)),26,(some (some 12,false))⟩,⟨(some 15),(.fieldAddr 38 (tK 1) 0),0,(some (some 12,false))⟩,⟨(some 16),(.load 36 (tK 15)),36,(some (some 12,false))⟩,⟨(some 17),(.call ⟨(.builtin .len), #[(tK 16)], #[36]⟩),3,(some (some 12,false))⟩,⟨(some 18),(.call ⟨(.value (.func 66)), #[(tK 14),(tK 17)], #[26,3]⟩),4,(some (some 12,false))⟩,⟨(some 19),(.unOp .not 4 (tK 18)),4,(some (some 12,false))⟩,oX 20 (.pick (tK 12) (.const (.bool true)) (tK 19)) 4,oM 21 20 4,⟨(some 22),(.fieldAddr 38 (tK 1) 2),0,(some (some 21,false))⟩,⟨(some 23),(.load 26 (tK 22)),26,(some (some 21,false))⟩,⟨(some 24),(.fieldAddr 38 (tK 1) 0),0,(some (some 21,false))⟩,⟨(some 25),(.load 36 (tK 24)),36,(some (some 21,false))⟩,⟨(some 26),(.call ⟨(.builtin .len), #[(tK 25)], #[36]⟩),3,(some (some 21,false))⟩,⟨(some 27),(.call ⟨(.value (.func 67)), #[(tK 23),(tK 26)], #[26,3]⟩),4,(some (some 21,false))⟩,
 ⟨(some 28),(.unOp .not 4 (tK 27)),4,(some (some 21,false))⟩,oX 29 (.pick (tK 21) (.const (.bool true)) (tK 28)) 4]) (.cond (tK 29) (.seq (.ops [oX 2 (.assign (.const (.bool false))) 4]) .ret) .skip)) (.seq (.seq (.ops [oF 30 38 1 0,oL 31 36 30 36,oN 32 31 36,oX 33 (.move (iK 0)) 3]) (.block 0 wK)) (.seq (.ops [oX 2 (.assign (.const (.bool true))) 4]) .ret)))
theorem A5O:Tryz.f40.body.map (Bf lends)=some k40:=by kernel_rfl
theorem AI1:Bz Tryz.f40 1=true:=by kernel_rfl
theorem c40{a l:List D}{r:D×List D}(h:CF Y.env k40 (ES Ae l.length [ResultVar.tmp 2] r) (entry a l))(ha:a.length=1):Y.call 40 a l=some r:=
 Ab (Y:=Y) rfl Tryz.func40 (ha▸AI1) A5O h
def DT(AU:List (List (Int×Int)))(Ah:List Int)(Ac:List Int)(Ew:Int)(M9:Int)(s:St):Prop:=s.v 1=D.box [D.sl 79 (AL (fun x=>D.sl 87 (Ay .i64 .i64 x)) AU),D.sl 3 (AL (D.int .i64) Ah),D.sl 3 (AL (D.int .i64) Ac)]∧s.v 3=D.int .i64 Ew∧s.v 31=D.sl 79 (AL (fun x=>D.sl 87 (Ay .i64 .i64 x)) AU)∧s.v 32=D.int .i64 (AU.length:Int)∧s.v 33=D.int .i64 Ew∧s.v 41=D.sl 87 (Ay .i64 .i64 (AU.getD Ew.toNat default))∧s.v 42=D.int .i64 ((AU.getD Ew.toNat default).length:Int)∧s.v 43=D.int .i64 M9
def E9(AU:List (List (Int×Int)))(Ah:List Int)(Ac:List Int)(Ew:Int)(r:Unit⊕Unit)(ex:Ex)(s:St):Prop:=match r with
 | .inl q=>ex= .ret∧s.v 2=D.bool false
 | .inr q=>ex= .exit 2∧s.v 1=D.box [D.sl 79 (AL (fun x=>D.sl 87 (Ay .i64 .i64 x)) AU),D.sl 3 (AL (D.int .i64) Ah),D.sl 3 (AL (D.int .i64) Ac)]∧s.v 31=D.sl 79 (AL (fun x=>D.sl 87 (Ay .i64 .i64 x)) AU)∧s.v 32=D.int .i64 (AU.length:Int)∧s.v 33=D.int .i64 Ew
theorem TJ(AU:List (List (Int×Int)))(Ah:List Int)(Ac:List Int)(Ew:Int){v:Int}{s:St}{r:Unit⊕Unit}(h:JR AU Ah Ac Ew v=some r)(hM:DT AU Ah Ac Ew v s):CF Y.env wJ (E9 AU Ah Ac Ew r) s:=by
 unfold JR at h;refine BN (c:=dZ) (fun v=>Ev AU Ah Ac Ew v) (fun v s=>DT AU Ah Ac Ew v s) (E9 AU Ah Ac Ew) ?_ h hM;clear h hM s v r;intro M9 s o hM h;unfold Ev at h;unfold DT at hM;obtain⟨m0,m1,m2,m3,m4,m5,m6,m7⟩:=hM;unfold dZ;rcases iS h with⟨e11,h⟩|⟨e11,h⟩
 ·obtain⟨e12,h⟩:=FK h;obtain⟨A5M,hl13,h⟩:=Ag h;have c13:=PS AU Ah Ac (CV (AU.getD Ew.toNat default) M9.toNat) (Cx (AU.getD Ew.toNat default) M9.toNat) hl13;rcases iS h with⟨e14,h⟩|⟨e14,h⟩
  ·obtain⟨e15,e16,h⟩:=Ei h;rcases iS h with⟨e17,h⟩|⟨e17,h⟩
   ·obtain rfl:=Option.some.inj h
    simp (maxDischargeDepth:=9) only [↓AP,AQ,↓reduceIte,Nat.reduceEqDiff,Nat.reduceLT,Nat.reduceLeDiff,Nat.reduceAdd,Nat.reduceBEq,m0,m1,m2,m3,m4,m5,m6,m7,e11,e12.1,e12.2,c13,e14,e15.1,e15.2,e16.1,e16.2,e17,DT,GZ]
   ·have e17f:(((CV (AU.getD ((CV (AU.getD Ew.toNat default) M9.toNat).toNat) default) ((Cx (AU.getD Ew.toNat default) M9.toNat).toNat))==Ew)&&((Cx (AU.getD ((CV (AU.getD Ew.toNat default) M9.toNat).toNat) default) ((Cx (AU.getD Ew.toNat default) M9.toNat).toNat))==M9))=false:=Fx.mpr e17
    obtain rfl:=Option.some.inj h
    simp (maxDischargeDepth:=9) only [↓AP,AQ,↓reduceIte,Nat.reduceEqDiff,Nat.reduceLT,Nat.reduceLeDiff,Nat.reduceAdd,Nat.reduceBEq,m0,m1,m5,m6,m7,e11,e12.1,e12.2,c13,e14,e15.1,e15.2,e16.1,e16.2,e17f,DT,E9,MP]
  ·have e14f:A5M=false:=Fx.mpr e14
   obtain rfl:=Option.some.inj h
   simp (maxDischargeDepth:=9) only [↓AP,AQ,↓reduceIte,Nat.reduceEqDiff,Nat.reduceLT,Nat.reduceAdd,Nat.reduceBEq,m0,m1,m5,m6,m7,e11,e12.1,e12.2,c13,e14f,DT,E9,MP]
 ·obtain rfl:=Option.some.inj h
  simp (maxDischargeDepth:=9) only [↓AP,AQ,↓reduceIte,Nat.reduceEqDiff,Nat.reduceLT,m0,m2,m3,m4,m6,m7,e11,DT,E9,KW]
def DU(AU:List (List (Int×Int)))(Ah:List Int)(Ac:List Int)(Ew:Int)(s:St):Prop:=s.v 1=D.box [D.sl 79 (AL (fun x=>D.sl 87 (Ay .i64 .i64 x)) AU),D.sl 3 (AL (D.int .i64) Ah),D.sl 3 (AL (D.int .i64) Ac)]∧s.v 31=D.sl 79 (AL (fun x=>D.sl 87 (Ay .i64 .i64 x)) AU)∧s.v 32=D.int .i64 (AU.length:Int)∧s.v 33=D.int .i64 Ew
def EA(AU:List (List (Int×Int)))(Ah:List Int)(Ac:List Int)(r:Unit⊕Unit)(ex:Ex)(s:St):Prop:=match r with
 | .inl q=>ex= .ret∧s.v 2=D.bool false
 | .inr q=>ex= .exit 0
theorem TK(AU:List (List (Int×Int)))(Ah:List Int)(Ac:List Int){v:Int}{s:St}{r:Unit⊕Unit}(h:JS AU Ah Ac v=some r)(hM:DU AU Ah Ac v s):CF Y.env wK (EA AU Ah Ac r) s:=by
 unfold JS at h;refine BN (c:=df) (fun v=>Ey AU Ah Ac v) (fun v s=>DU AU Ah Ac v s) (EA AU Ah Ac) ?_ h hM;clear h hM s v r;intro Ew s o hM h;unfold Ey at h;unfold DU at hM;obtain⟨m0,m1,m2,m3⟩:=hM;unfold df;rcases iS h with⟨e8,h⟩|⟨e8,h⟩
 ·obtain⟨e9,h⟩:=FK h;rcases iS h with⟨e10,h⟩|⟨e10,h⟩
  ·obtain rfl:=Option.some.inj h
   simp (maxDischargeDepth:=9) only [↓AP,AQ,↓reduceIte,Nat.reduceEqDiff,Nat.reduceLT,m1,m2,m3,e8,e9.1,e9.2,e10,DU,EA,MP]
  ·obtain⟨AY,hl12,h⟩:=Ag h;try dsimp only at h
   simp (maxDischargeDepth:=9) only [↓AP,AQ,↓reduceIte,Nat.reduceEqDiff,Nat.reduceLT,m1,m2,m3,e8,e9.1,e9.2,e10];refine Av (TJ AU Ah Ac Ew hl12 ?_) ?_
   ·simp (maxDischargeDepth:=9) only [C9,↓reduceIte,Nat.reduceEqDiff,m0,m1,m2,m3,DT]
   ·intro ex12 s12 hX12;rcases AY with q1000_|q1000_
    ·unfold E9 at hX12;dsimp only at hX12 h;obtain⟨rfl,n12_0⟩:=hX12
     obtain rfl:=Option.some.inj h
     simp (maxDischargeDepth:=9) only [↓AP,AQ,n12_0,DU,EA,MP]
    ·unfold E9 at hX12;dsimp only at hX12 h;obtain⟨rfl,n12_0,n12_1,n12_2,n12_3⟩:=hX12
     obtain rfl:=Option.some.inj h
     simp (maxDischargeDepth:=9) only [↓AP,AQ,↓reduceIte,Nat.reduceEqDiff,Nat.reduceLT,n12_0,n12_1,n12_2,n12_3,DU,GZ]
 ·obtain rfl:=Option.some.inj h
  simp (maxDischargeDepth:=9) only [↓AP,AQ,↓reduceIte,Nat.reduceLT,m2,m3,e8,DU,EA,KW]
theorem UL(AU:List (List (Int×Int)))(Ah:List Int)(Ac:List Int){r:Bool}(h:O1 AU Ah Ac=some r):Y.call 40 [D.agg [D.sl 79 (AL (fun x=>D.sl 87 (Ay .i64 .i64 x)) AU),D.sl 3 (AL (D.int .i64) Ah),D.sl 3 (AL (D.int .i64) Ac)]] []=some (D.bool r,[]):=by
 refine c40 ?_ rfl;unfold k40;unfold O1 at h;have c1:=JN (AU.length:Int) (1:Int) (40:Int);rcases iS h with⟨e2,h⟩|⟨e2,h⟩
 ·obtain⟨e3,h⟩:=FK h;have c4:=mg Ah (AU.length:Int) e3;rcases iS h with⟨e5,h⟩|⟨e5,h⟩
  ·obtain⟨A5N,hl6,h⟩:=Ag h;have c6:=Vh Ac (AU.length:Int) hl6;rcases iS h with⟨e7,h⟩|⟨e7,h⟩
   ·obtain⟨Ec,hl9,h⟩:=Ag h;try dsimp only at h
    simp (maxDischargeDepth:=9) only [↓AP,AQ,↓reduceIte,Nat.reduceEqDiff,Nat.reduceLT,Nat.reduceAdd,c1,e2,c4,e5,c6,e7];refine Av (TK AU Ah Ac hl9 ?_) ?_
    ·simp (maxDischargeDepth:=9) only [C9,↓reduceIte,Nat.reduceEqDiff,DU]
    ·intro ex9 s9 hX9;rcases Ec with q1001_|q1001_
     ·unfold EA at hX9;dsimp only at hX9 h;obtain⟨rfl,n9_0⟩:=hX9
      obtain rfl:=Option.some.inj h
      simp (maxDischargeDepth:=9) only [↓AP,AQ,↓reduceIte,n9_0]
     ·unfold EA at hX9;dsimp only at hX9 h
      obtain rfl:=hX9
      obtain rfl:=Option.some.inj h
      simp (maxDischargeDepth:=9) only [↓AP,AQ,↓reduceIte,Nat.reduceEqDiff,Nat.reduceLT]
   ·have e7f:A5N=false:=Fx.mpr e7
    obtain rfl:=Option.some.inj h
    simp (maxDischargeDepth:=9) only [↓AP,AQ,↓reduceIte,Nat.reduceEqDiff,Nat.reduceLT,Nat.reduceAdd,c1,e2,c4,e5,c6,e7f]
  ·have e5f:(UK Ah (AU.length:Int))=false:=Fx.mpr e5
   obtain rfl:=Option.some.inj h
   simp (maxDischargeDepth:=9) only [↓AP,AQ,↓reduceIte,Nat.reduceEqDiff,Nat.reduceLT,Nat.reduceAdd,c1,e2,c4,e5f]
 ·have e2f:(KL (AU.length:Int) (1:Int) (40:Int))=false:=Fx.mpr e2
  obtain rfl:=Option.some.inj h
  simp (maxDischargeDepth:=9) only [↓AP,AQ,↓reduceIte,Nat.reduceEqDiff,Nat.reduceLT,Nat.reduceAdd,c1,e2f]
noncomputable def Iy(AU:List (List (Int×Int)))(Ah:List Int)(Ac:List Int)(DF:Int)(KQ:Int):Option ((Int)⊕(Unit⊕Unit)):= if KQ<((AU.getD DF.toNat default).length:Int)then ck (0≤KQ∧KQ.toNat<(AU.getD DF.toNat default).length)<| if(KL (CV (AU.getD DF.toNat default) KQ.toNat) (0:Int) (IntKind.i64.wrap ((AU.length:Int)-1)))=true then ck (0≤(CV (AU.getD DF.toNat default) KQ.toNat)∧(CV (AU.getD DF.toNat default) KQ.toNat).toNat<AU.length)<| if(KL (Cx (AU.getD DF.toNat default) KQ.toNat) (0:Int) (IntKind.i64.wrap (((AU.getD ((CV (AU.getD DF.toNat default) KQ.toNat).toNat) default).length:Int)-1)))=true then ck (0≤(Cx (AU.getD DF.toNat default) KQ.toNat)∧(Cx (AU.getD DF.toNat default) KQ.toNat).toNat<(AU.getD ((CV (AU.getD DF.toNat default) KQ.toNat).toNat) default).length)<| if(((CV (AU.getD ((CV (AU.getD DF.toNat default) KQ.toNat).toNat) default) ((Cx (AU.getD DF.toNat default) KQ.toNat).toNat))==DF)&&((Cx (AU.getD ((CV (AU.getD DF.toNat default) KQ.toNat).toNat) default) ((Cx (AU.getD DF.toNat default) KQ.toNat).toNat))==KQ))=true then some (Sum.inl (IntKind.i64.wrap (KQ+1))) else some (Sum.inr (Sum.inl ())) else some (Sum.inr (Sum.inl ())) else some (Sum.inr (Sum.inl ())) else some (Sum.inr (Sum.inr ()))
noncomputable def MB(AU:List (List (Int×Int)))(Ah:List Int)(Ac:List Int)(DF:Int)(v:Int):Option (Unit⊕Unit):=I4 (fun v=>Iy AU Ah Ac DF v) v
noncomputable def Iz(AU:List (List (Int×Int)))(Ah:List Int)(Ac:List Int)(DF:Int):Option ((Int)⊕(Unit⊕Unit)):=
 if DF<(AU.length:Int)then
  ck (0≤DF∧DF.toNat<AU.length)<|
  if 6<((AU.getD DF.toNat default).length:Int)then
   some (Sum.inr (Sum.inl ()))
  else
   (MB AU Ah Ac DF 0).bind fun AY=>
   match AY with
   | .inl q1000_=>
    some (Sum.inr (Sum.inl ()))
   | .inr q1000_=>
    some (Sum.inl (IntKind.i64.wrap (DF+1)))
 else
  some (Sum.inr (Sum.inr ()))
noncomputable def MC(AU:List (List (Int×Int)))(Ah:List Int)(Ac:List Int)(v:Int):Option (Unit⊕Unit):=I4 (fun v=>Iz AU Ah Ac v) v
noncomputable def TL(AU:List (List (Int×Int)))(Ah:List Int)(Ac:List Int):Option (Bool):=
 if(KL (AU.length:Int) (1:Int) (40:Int))=true then
  ck (Ah.length<1099511627776)<|
  if(UK Ah (AU.length:Int))=true then
   if(Ac.length:Int)=(AU.length:Int)then
    ck (Ac.length<1099511627776)<|
    if(DC Ac (0:Int) (9:Int))=true then
     (MC AU Ah Ac 0).bind fun Ec=>
     match Ec with
     | .inl q1001_=>
      some false
     | .inr q1001_=>
      some true
    else
     some false
   else
    some false
  else
   some false
 else
  some false
def dh:SC:= .seq (.ops [oB 50 .lss 3 (tK 49) (tK 48) 3 0]) (.seq (.cond (tK 50) .skip (.exit 2)) (.seq (.block 3 (.seq (.ops [oM 51 49 3,oI 52 79 47 49,oL 53 87 52 87,oX 6 (.alloc 87) 0,oA 5 51 3,oS 87 6 53]) (.seq (.draws [(⟨[54,6,6],[54,55,56,57,58,59,60,61,62,63,64,65,66,67,68,69,70,71,72,73,74,75,76,77,78,79,80,81,82,83,84,85,86,87,88,89,87,88,90,91],[54]⟩,oF 54 87 6 0),(⟨[55,54,6],[54,55,56,57,58,59,60,61,62,63,64,65,66,67,68,69,70,71,72,73,74,75,76,77,78,79,80,81,82,83,84,85,86,87,88,89,87,88,90,91],[55]⟩,oL 55 3 54 3),(⟨[56,1,1],[54,55,56,57,58,59,60,61,62,63,64,65,66,67,68,69,70,71,72,73,74,75,76,77,78,79,80,81,82,83,84,85,86,87,88,89,87,88,90,91],[56]⟩,oF 56 38 1 0),(⟨[57,56,1],[54,55,56,57,58,59,60,61,62,63,64,65,66,67,68,69,70,71,72,73,74,75,76,77,78,79,80,81,82,83,84,85,86,87,88,89,87,88,90,91],[57]⟩,oL 57 36 56 36),(⟨[58,57,1],[54,55,56,57,58,59,60,61,62,63,64,65,66,67,68,69,70,71,72,73,74,75,76,77,78,79,80,81,82,83,84,85,86,87,88,89,87,88,90,91],[58]⟩,oN 58 57 36),(⟨[59,58,58],[54,55,56,57,58,59,60,61,62,63,64,65,66,67,68,69,70,71,72,73,74,75,76,77,78,79,80,81,82,83,84,85,86,87,88,89,87,88,90,91],[59]⟩,oB 59 .sub 3 (tK 58) (iK 1) 3 3),(⟨[60,55,59,6,59],[54,55,56,57,58,59,60,61,62,63,64,65,66,67,68,69,70,71,72,73,74,75,76,77,78,79,80,81,82,83,84,85,86,87,88,89,87,88,90,91],[60]⟩,oC 60 82 [(tK 55),(iK 0),(tK 59)] [3,3,3] 4),
 (⟨[61,60,60],[54,55,56,57,58,59,60,61,62,63,64,65,66,67,68,69,70,71,72,73,74,75,76,77,78,79,80,81,82,83,84,85,86,87,88,89,87,88,90,91],[61]⟩,oX 61 (.unOp .not 4 (tK 60)) 4),(⟨[62,61,61],[54,55,56,57,58,59,60,61,62,63,64,65,66,67,68,69,70,71,72,73,74,75,76,77,78,79,80,81,82,83,84,85,86,87,88,89,87,88,90,91],[62]⟩,oM 62 61 4),(⟨[63,6,6,62],[54,55,56,57,58,59,60,61,62,63,64,65,66,67,68,69,70,71,72,73,74,75,76,77,78,79,80,81,82,83,84,85,86,87,88,89,87,88,90,91],[63]⟩,⟨(some 63),(.fieldAddr 87 (tK 6) 1),0,(some (some 62,false))⟩),(⟨[64,63,6,62],[54,55,56,57,58,59,60,61,62,63,64,65,66,67,68,69,70,71,72,73,74,75,76,77,78,79,80,81,82,83,84,85,86,87,88,89,87,88,90,91],[64]⟩,⟨(some 64),(.load 3 (tK 63)),3,(some (some 62,false))⟩),(⟨[65,1,1,62],[54,55,56,57,58,59,60,61,62,63,64,65,66,67,68,69,70,71,72,73,74,75,76,77,78,79,80,81,82,83,84,85,86,87,88,89,87,88,90,91],[65]⟩,⟨(some 65),(.fieldAddr 38 (tK 1) 0),0,(some (some 62,false))⟩),(⟨[66,65,1,62],[54,55,56,57,58,59,60,61,62,63,64,65,66,67,68,69,70,71,72,73,74,75,76,77,78,79,80,81,82,83,84,85,86,87,88,89,87,88,90,91],[66]⟩,⟨(some 66),(.load 36 (tK 65)),36,(some (some 62,false))⟩),(⟨[67,6,6,62],[54,55,56,57,58,59,60,61,62,63,64,65,66,67,68,69,70,71,72,73,74,75,76,77,78,79,80,81,82,83,84,85,86,87,88,89,87,88,90,91],[67]⟩,⟨(some 67),(.fieldAddr 87 (tK 6) 0),0,(some (some 62,false))⟩),
 (⟨[68,67,6,62],[54,55,56,57,58,59,60,61,62,63,64,65,66,67,68,69,70,71,72,73,74,75,76,77,78,79,80,81,82,83,84,85,86,87,88,89,87,88,90,91],[68]⟩,⟨(some 68),(.load 3 (tK 67)),3,(some (some 62,false))⟩),(⟨[69,66,68,1,6,62],[54,55,56,57,58,59,60,61,62,63,64,65,66,67,68,69,70,71,72,73,74,75,76,77,78,79,80,81,82,83,84,85,86,87,88,89,87,88,90,91],[69]⟩,⟨(some 69),(.indexAddr 36 (tK 66) (tK 68)),0,(some (some 62,false))⟩),(⟨[70,69,1,62],[54,55,56,57,58,59,60,61,62,63,64,65,66,67,68,69,70,71,72,73,74,75,76,77,78,79,80,81,82,83,84,85,86,87,88,89,87,88,90,91],[70]⟩,⟨(some 70),(.load 79 (tK 69)),79,(some (some 62,false))⟩),(⟨[71,70,1,62],[54,55,56,57,58,59,60,61,62,63,64,65,66,67,68,69,70,71,72,73,74,75,76,77,78,79,80,81,82,83,84,85,86,87,88,89,87,88,90,91],[71]⟩,⟨(some 71),(.call ⟨(.builtin .len), #[(tK 70)], #[79]⟩),3,(some (some 62,false))⟩),(⟨[72,71,71,62],[54,55,56,57,58,59,60,61,62,63,64,65,66,67,68,69,70,71,72,73,74,75,76,77,78,79,80,81,82,83,84,85,86,87,88,89,87,88,90,91],[72]⟩,⟨(some 72),(.binOp .sub 3 (tK 71) (iK 1) 3),3,(some (some 62,false))⟩),(⟨[73,64,72,6,72,62],[54,55,56,57,58,59,60,61,62,63,64,65,66,67,68,69,70,71,72,73,74,75,76,77,78,79,80,81,82,83,84,85,86,87,88,89,87,88,90,91],[73]⟩,⟨(some 73),(.call ⟨(.value (.func 82)), #[(tK 64),(iK 0),(tK 72)], #[3,3,3]⟩),4,(some (some 62,false))⟩),
 (⟨[74,73,73,62],[54,55,56,57,58,59,60,61,62,63,64,65,66,67,68,69,70,71,72,73,74,75,76,77,78,79,80,81,82,83,84,85,86,87,88,89,87,88,90,91],[74]⟩,⟨(some 74),(.unOp .not 4 (tK 73)),4,(some (some 62,false))⟩),(⟨[75,62,74,61,74],[54,55,56,57,58,59,60,61,62,63,64,65,66,67,68,69,70,71,72,73,74,75,76,77,78,79,80,81,82,83,84,85,86,87,88,89,87,88,90,91],[75]⟩,oX 75 (.pick (tK 62) (.const (.bool true)) (tK 74)) 4),(⟨[76,75,75],[54,55,56,57,58,59,60,61,62,63,64,65,66,67,68,69,70,71,72,73,74,75,76,77,78,79,80,81,82,83,84,85,86,87,88,89,87,88,90,91],[76]⟩,oM 76 75 4),(⟨[77,1,1,76],[54,55,56,57,58,59,60,61,62,63,64,65,66,67,68,69,70,71,72,73,74,75,76,77,78,79,80,81,82,83,84,85,86,87,88,89,87,88,90,91],[77]⟩,⟨(some 77),(.fieldAddr 38 (tK 1) 0),0,(some (some 76,false))⟩),(⟨[78,77,1,76],[54,55,56,57,58,59,60,61,62,63,64,65,66,67,68,69,70,71,72,73,74,75,76,77,78,79,80,81,82,83,84,85,86,87,88,89,87,88,90,91],[78]⟩,⟨(some 78),(.load 36 (tK 77)),36,(some (some 76,false))⟩),(⟨[79,6,6,76],[54,55,56,57,58,59,60,61,62,63,64,65,66,67,68,69,70,71,72,73,74,75,76,77,78,79,80,81,82,83,84,85,86,87,88,89,87,88,90,91],[79]⟩,⟨(some 79),(.fieldAddr 87 (tK 6) 0),0,(some (some 76,false))⟩),(⟨[80,79,6,76],[54,55,56,57,58,59,60,61,62,63,64,65,66,67,68,69,70,71,72,73,74,75,76,77,78,79,80,81,82,83,84,85,86,87,88,89,87,88,90,91],[80]⟩,⟨(some 80),(.load 3 (tK 79)),3,(some (some 76,false))⟩),
 (⟨[81,78,80,1,6,76],[54,55,56,57,58,59,60,61,62,63,64,65,66,67,68,69,70,71,72,73,74,75,76,77,78,79,80,81,82,83,84,85,86,87,88,89,87,88,90,91],[81]⟩,⟨(some 81),(.indexAddr 36 (tK 78) (tK 80)),0,(some (some 76,false))⟩),(⟨[82,81,1,76],[54,55,56,57,58,59,60,61,62,63,64,65,66,67,68,69,70,71,72,73,74,75,76,77,78,79,80,81,82,83,84,85,86,87,88,89,87,88,90,91],[82]⟩,⟨(some 82),(.load 79 (tK 81)),79,(some (some 76,false))⟩),(⟨[83,6,6,76],[54,55,56,57,58,59,60,61,62,63,64,65,66,67,68,69,70,71,72,73,74,75,76,77,78,79,80,81,82,83,84,85,86,87,88,89,87,88,90,91],[83]⟩,⟨(some 83),(.fieldAddr 87 (tK 6) 1),0,(some (some 76,false))⟩),(⟨[84,83,6,76],[54,55,56,57,58,59,60,61,62,63,64,65,66,67,68,69,70,71,72,73,74,75,76,77,78,79,80,81,82,83,84,85,86,87,88,89,87,88,90,91],[84]⟩,⟨(some 84),(.load 3 (tK 83)),3,(some (some 76,false))⟩),(⟨[85,82,84,1,6,76],[54,55,56,57,58,59,60,61,62,63,64,65,66,67,68,69,70,71,72,73,74,75,76,77,78,79,80,81,82,83,84,85,86,87,88,89,87,88,90,91],[85]⟩,⟨(some 85),(.indexAddr 79 (tK 82) (tK 84)),0,(some (some 76,false))⟩),(⟨[86,85,1,76],[54,55,56,57,58,59,60,61,62,63,64,65,66,67,68,69,70,71,72,73,74,75,76,77,78,79,80,81,82,83,84,85,86,87,88,89,87,88,90,91],[86]⟩,⟨(some 86),(.load 87 (tK 85)),87,(some (some 76,false))⟩),
 (⟨[87,3,3,76],[54,55,56,57,58,59,60,61,62,63,64,65,66,67,68,69,70,71,72,73,74,75,76,77,78,79,80,81,82,83,84,85,86,87,88,89,87,88,90,91],[87]⟩,⟨(some 87),(.move (tK 3)),3,(some (some 76,false))⟩),(⟨[88,5,5,76],[54,55,56,57,58,59,60,61,62,63,64,65,66,67,68,69,70,71,72,73,74,75,76,77,78,79,80,81,82,83,84,85,86,87,88,89,87,88,90,91],[88]⟩,⟨(some 88),(.move (tK 5)),3,(some (some 76,false))⟩),(⟨[89,87,88,3,5,76],[54,55,56,57,58,59,60,61,62,63,64,65,66,67,68,69,70,71,72,73,74,75,76,77,78,79,80,81,82,83,84,85,86,87,88,89,87,88,90,91],[89,87,88]⟩,⟨(some 89),(.build 87 #[(0,(tK 87)),(1,(tK 88))]),87,(some (some 76,false))⟩),(⟨[90,86,89,1,89,76],[54,55,56,57,58,59,60,61,62,63,64,65,66,67,68,69,70,71,72,73,74,75,76,77,78,79,80,81,82,83,84,85,86,87,88,89,87,88,90,91],[90]⟩,⟨(some 90),(.binOp .neq 87 (tK 86) (tK 89) 87),4,(some (some 76,false))⟩),(⟨[91,76,90,75,90],[54,55,56,57,58,59,60,61,62,63,64,65,66,67,68,69,70,71,72,73,74,75,76,77,78,79,80,81,82,83,84,85,86,87,88,89,87,88,90,91],[91]⟩,oX 91 (.pick (tK 76) (.const (.bool true)) (tK 90)) 4)]) (.cond (tK 91) (.seq (.ops [oX 2 (.assign (.const (.bool false))) 4]) .ret) .skip)))) (.ops [oB 92 .add 3 (tK 49) (iK 1) 3 3,oM 49 92 3])))
def wL:SC:= .loop dh
def dm:SC:= .seq (.ops [oB 40 .lss 3 (tK 39) (tK 38) 3 0]) (.seq (.cond (tK 40) .skip (.exit 0)) (.seq (.block 1 (.seq (.ops [oM 41 39 3,oI 42 36 37 39,oL 43 79 42 79,oA 3 41 3,oA 4 43 79]) (.seq (.seq (.ops [oM 44 4 79,oN 45 44 79,oB 46 .gtr 3 (tK 45) (iK 6) 3 4]) (.cond (tK 46) (.seq (.ops [oX 2 (.assign (.const (.bool false))) 4]) .ret) .skip)) (.seq (.ops [oM 47 4 79,oN 48 47 79,oX 49 (.move (iK 0)) 3]) (.block 2 wL))))) (.ops [oB 93 .add 3 (tK 39) (iK 1) 3 3,oM 39 93 3])))
def wM:SC:= .loop dm
def k58:SC:= .seq (.ops [oX 1 (.box 38 (tK 0)) 0,oX 2 (.assign (.const (.bool false))) 4]) (.seq (.seq (.ops [oF 7 38 1 0,oL 8 36 7 36,oN 9 8 36,oC 10 82 [(tK 9),(iK 1),(iK 40)] [3,3,3] 4,oX 11 (.unOp .not 4 (tK 10)) 4,oM 12 11 4,⟨(some 13),(.fieldAddr 38 (tK 1) 1),0,(some (some 12,false))⟩,⟨(some 14),(.load 26 (tK 13)),26,(some (some 12,false))⟩,⟨(some 15),(.fieldAddr 38 (tK 1) 0),0,(some (some 12,false))⟩,⟨(some 16),(.load 36 (tK 15)),36,(some (some 12,false))⟩,⟨(some 17),(.call ⟨(.builtin .len), #[(tK 16)], #[36]⟩),3,(some (some 12,false))⟩,⟨(some 18),(.call ⟨(.value (.func 91)), #[(tK 14),(tK 17)], #[26,3]⟩),4,(some (some 12,false))⟩,⟨(some 19),(.unOp .not 4 (tK 18)),4,(some (some 12,false))⟩,oX 20 (.pick (tK 12) (.const (.bool true)) (tK 19)) 4,oM 21 20 4,⟨(some 22),(.fieldAddr 38 (tK 1) 2),0,(some (some 21,false))⟩,⟨(some 23),(.load 26 (tK 22)),26,(some (some 21,false))⟩,⟨(some 24),(.call ⟨(.builtin .len), #[(tK 23)], #[26]⟩),3,(some (some 21,false))⟩,⟨(some 25),(.fieldAddr 38 (tK 1) 0),0,(some (some 21,false))⟩,⟨(some 26),(.load 36 (tK 25)),36,(some (some 21,false))⟩,⟨(some 27),(.call ⟨(.builtin .len), #[(tK 26)], #[36]⟩),3,(some (some 21,false))⟩,⟨(some 28),(.binOp .neq 3 (tK 24) (tK 27) 3),4,(some (some 21,false))⟩,
 oX 29 (.pick (tK 21) (.const (.bool true)) (tK 28)) 4,oM 30 29 4,⟨(some 31),(.fieldAddr 38 (tK 1) 2),0,(some (some 30,false))⟩,⟨(some 32),(.load 26 (tK 31)),26,(some (some 30,false))⟩,⟨(some 33),(.call ⟨(.value (.func 59)), #[(tK 32),(iK 0),(iK 9)], #[26,3,3]⟩),4,(some (some 30,false))⟩,⟨(some 34),(.unOp .not 4 (tK 33)),4,(some (some 30,false))⟩,oX 35 (.pick (tK 30) (.const (.bool true)) (tK 34)) 4]) (.cond (tK 35) (.seq (.ops [oX 2 (.assign (.const (.bool false))) 4]) .ret) .skip)) (.seq (.seq (.ops [oF 36 38 1 0,oL 37 36 36 36,oN 38 37 36,oX 39 (.move (iK 0)) 3]) (.block 0 wM)) (.seq (.ops [oX 2 (.assign (.const (.bool true))) 4]) .ret)))
theorem A5P:Tryz.f58.body.map (Bf lends)=some k58:=by kernel_rfl
theorem AI3:Bz Tryz.f58 1=true:=by kernel_rfl
theorem c58{a l:List D}{r:D×List D}(h:CF Y.env k58 (ES Ae l.length [ResultVar.tmp 2] r) (entry a l))(ha:a.length=1):Y.call 58 a l=some r:=
 Ab (Y:=Y) rfl Tryz.func58 (ha▸AI3) A5P h
def EJ(AU:List (List (Int×Int)))(Ah:List Int)(Ac:List Int)(DF:Int)(KQ:Int)(s:St):Prop:=s.v 1=D.box [D.sl 79 (AL (fun x=>D.sl 87 (Ay .i64 .i64 x)) AU),D.sl 3 (AL (D.int .i64) Ah),D.sl 3 (AL (D.int .i64) Ac)]∧s.v 3=D.int .i64 DF∧s.v 37=D.sl 79 (AL (fun x=>D.sl 87 (Ay .i64 .i64 x)) AU)∧s.v 38=D.int .i64 (AU.length:Int)∧s.v 39=D.int .i64 DF∧s.v 47=D.sl 87 (Ay .i64 .i64 (AU.getD DF.toNat default))∧s.v 48=D.int .i64 ((AU.getD DF.toNat default).length:Int)∧s.v 49=D.int .i64 KQ
def Er(AU:List (List (Int×Int)))(Ah:List Int)(Ac:List Int)(DF:Int)(r:Unit⊕Unit)(ex:Ex)(s:St):Prop:=match r with
 | .inl q=>ex= .ret∧s.v 2=D.bool false
 | .inr q=>ex= .exit 2∧s.v 1=D.box [D.sl 79 (AL (fun x=>D.sl 87 (Ay .i64 .i64 x)) AU),D.sl 3 (AL (D.int .i64) Ah),D.sl 3 (AL (D.int .i64) Ac)]∧s.v 37=D.sl 79 (AL (fun x=>D.sl 87 (Ay .i64 .i64 x)) AU)∧s.v 38=D.int .i64 (AU.length:Int)∧s.v 39=D.int .i64 DF
theorem Y9(AU:List (List (Int×Int)))(Ah:List Int)(Ac:List Int)(DF:Int){v:Int}{s:St}{r:Unit⊕Unit}(h:MB AU Ah Ac DF v=some r)(hM:EJ AU Ah Ac DF v s):CF Y.env wL (Er AU Ah Ac DF r) s:=by
 unfold MB at h;refine BN (c:=dh) (fun v=>Iy AU Ah Ac DF v) (fun v s=>EJ AU Ah Ac DF v s) (Er AU Ah Ac DF) ?_ h hM;clear h hM s v r;intro KQ s o hM h;unfold Iy at h;unfold EJ at hM;obtain⟨m0,m1,m2,m3,m4,m5,m6,m7⟩:=hM;unfold dh;rcases iS h with⟨e13,h⟩|⟨e13,h⟩
 ·obtain⟨e14,h⟩:=FK h;have c15:=LV (CV (AU.getD DF.toNat default) KQ.toNat) (0:Int) (IntKind.i64.wrap ((AU.length:Int)-1));rcases iS h with⟨e16,h⟩|⟨e16,h⟩
  ·obtain⟨e17,h⟩:=FK h;have ZE:=LV (Cx (AU.getD DF.toNat default) KQ.toNat) (0:Int) (IntKind.i64.wrap (((AU.getD ((CV (AU.getD DF.toNat default) KQ.toNat).toNat) default).length:Int)-1));rcases iS h with⟨e19,h⟩|⟨e19,h⟩
   ·obtain⟨e20,h⟩:=FK h;rcases iS h with⟨e21,h⟩|⟨e21,h⟩
    ·obtain rfl:=Option.some.inj h
     simp (maxDischargeDepth:=9) only [↓AP,AQ,↓reduceIte,Nat.reduceEqDiff,Nat.reduceLT,Nat.reduceLeDiff,Nat.reduceAdd,Nat.reduceBEq,m0,m1,m2,m3,m4,m5,m6,m7,e13,e14.1,e14.2,c15,e16,e17.1,e17.2,ZE,e19,e20.1,e20.2,e21,EJ,GZ]
    ·have e21f:(((CV (AU.getD ((CV (AU.getD DF.toNat default) KQ.toNat).toNat) default) ((Cx (AU.getD DF.toNat default) KQ.toNat).toNat))==DF)&&((Cx (AU.getD ((CV (AU.getD DF.toNat default) KQ.toNat).toNat) default) ((Cx (AU.getD DF.toNat default) KQ.toNat).toNat))==KQ))=false:=Fx.mpr e21
     obtain rfl:=Option.some.inj h
     simp (maxDischargeDepth:=9) only [↓AP,AQ,↓reduceIte,Nat.reduceEqDiff,Nat.reduceLT,Nat.reduceLeDiff,Nat.reduceAdd,Nat.reduceBEq,m0,m1,m5,m6,m7,e13,e14.1,e14.2,c15,e16,e17.1,e17.2,ZE,e19,e20.1,e20.2,e21f,EJ,Er,MP]
   ·have e19f:(KL (Cx (AU.getD DF.toNat default) KQ.toNat) (0:Int) (IntKind.i64.wrap (((AU.getD ((CV (AU.getD DF.toNat default) KQ.toNat).toNat) default).length:Int)-1)))=false:=Fx.mpr e19
    obtain rfl:=Option.some.inj h
    simp (maxDischargeDepth:=9) only [↓AP,AQ,↓reduceIte,Nat.reduceEqDiff,Nat.reduceLT,Nat.reduceAdd,Nat.reduceBEq,m0,m1,m5,m6,m7,e13,e14.1,e14.2,c15,e16,e17.1,e17.2,ZE,e19f,EJ,Er,MP]
  ·have e16f:(KL (CV (AU.getD DF.toNat default) KQ.toNat) (0:Int) (IntKind.i64.wrap ((AU.length:Int)-1)))=false:=Fx.mpr e16
   obtain rfl:=Option.some.inj h
   simp (maxDischargeDepth:=9) only [↓AP,AQ,↓reduceIte,Nat.reduceEqDiff,Nat.reduceLT,Nat.reduceAdd,Nat.reduceBEq,m0,m1,m5,m6,m7,e13,e14.1,e14.2,c15,e16f,EJ,Er,MP]
 ·obtain rfl:=Option.some.inj h
  simp (maxDischargeDepth:=9) only [↓AP,AQ,↓reduceIte,Nat.reduceEqDiff,Nat.reduceLT,m0,m2,m3,m4,m6,m7,e13,EJ,Er,KW]
def Es(AU:List (List (Int×Int)))(Ah:List Int)(Ac:List Int)(DF:Int)(s:St):Prop:=s.v 1=D.box [D.sl 79 (AL (fun x=>D.sl 87 (Ay .i64 .i64 x)) AU),D.sl 3 (AL (D.int .i64) Ah),D.sl 3 (AL (D.int .i64) Ac)]∧s.v 37=D.sl 79 (AL (fun x=>D.sl 87 (Ay .i64 .i64 x)) AU)∧s.v 38=D.int .i64 (AU.length:Int)∧s.v 39=D.int .i64 DF
def GU(AU:List (List (Int×Int)))(Ah:List Int)(Ac:List Int)(r:Unit⊕Unit)(ex:Ex)(s:St):Prop:=match r with
 | .inl q=>ex= .ret∧s.v 2=D.bool false
 | .inr q=>ex= .exit 0
theorem YA(AU:List (List (Int×Int)))(Ah:List Int)(Ac:List Int){v:Int}{s:St}{r:Unit⊕Unit}(h:MC AU Ah Ac v=some r)(hM:Es AU Ah Ac v s):CF Y.env wM (GU AU Ah Ac r) s:=by
 unfold MC at h;refine BN (c:=dm) (fun v=>Iz AU Ah Ac v) (fun v s=>Es AU Ah Ac v s) (GU AU Ah Ac) ?_ h hM;clear h hM s v r;intro DF s o hM h;unfold Iz at h;unfold Es at hM;obtain⟨m0,m1,m2,m3⟩:=hM;unfold dm;rcases iS h with⟨e10,h⟩|⟨e10,h⟩
 ·obtain⟨e11,h⟩:=FK h;rcases iS h with⟨e12,h⟩|⟨e12,h⟩
  ·obtain rfl:=Option.some.inj h
   simp (maxDischargeDepth:=9) only [↓AP,AQ,↓reduceIte,Nat.reduceEqDiff,Nat.reduceLT,m1,m2,m3,e10,e11.1,e11.2,e12,Es,GU,MP]
  ·obtain⟨AY,hl14,h⟩:=Ag h;try dsimp only at h
   simp (maxDischargeDepth:=9) only [↓AP,AQ,↓reduceIte,Nat.reduceEqDiff,Nat.reduceLT,m1,m2,m3,e10,e11.1,e11.2,e12];refine Av (Y9 AU Ah Ac DF hl14 ?_) ?_
   ·simp (maxDischargeDepth:=9) only [C9,↓reduceIte,Nat.reduceEqDiff,m0,m1,m2,m3,EJ]
   ·intro ex14 s14 hX14;rcases AY with q1000_|q1000_
    ·unfold Er at hX14;dsimp only at hX14 h;obtain⟨rfl,n14_0⟩:=hX14
     obtain rfl:=Option.some.inj h
     simp (maxDischargeDepth:=9) only [↓AP,AQ,n14_0,Es,GU,MP]
    ·unfold Er at hX14;dsimp only at hX14 h;obtain⟨rfl,n14_0,n14_1,n14_2,n14_3⟩:=hX14
     obtain rfl:=Option.some.inj h
     simp (maxDischargeDepth:=9) only [↓AP,AQ,↓reduceIte,Nat.reduceEqDiff,Nat.reduceLT,n14_0,n14_1,n14_2,n14_3,Es,GZ]
 ·obtain rfl:=Option.some.inj h
  simp (maxDischargeDepth:=9) only [↓AP,AQ,↓reduceIte,Nat.reduceLT,m2,m3,e10,Es,GU,KW]
theorem ZV(AU:List (List (Int×Int)))(Ah:List Int)(Ac:List Int){r:Bool}(h:TL AU Ah Ac=some r):Y.call 58 [D.agg [D.sl 79 (AL (fun x=>D.sl 87 (Ay .i64 .i64 x)) AU),D.sl 3 (AL (D.int .i64) Ah),D.sl 3 (AL (D.int .i64) Ac)]] []=some (D.bool r,[]):=by
 refine c58 ?_ rfl;unfold k58;unfold TL at h;have c1:=LV (AU.length:Int) (1:Int) (40:Int);rcases iS h with⟨e2,h⟩|⟨e2,h⟩
 ·obtain⟨e3,h⟩:=FK h;have c4:=mh Ah (AU.length:Int) e3;rcases iS h with⟨e5,h⟩|⟨e5,h⟩
  ·rcases iS h with⟨e6,h⟩|⟨e6,h⟩
   ·obtain⟨e7,h⟩:=FK h;have c8:=Ra Ac (0:Int) (9:Int) e7;rcases iS h with⟨e9,h⟩|⟨e9,h⟩
    ·obtain⟨Ec,hl11,h⟩:=Ag h;try dsimp only at h
     simp (maxDischargeDepth:=9) only [↓AP,AQ,↓reduceIte,Nat.reduceEqDiff,Nat.reduceLT,Nat.reduceAdd,c1,e2,c4,e5,decide_eq_true e6,c8,e9];refine Av (YA AU Ah Ac hl11 ?_) ?_
     ·simp (maxDischargeDepth:=9) only [C9,↓reduceIte,Nat.reduceEqDiff,Es]
     ·intro ex11 s11 hX11;rcases Ec with q1001_|q1001_
      ·unfold GU at hX11;dsimp only at hX11 h;obtain⟨rfl,n11_0⟩:=hX11
       obtain rfl:=Option.some.inj h
       simp (maxDischargeDepth:=9) only [↓AP,AQ,↓reduceIte,n11_0]
      ·unfold GU at hX11;dsimp only at hX11 h
       obtain rfl:=hX11
       obtain rfl:=Option.some.inj h
       simp (maxDischargeDepth:=9) only [↓AP,AQ,↓reduceIte,Nat.reduceEqDiff,Nat.reduceLT]
    ·have e9f:(DC Ac (0:Int) (9:Int))=false:=Fx.mpr e9
     obtain rfl:=Option.some.inj h
     simp (maxDischargeDepth:=9) only [↓AP,AQ,↓reduceIte,Nat.reduceEqDiff,Nat.reduceLT,Nat.reduceAdd,c1,e2,c4,e5,decide_eq_true e6,c8,e9f]
   ·obtain rfl:=Option.some.inj h
    simp (maxDischargeDepth:=9) only [↓AP,AQ,↓reduceIte,Nat.reduceEqDiff,Nat.reduceLT,Nat.reduceAdd,c1,e2,c4,e5,e6]
  ·have e5f:(UK Ah (AU.length:Int))=false:=Fx.mpr e5
   obtain rfl:=Option.some.inj h
   simp (maxDischargeDepth:=9) only [↓AP,AQ,↓reduceIte,Nat.reduceEqDiff,Nat.reduceLT,Nat.reduceAdd,c1,e2,c4,e5f]
 ·have e2f:(KL (AU.length:Int) (1:Int) (40:Int))=false:=Fx.mpr e2
  obtain rfl:=Option.some.inj h
  simp (maxDischargeDepth:=9) only [↓AP,AQ,↓reduceIte,Nat.reduceEqDiff,Nat.reduceLT,Nat.reduceAdd,c1,e2f]
def RJ(es:List (List (Int×Int)))(v i:Nat):Bool:=
 KL (CV (es.getD v default) i) 0 ((es.length:Int)-1)&&
 (KL (Cx (es.getD v default) i) 0 (((es.getD (CV (es.getD v default) i).toNat default).length:Int)-1)&&
 ((CV (es.getD (CV (es.getD v default) i).toNat default) (Cx (es.getD v default) i).toNat==(v:Int))&&(Cx (es.getD (CV (es.getD v default) i).toNat default) (Cx (es.getD v default) i).toNat==(i:Int))))
theorem UM(es:List (List (Int×Int)))(v i:Nat):RJ es v i=(KL (CV (es.getD v default) i) 0 ((es.length:Int)-1)&&
 (KL (Cx (es.getD v default) i) 0 (((es.getD (CV (es.getD v default) i).toNat default).length:Int)-1)&&
 ((CV (es.getD (CV (es.getD v default) i).toNat default) (Cx (es.getD v default) i).toNat==(v:Int))&&(Cx (es.getD (CV (es.getD v default) i).toNat default) (Cx (es.getD v default) i).toNat==(i:Int))))):=rfl
def V8(es:List (List (Int×Int)))(v:Nat):Bool:=decide ((es.getD v default).length≤6)&&(List.range (es.getD v default).length).all (RJ es v)
theorem Qq(es:List (List (Int×Int)))(v:Nat):V8 es v=(decide ((es.getD v default).length≤6)&&(List.range (es.getD v default).length).all (RJ es v)):=rfl
def O3(es:List (List (Int×Int)))(ids ins:List Int):Bool:=
 KL es.length 1 40&&(UK ids es.length&&(decide ((ins.length:Int)=es.length)&&(DC ins 0 9&&(List.range es.length).all (V8 es))))
theorem wN(es:List (List (Int×Int)))(ids ins:List Int)(h:Cw es)(v:Nat):JR es ids ins (v:Int) 0=some (if(List.range (es.getD v default).length).all (RJ es v)=true then .inr ()else .inl ()):=by
 have h1:=h.1;have h2:=h.getD v;unfold JR;refine Db (fun x=>Ev es ids ins (v:Int) x) (fun i=>(i:Int)) (es.getD v default).length (RJ es v) (.inl ()) (.inr ()) ?_ ?_
 ·intro i hi;have h3:=h.getD (CV (es.getD v default) i).toNat;simp only [Ev,JC,JB,IV];rw [UM,if_pos (CJ hi),BJ (by omega),DJ,J9 _ (by omega),J9 _ (by omega),Kh i (by omega)]
  cases r1:KL (CV (es.getD v default) i) 0 ((es.length:Int)-1)with
  |false=>simp
  |true=>
   have r1':=Gb.1 r1;rw [if_pos rfl,BJ (by omega),DJ]
   cases r2:KL (Cx (es.getD v default) i) 0 (((es.getD (CV (es.getD v default) i).toNat default).length:Int)-1)with
   |false=>simp
   |true=>
    have r2':=Gb.1 r2;rw [if_pos rfl,BJ (by omega),BJ (by omega),OH,OH]
 ·simp only [Ev,IV];rw [if_neg (Ar _)]
theorem wO(es:List (List (Int×Int)))(ids ins:List Int)(h:Cw es)(v:Nat):MB es ids ins (v:Int) 0=some (if(List.range (es.getD v default).length).all (RJ es v)=true then .inr ()else .inl ()):=by
 have h1:=h.1;have h2:=h.getD v;unfold MB;refine Db (fun x=>Iy es ids ins (v:Int) x) (fun i=>(i:Int)) (es.getD v default).length (RJ es v) (.inl ()) (.inr ()) ?_ ?_
 ·intro i hi;have h3:=h.getD (CV (es.getD v default) i).toNat;simp only [Iy,IV];rw [UM,if_pos (CJ hi),BJ (by omega),J9 _ (by omega),J9 _ (by omega),Kh i (by omega)]
  cases r1:KL (CV (es.getD v default) i) 0 ((es.length:Int)-1)with
  |false=>simp
  |true=>
   have r1':=Gb.1 r1;rw [if_pos rfl,BJ (by omega)]
   cases r2:KL (Cx (es.getD v default) i) 0 (((es.getD (CV (es.getD v default) i).toNat default).length:Int)-1)with
   |false=>simp
   |true=>
    have r2':=Gb.1 r2;rw [if_pos rfl,BJ (by omega),OH,OH]
 ·simp only [Iy,IV];rw [if_neg (Ar _)]
theorem wP(es:List (List (Int×Int)))(ids ins:List Int)(h:Cw es):JS es ids ins 0=some (if(List.range es.length).all (V8 es)=true then .inr ()else .inl ()):=by
 have h1:=h.1;unfold JS;refine Db (fun x=>Ey es ids ins x) (fun i=>(i:Int)) es.length (V8 es) (.inl ()) (.inr ()) ?_ ?_
 ·intro v hv;simp only [Ey,IV];rw [Qq,if_pos (CJ hv),BJ (by omega),wN es ids ins h v,DJ,Kh v (by omega)]
  by_cases h6:(es.getD v default).length≤6
  ·rw [if_neg (by omega),decide_eq_true h6,OH]
   cases (List.range (es.getD v default).length).all (RJ es v)<;>rfl
  ·rw [if_pos (by omega),decide_eq_false h6];rfl
 ·simp only [Ey];rw [if_neg (Ar _)]
theorem wQ(es:List (List (Int×Int)))(ids ins:List Int)(h:Cw es):MC es ids ins 0=some (if(List.range es.length).all (V8 es)=true then .inr ()else .inl ()):=by
 have h1:=h.1;unfold MC;refine Db (fun x=>Iz es ids ins x) (fun i=>(i:Int)) es.length (V8 es) (.inl ()) (.inr ()) ?_ ?_
 ·intro v hv;simp only [Iz,IV];rw [Qq,if_pos (CJ hv),BJ (by omega),wO es ids ins h v,DJ,Kh v (by omega)]
  by_cases h6:(es.getD v default).length≤6
  ·rw [if_neg (by omega),decide_eq_true h6,OH]
   cases (List.range (es.getD v default).length).all (RJ es v)<;>rfl
  ·rw [if_pos (by omega),decide_eq_false h6];rfl
 ·simp only [Iz];rw [if_neg (Ar _)]
theorem YB(es:List (List (Int×Int)))(ids ins:List Int)(h:Cw es)(h2:ids.length<1099511627776)(h3:ins.length<1099511627776):O1 es ids ins=some (O3 es ids ins):=by
 unfold O1 O3;rw [BJ h2,wP es ids ins h];unfold PQ;rw [BJ h3]
 cases KL es.length 1 40 with
 |false=>rfl
 |true=>
  cases UK ids es.length with
  |false=>rfl
  |true=>
   by_cases hl:(ins.length:Int)=es.length
   ·rw [if_pos hl,decide_eq_true hl]
    cases DC ins 0 9 with
    |false=>rfl
    |true=>cases (List.range es.length).all (V8 es)<;>rfl
   ·rw [if_neg hl,decide_eq_false hl];rfl
theorem jW(es:List (List (Int×Int)))(ids ins:List Int)(h:Cw es)(h2:ids.length<1099511627776)(h3:ins.length<1099511627776):TL es ids ins=some (O3 es ids ins):=by
 unfold TL O3;rw [BJ h2,BJ h3,wQ es ids ins h]
 cases KL es.length 1 40 with
 |false=>rfl
 |true=>
  cases UK ids es.length with
  |false=>rfl
  |true=>
   by_cases hl:(ins.length:Int)=es.length
   ·rw [if_pos hl,decide_eq_true hl]
    cases DC ins 0 9 with
    |false=>rfl
    |true=>cases (List.range es.length).all (V8 es)<;>rfl
   ·rw [if_neg hl,decide_eq_false hl];rfl
theorem YC(AU:List (List (Int×Int)))(Ah:List Int)(Ac:List Int)(h0:Cw AU)(h1:Ah.length<1099511627776)(h2:Ac.length<1099511627776):Y.call 40 [D.agg [D.sl 79 (AL (fun x=>D.sl 87 (Ay .i64 .i64 x)) AU),D.sl 3 (AL (D.int .i64) Ah),D.sl 3 (AL (D.int .i64) Ac)]] []=some (D.bool (O3 AU Ah Ac),[]):=UL AU Ah Ac (YB AU Ah Ac h0 h1 h2)
theorem jX(AU:List (List (Int×Int)))(Ah:List Int)(Ac:List Int)(h0:Cw AU)(h1:Ah.length<1099511627776)(h2:Ac.length<1099511627776):Y.call 58 [D.agg [D.sl 79 (AL (fun x=>D.sl 87 (Ay .i64 .i64 x)) AU),D.sl 3 (AL (D.int .i64) Ah),D.sl 3 (AL (D.int .i64) Ac)]] []=some (D.bool (O3 AU Ah Ac),[]):=ZV AU Ah Ac (jW AU Ah Ac h0 h1 h2)
end Go.Proofs.YtiehjihckndgkaaGreat
